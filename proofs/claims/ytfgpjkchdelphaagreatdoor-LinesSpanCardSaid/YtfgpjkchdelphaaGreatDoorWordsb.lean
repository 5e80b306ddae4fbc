import Derived.Test.YtfgpjkchdelphaaGreatDoorWordsa
import Derived.Test.YtfgpjkchdelphaaGreatDoorCodea
import Derived.Test.YtfgpjkchdelphaaGreatDoorEvD
import Derived.Test.YtfgpjkchdelphaaGreatDoorCodeb
import GoSem.Core.Next
import Derived.Sort.Grow
import Derived.Sort.Row
set_option linter.unusedSimpArgs false
set_option linter.unusedVariables false
namespace Go.Ev
open Go Go.Proofs
variable {B:Nat}
set_option maxRecDepth 100000
theorem bf.two {s w:AV} {z:Int} (h:bf s w z):s=I z/\w=.ze/\rV z/\∀ K:AV->OP,za .eql (.nil .sl) w .ze K=K (.bool true):=by
 obtain ⟨rfl,rfl,h⟩:=h;exact ⟨rfl,rfl,h,λ_=>kD⟩
theorem vI {a b:Int} {M N:Nat} (ha:a.natAbs<=M) (hb:b.natAbs<=N) (h:M*N<=9223372036854775807):rV (a*b):=by
 have:=Zbh ha hb;rw [<- Zcg] at this;unfold rV;omega
theorem zhm {a b:Int} {M:Nat} (ha:a.natAbs<=M) (hb:b.natAbs<=M) (h:2*M<=9223372036854775807):rV (a+b):=by unfold rV;omega
def rW (M:Nat) (q:Rat):Prop:=q.num.natAbs<=M/\q.den<=M
theorem rW.mono {M N:Nat} {q:Rat} (h:rW M q) (hN:M<=N):rW N q:=⟨Zbe h.1 hN,Zbe h.2 hN⟩
theorem rW.neg {M:Nat} {q:Rat} (h:rW M q):rW M (-q):=⟨by rw [Zfp,Zeb];exact h.1,by rw [Zgd];exact h.2⟩
theorem d8 {t:T AV} {l:List AV} {off n:Nat} (h:yX t 0 l.length=l) (hle:off+n<=l.length):yX t off n=(l.drop off).take n:=by
 apply Zce;intro i;by_cases hi:i<n
 .rw [yR _ _ _ _ hi,List.getElem?_take_of_lt hi,List.getElem?_drop];have:=yR t 0 l.length (off+i) (by omega);rw [h,Zbi] at this;exact this.symm
 .rw [List.getElem?_eq_none (by rw [uD];omega),List.getElem?_eq_none (by simp;omega)]
theorem Hp.qd {h0 h:T Blk} {nx:Pa} {L:List Ob} {k n off:Nat} {id:Pa} {l l2:List AV} {op:AV->OP} (H:Hp h0 h nx L) (hk:L[k]? = some (.arr id l)) (hle:off+n<=l.length) (he:(l.drop off).take n=l2):zJ n (.ptr id off) h op=op (.agg l2):=by
 obtain ⟨o,t,h1,h2⟩:=H.own _ (Zad hk);show qp (T.get .no id h) (λ_ m t=>bif Nat.ble (off+n) m then op (.agg (yX t off n)) else .no 8) (.no 9)=_;rw [h1];show (bif Nat.ble (off+n) l.length then op (.agg (yX t off n)) else .no 8)=_;rw [Zae hle,cond_true,d8 h2 hle,he]
def jL (v:AV) (q:Rat):Prop:=∃ s w s' w',v=.agg [s,w,s',w']/\bf s w q.num/\bf s' w' (q.den:Int)
theorem bf.fix4 {s w s' w':AV} {a b:Int} (h:bf s w a) (h':bf s' w' b):∀ v∈[s,w,s',w'],rU v=true:=by
 intro v hv;rcases List.mem_cons.1 hv with rfl | hv
 .exact h.fix _ (by simp)
 rcases List.mem_cons.1 hv with rfl | hv
 .exact h.fix _ (by simp)
 exact h'.fix _ hv
theorem bf.build {s w s' w':AV} {a b:Int} (h:bf s w a) (h':bf s' w' b) {K:AV->OP}:uT [(I 0),.ze,(I 0),.ze] [(0,2,.agg [s,w]),(2,2,.agg [s',w'])] K=K (.agg [s,w,s',w']):=nr rfl
theorem vU {v:AV} {q:Rat} (hv:jL v q):Pure Tryz.prog B 122 [v] (· = .bool (decide (q.den=1))):=by
 obtain ⟨s,w,s',w',rfl,h1,h2⟩:=hv;refine zX λh nx K H0 hK=>zN zQ yD 100 λhf => ?_;rw [dw.go,dw.t3,zA,dw.zy];refine H0.box (l:=[s,w,s',w']) rfl λpa h1 nx1 H1 => ?_;rw [zA,dw.zx,dw.si,dw.sj,sFx,sFx,H1.load (k:=0) (i:=0+2+1) (v:=w') rfl rfl];obtain ⟨rfl,rfl,_,e2⟩:=h2.two;rw [e2];simp only [yH];rw [sFx,sFx,H1.load (k:=0) (i:=0+2+0) rfl rfl,dw.sQ,dw.fZ];simp only [yH];rw [dh];simp only [zW];simp only [zI,zO];rw [dw.ret];exact hK _ _ _ _ _ H1 (zT rfl) (by congr 1;exact decide_eq_decide.2 (by omega))
theorem zdl {z:Int}:((z:Rat)).num=z/\(((z:Rat)).den:Int)=1:=⟨Zfd z,by rw [Zfy];rfl⟩
theorem zcc {v:AV} {z:Int} (hv:xh v z):Pure Tryz.prog B 186 [v] (λv=>jL v (z:Rat)):=by
 obtain ⟨s,w,rfl,hv⟩:=hv;refine zX λh nx K H0 hK=>zN zQ yD 100 λhf => ?_;rw [ny.go,ny.t3,zA,ny.zy];refine H0.box (l:=[s,w]) rfl λpa h1 nx1 H1 => ?_;refine H1.alloc λp h2 nx2 H2 => ?_;rw [zA,ny.zx,H2.zw (k:=1) (n:=2) rfl rfl];refine zry (by unfold rV;omega) _ _ _ _ ?_;rintro _ ⟨s',w',rfl,h'⟩ _;rw [H2.zw (k:=1) (n:=2) rfl rfl,zF,hv.build h'];refine H2.jd (l2:=[s,w,s',w']) (k:=0) rfl rfl rfl λh4 H4 => ?_;simp only [zI,zO];rw [ny.ret,H4.zw (k:=0) (n:=4) rfl rfl];exact hK _ _ _ _ _ H4 (aP (hv.fix4 h')) ⟨_,_,_,_,rfl,by rw [zdl.1];exact hv,by rw [zdl.2];exact h'⟩
theorem zky {z:Int} (h:rV z):Pure Tryz.prog B 96 [I z] (λv=>jL v (z:Rat)):=by
 refine zX λhh nx K H0 hK=>zN zQ yD 100 λhf => ?_;rw [F96.go,F96.t3,zA,F96.zy];refine H0.alloc λp h2 nx2 H2 => ?_;rw [zA,F96.zx];refine zry h _ _ _ _ ?_;intro v hv _;refine zcc hv _ _ _ _ ?_;rintro _ ⟨s,w,s',w',rfl,i1,i2⟩ _;refine H2.jd (l2:=[s,w,s',w']) (k:=0) rfl rfl rfl λh4 H4 => ?_;simp only [zI,zO];rw [F96.ret,H4.zw (k:=0) (n:=4) rfl rfl];exact hK _ _ _ _ _ H4 (aP (i1.fix4 i2)) ⟨_,_,_,_,rfl,i1,i2⟩
theorem bI {va vb:AV} {a b:Int} (hva:xh va a) (hvb:xh vb b) (hb:b≠0):Pure Tryz.prog B 195 [va,vb] (λv=>jL v (Rat.divInt a b)):=by
 have hva0:=hva;have hvb0:=hvb;obtain ⟨s,w,rfl,hva⟩:=hva;obtain ⟨s',w',rfl,hvb⟩:=hvb;refine zX λh nx K H0 hK=>zN zQ yD 100 λhf => ?_;rw [gq.go,gq.t16,zA,gq.zy];refine H0.box (l:=[s,w]) rfl λpa h1 nx1 H1 => ?_;refine H1.box (l:=[s',w']) rfl λpb h2 nx2 H2 => ?_;refine H2.alloc λp h3 nx3 H3 => ?_
 have tail:∀ {h5:T Blk} {nx5:Pa} {s1 w1 s2 w2:AV} {a' b':Int} {x5 x6 x7:AV},Hp h h5 nx5 [.arr p [I 0,.ze,I 0,.ze],.arr pb [s2,w2],.arr pa [s1,w1]]->bf s1 w1 a'->bf s2 w2 b'->1<=b'->Rat.divInt a' b'=Rat.divInt a b ->
   IR.run gq.t14 (CS Tryz.prog B) 100 (fnO gq.res K) (zi gq.res K) (gq.fr (.agg [s,w]) (.agg [s',w']) (.ptr pa 0) (.ptr pb 0) (.ptr p 0) x5 x6 x7) h5 nx5=.ok True:=by
  intro h5 nx5 s1 w1 s2 w2 a' b' x5 x6 x7 H i1 i2 hb' e;obtain ⟨d1,d2⟩:=kT (n:=a') (show 0<b' by omega);have general:∀ {x5 x6 x7:AV},IR.run gq.t13 (CS Tryz.prog B) 100 (fnO gq.res K) (zi gq.res K) (gq.fr (.agg [s,w]) (.agg [s',w']) (.ptr pa 0) (.ptr pb 0) (.ptr p 0) x5 x6 x7) h5 nx5=.ok True:=by
   intro x5 x6 x7;rw [gq.t13,zA,gq.fT,H.zw (k:=2) (n:=2) rfl rfl,H.zw (k:=1) (n:=2) rfl rfl];refine zrz ⟨_,_,rfl,i1⟩ ⟨_,_,rfl,i2⟩ _ _ _ _ ?_;rintro _ ⟨s3,w3,rfl,i3⟩ _;have g0:0<Int.gcd a' b':=Int.gcd_pos_of_ne_zero_right _ (by omega);refine H.alloc λp1 h6 nx6 H6 => ?_;refine H6.jd (l2:=[s3,w3]) (k:=0) rfl rfl rfl λh7 H7 => ?_;rw [zA,gq.di,H7.zw (k:=3) (n:=2) rfl rfl,H7.zw (k:=0) (n:=2) rfl rfl,H7.zw (k:=2) (n:=2) rfl rfl,H7.zw (k:=0) (n:=2) rfl rfl];refine zkx (c:=a' / (Int.gcd a' b':Int)) ⟨_,_,rfl,i1⟩ ⟨_,_,rfl,i3⟩  (by omega) (Int.ediv_mul_cancel (Zed ..)).symm _ _ _ _ ?_;rintro _ ⟨s4,w4,rfl,i4⟩ _;rw [H7.zw (k:=0) (n:=2) rfl rfl,zF,H7.zw (k:=2) (n:=2) rfl rfl,zF];refine zkx (c:=b' / (Int.gcd a' b':Int)) ⟨_,_,rfl,i2⟩ ⟨_,_,rfl,i3⟩  (by omega) (Int.ediv_mul_cancel (Zen ..)).symm _ _ _ _ ?_;rintro _ ⟨s5,w5,rfl,i5⟩ _;rw [i4.build i5];refine H7.jd (l2:=[s4,w4,s5,w5]) (k:=1) rfl rfl rfl λh8 H8 => ?_;simp only [zI,zO];rw [gq.ret,H8.zw (k:=1) (n:=4) rfl rfl];exact hK _ _ _ _ _ H8 (aP (i4.fix4 i5)) ⟨_,_,_,_,rfl,by rw [<- e,d1];exact i4,by rw [<- e,d2];exact i5⟩
  rw [gq.t14,zA,zA,gq.fG,sFx,H.load (k:=1) (i:=0+1) (v:=w2) rfl rfl];obtain ⟨rfl,rfl,_,e2⟩:=i2.two
  .rw [e2];simp only [yH];rw [sFx,H.load (k:=1) (i:=0+0) rfl rfl,dh,zW,zB,gq.v7];by_cases c:b'=1
   .subst c;rw [Zab rfl,zD,zA,gq.qi,H.zw (k:=2) (n:=2) rfl rfl,H.zw (k:=1) (n:=2) rfl rfl,i1.build i2];refine H.jd (l2:=[s1,w1,I 1,.ze]) (k:=0) rfl rfl rfl λh8 H8 => ?_;simp only [zI,zO];rw [gq.ret,H8.zw (k:=0) (n:=4) rfl rfl];rw [Int.gcd_one] at d1 d2;exact hK _ _ _ _ _ H8 (aP (i1.fix4 i2)) ⟨_,_,_,_,rfl,by rw [<- e,d1];simpa using i1,by rw [<- e,d2];simpa using i2⟩
   .rw [Zaa c,zC,zG];exact general
 rw [zA,zA,gq.zx,H3.zw (k:=1) (n:=2) rfl rfl];refine dH hvb0 _ _ _ _ ?_;rintro _ rfl _;rw [ji,zB,gq.v6];by_cases cb:b<0
 .rw [Zab (by unfold qD;rw [if_pos cb];decide),zD,gq.je,H3.zw (k:=2) (n:=2) rfl rfl,H3.zw (k:=1) (n:=2) rfl rfl];refine xF hva0 _ _ _ _ ?_;rintro _ ⟨s3,w3,rfl,i3⟩ _;rw [H3.zw (k:=1) (n:=2) rfl rfl,zF];refine xF hvb0 _ _ _ _ ?_;rintro _ ⟨s4,w4,rfl,i4⟩ _;refine H3.jd (l2:=[s3,w3]) (k:=2) rfl rfl rfl λh8 H8 => ?_;refine H8.jd (l2:=[s4,w4]) (k:=1) rfl rfl rfl λh9 H9 => ?_;exact tail H9 i3 i4 (by omega) (Zgf ..)
 .rw [Zaa (by unfold qD;rw [if_neg cb];split <;> decide),zC,zG];exact tail H3 hva hvb (by omega) rfl
theorem bT {q:Rat} (h:q.den=1):((q.num:Int):Rat)=q:=Rat.ext (Zfd _) (by rw [Zfy,h])
theorem sU {z:Int}:qD z=0↔z=0:=by unfold qD;split <;> (try split) <;> constructor <;> intro <;> omega
theorem bK {v:AV} {q:Rat} (hv:jL v q):Pure Tryz.prog B 110 [v] (· = I (qD q.num)):=by
 obtain ⟨s,w,s',w',rfl,i1,i2⟩:=hv;refine zX λh nx K H0 hK=>zN zQ yD 100 λhf => ?_;rw [rq.go,rq.t3,zA,rq.zy];refine H0.box (l:=[s,w,s',w']) rfl λpa h1 nx1 H1 => ?_;rw [zA,rq.zx,sFx,H1.qd (k:=0) (l2:=[s,w]) rfl (by simp) rfl];refine dH ⟨_,_,rfl,i1⟩ _ _ _ _ ?_;rintro _ rfl _;simp only [zI,zO];rw [rq.ret];exact hK _ _ _ _ _ H1 (zT rfl) rfl
theorem zdm {v:AV} {q:Rat} (hv:jL v q):Pure Tryz.prog B 107 [v] (λv=>jL v (-q)):=by
 obtain ⟨s,w,s',w',rfl,i1,i2⟩:=hv;refine zX λh nx K H0 hK=>zN zQ yD 100 λhf => ?_;rw [ru.go,ru.t3,zA,ru.zy];refine H0.box (l:=[s,w,s',w']) rfl λpa h1 nx1 H1 => ?_;refine H1.alloc λp h2 nx2 H2 => ?_;have ln:∀ op:AV->OP,zJ 2 (.ptr pa (0+0)) h2 op=op (.agg [s,w]):=λop=>H2.qd (k:=1) rfl (by simp) rfl;have ld:∀ op:AV->OP,zJ 2 (.ptr pa (0+2)) h2 op=op (.agg [s',w']):=λop=>H2.qd (k:=1) rfl (by simp) rfl;rw [zA,ru.zx,sFx,ln,sFx,ld];refine xF ⟨_,_,rfl,i1⟩ _ _ _ _ ?_;rintro _ ⟨s3,w3,rfl,i3⟩ _;rw [ld,zF,sFx,zF,i3.build i2];refine H2.jd (l2:=[s3,w3,s',w']) (k:=0) rfl rfl rfl λh4 H4 => ?_;simp only [zI,zO];rw [ru.ret,H4.zw (k:=0) (n:=4) rfl rfl];exact hK _ _ _ _ _ H4 (aP (i3.fix4 i2)) ⟨_,_,_,_,rfl,by rw [Zfp];exact i3,by rw [Zgd];exact i2⟩
theorem zmn {v:AV} {q:Rat} (hv:jL v q) (h0:q≠0):Pure Tryz.prog B 112 [v] (λv=>jL v q⁻¹):=by
 obtain ⟨s,w,s',w',rfl,i1,i2⟩:=hv;refine zX λh nx K H0 hK=>zN zQ yD 100 λhf => ?_;rw [rz.go,rz.t3,zA,rz.zy];refine H0.box (l:=[s,w,s',w']) rfl λpa h1 nx1 H1 => ?_;refine H1.alloc λp h2 nx2 H2 => ?_;have ln:∀ op:AV->OP,zJ 2 (.ptr pa (0+0)) h2 op=op (.agg [s,w]):=λop=>H2.qd (k:=1) rfl (by simp) rfl;have ld:∀ op:AV->OP,zJ 2 (.ptr pa (0+2)) h2 op=op (.agg [s',w']):=λop=>H2.qd (k:=1) rfl (by simp) rfl;rw [zA,rz.zx,sFx,ld,sFx,ln];refine bI ⟨_,_,rfl,i2⟩ ⟨_,_,rfl,i1⟩ (λe=>h0 (Rat.num_eq_zero.1 e)) _ _ _ _ ?_;rintro _ ⟨s3,w3,s4,w4,rfl,i3,i4⟩ _;refine H2.jd (l2:=[s3,w3,s4,w4]) (k:=0) rfl rfl rfl λh4 H4 => ?_;simp only [zI,zO];rw [rz.ret,H4.zw (k:=0) (n:=4) rfl rfl];rw [<- Rat.inv_def] at i3 i4;exact hK _ _ _ _ _ H4 (aP (i3.fix4 i4)) ⟨_,_,_,_,rfl,i3,i4⟩
theorem zhn {va vb:AV} {a b:Rat} {M N:Nat} (hva:jL va a) (hvb:jL vb b) (ha:rW M a) (hb:rW N b) (h:M*N<=9223372036854775807):Pure Tryz.prog B 119 [va,vb] (λv=>jL v (a*b)):=by
 obtain ⟨s,w,s',w',rfl,i1,i2⟩:=hva;obtain ⟨t,u,t',u',rfl,j1,j2⟩:=hvb;refine zX λhh nx K H0 hK=>zN zQ yD 100 λhf => ?_;rw [rA.go,rA.t3,zA,rA.zy];refine H0.box (l:=[s,w,s',w']) rfl λpa h1 nx1 H1 => ?_;refine H1.box (l:=[t,u,t',u']) rfl λpb h2 nx2 H2 => ?_;refine H2.alloc λp h3 nx3 H3 => ?_;have an:∀ op:AV->OP,zJ 2 (.ptr pa (0+0)) h3 op=op (.agg [s,w]):=λop=>H3.qd (k:=2) rfl (by simp) rfl;have ad:∀ op:AV->OP,zJ 2 (.ptr pa (0+2)) h3 op=op (.agg [s',w']):=λop=>H3.qd (k:=2) rfl (by simp) rfl;have bn:∀ op:AV->OP,zJ 2 (.ptr pb (0+0)) h3 op=op (.agg [t,u]):=λop=>H3.qd (k:=1) rfl (by simp) rfl;have bd:∀ op:AV->OP,zJ 2 (.ptr pb (0+2)) h3 op=op (.agg [t',u']):=λop=>H3.qd (k:=1) rfl (by simp) rfl;rw [zA,rA.zx,sFx,an,sFx,bn,sFx,ad,sFx,bd];refine vQ ⟨_,_,rfl,i1⟩ ⟨_,_,rfl,j1⟩ (vI ha.1 hb.1 h) _ _ _ _ ?_;intro v1 hv1 _;rw [bd,zF,sFx,zF,ad,zF,sFx,zF];refine vQ ⟨_,_,rfl,i2⟩ ⟨_,_,rfl,j2⟩ (vI (M:=M) (N:=N) ha.2 hb.2 h) _ _ _ _ ?_;intro v2 hv2 _;refine bI hv1 hv2 (Zel (gH a) (gH b)) _ _ _ _ ?_;rintro _ ⟨s3,w3,s4,w4,rfl,i3,i4⟩ _;refine H3.jd (l2:=[s3,w3,s4,w4]) (k:=0) rfl rfl rfl λh4 H4 => ?_;simp only [zI,zO];rw [rA.ret,H4.zw (k:=0) (n:=4) rfl rfl];rw [cD] at i3 i4;exact hK _ _ _ _ _ H4 (aP (i3.fix4 i4)) ⟨_,_,_,_,rfl,i3,i4⟩
theorem zr0 {va vb:AV} {a b:Rat} {M N:Nat} (hva:jL va a) (hvb:jL vb b) (ha:rW M a) (hb:rW N b) (h:2*(M*N)<=9223372036854775807):Pure Tryz.prog B 114 [va,vb] (λv=>jL v (a+b)):=by
 have hva0:=hva;have hvb0:=hvb;obtain ⟨s,w,s',w',rfl,i1,i2⟩:=hva;obtain ⟨t,u,t',u',rfl,j1,j2⟩:=hvb;refine zX λhh nx K H0 hK=>zN zQ yD 100 λhf => ?_;rw [xk.go,xk.t9,zA,xk.zy];refine H0.box (l:=[s,w,s',w']) rfl λpa h1 nx1 H1 => ?_;refine H1.box (l:=[t,u,t',u']) rfl λpb h2 nx2 H2 => ?_;refine H2.alloc λp h3 nx3 H3 => ?_;have an:∀ op:AV->OP,zJ 2 (.ptr pa (0+0)) h3 op=op (.agg [s,w]):=λop=>H3.qd (k:=2) rfl (by simp) rfl;have ad:∀ op:AV->OP,zJ 2 (.ptr pa (0+2)) h3 op=op (.agg [s',w']):=λop=>H3.qd (k:=2) rfl (by simp) rfl;have bn:∀ op:AV->OP,zJ 2 (.ptr pb (0+0)) h3 op=op (.agg [t,u]):=λop=>H3.qd (k:=1) rfl (by simp) rfl;have bd:∀ op:AV->OP,zJ 2 (.ptr pb (0+2)) h3 op=op (.agg [t',u']):=λop=>H3.qd (k:=1) rfl (by simp) rfl;have general:∀ {x5:AV},IR.run xk.t7 (CS Tryz.prog B) 100 (fnO xk.res K) (zi xk.res K) (xk.fr (.agg [s,w,s',w']) (.agg [t,u,t',u']) (.ptr pa 0) (.ptr pb 0) (.ptr p 0) x5) h3 nx3=.ok True:=by
  intro x5;rw [xk.t7,zA,xk.qi,sFx,an,sFx,bd,sFx,bn,sFx,ad,sFx,ad,sFx,bd];refine vQ ⟨_,_,rfl,i1⟩ ⟨_,_,rfl,j2⟩ (vI ha.1 (show Int.natAbs (b.den:Int)<=N from hb.2) (by omega)) _ _ _ _ ?_;intro v1 hv1 _;rw [bd,zF,sFx,zF,ad,zF,sFx,zF,ad,zF,sFx,zF,bn,zF,sFx,zF];refine vQ ⟨_,_,rfl,j1⟩ ⟨_,_,rfl,i2⟩ (vI hb.1 (show Int.natAbs (a.den:Int)<=M from ha.2) (by rw [Zax];omega)) _ _ _ _ ?_;intro v2 hv2 _;rw [bd,zF,sFx,zF,ad,zF,sFx,zF];refine zkw hv1 hv2 (zhm (M:=M*N) (by rw [Zcg];exact Zbh ha.1 hb.2) (by rw [Zcg,Zax M N];exact Zbh hb.1 ha.2) h) _ _ _ _ ?_;intro v3 hv3 _;rw [bd,zF,sFx,zF,ad,zF,sFx,zF];refine vQ ⟨_,_,rfl,i2⟩ ⟨_,_,rfl,j2⟩ (vI (M:=M) (N:=N) ha.2 hb.2 (by omega)) _ _ _ _ ?_;intro v4 hv4 _;refine bI hv3 hv4 (Zel (gH a) (gH b)) _ _ _ _ ?_;rintro _ ⟨s3,w3,s4,w4,rfl,i3,i4⟩ _;refine H3.jd (l2:=[s3,w3,s4,w4]) (k:=0) rfl rfl rfl λh4 H4 => ?_;simp only [zI,zO];rw [xk.ret,H4.zw (k:=0) (n:=4) rfl rfl];rw [cE] at i3 i4;exact hK _ _ _ _ _ H4 (aP (i3.fix4 i4)) ⟨_,_,_,_,rfl,i3,i4⟩
 rw [zA,zA,xk.zx,H3.zw (k:=2) (n:=4) rfl rfl];refine vU hva0 _ _ _ _ ?_;rintro _ rfl _;by_cases ca:a.den=1
 .rw [Zab ca];simp only [yH];rw [H3.zw (k:=1) (n:=4) rfl rfl,uGWt];refine vU hvb0 _ _ _ _ ?_;rintro _ rfl _;rw [zW,zB,xk.v5];by_cases cb:b.den=1
  .rw [Zab cb,zD,zA,xk.je,sFx,an,sFx,bn];refine zkw ⟨_,_,rfl,i1⟩ ⟨_,_,rfl,j1⟩ (zhm (M:=M*N) (Zbe ha.1 (Nat.le_mul_of_pos_right M (by have:=hb.2;have:=b.den_pos;omega))) (Zbe hb.1 (Nat.le_mul_of_pos_left N (by have:=ha.2;have:=a.den_pos;omega))) h) _ _ _ _ ?_;intro v1 hv1 _;refine zcc hv1 _ _ _ _ ?_;rintro _ ⟨s3,w3,s4,w4,rfl,i3,i4⟩ _;refine H3.jd (l2:=[s3,w3,s4,w4]) (k:=0) rfl rfl rfl λh4 H4 => ?_;simp only [zI,zO];rw [xk.ret,H4.zw (k:=0) (n:=4) rfl rfl];have e:((a.num+b.num:Int):Rat)=a+b:=by rw [Rat.intCast_add,bT ca,bT cb]
   rw [e] at i3 i4;exact hK _ _ _ _ _ H4 (aP (i3.fix4 i4)) ⟨_,_,_,_,rfl,i3,i4⟩
  .rw [Zaa cb,zC,zG];exact general
 .rw [Zaa ca];simp only [jA];rw [uGWf,zY,zB,xk.v5,zC,zG];exact general
theorem zmo {va vb:AV} {a b:Rat} {M N:Nat} (hva:jL va a) (hvb:jL vb b) (ha:rW M a) (hb:rW N b) (h:2*(M*N)<=9223372036854775807):Pure Tryz.prog B 192 [va,vb] (λv=>jL v (a-b)):=by
 have hva0:=hva;have hvb0:=hvb;obtain ⟨s,w,s',w',rfl,i1,i2⟩:=hva;obtain ⟨t,u,t',u',rfl,j1,j2⟩:=hvb;refine zX λhh nx K H0 hK=>zN zQ yD 100 λhf => ?_;rw [rC.go,rC.t3,zA,rC.zy];refine H0.box (l:=[s,w,s',w']) rfl λpa h1 nx1 H1 => ?_;refine H1.box (l:=[t,u,t',u']) rfl λpb h2 nx2 H2 => ?_;refine H2.alloc λp h3 nx3 H3 => ?_;rw [zA,rC.zx,H3.zw (k:=2) (n:=4) rfl rfl,H3.zw (k:=1) (n:=4) rfl rfl];refine zdm hvb0 _ _ _ _ ?_;intro v1 hv1 _;rw [H3.zw (k:=2) (n:=4) rfl rfl,zF];refine zr0 hva0 hv1 ha hb.neg h _ _ _ _ ?_;rintro _ ⟨s3,w3,s4,w4,rfl,i3,i4⟩ _;refine H3.jd (l2:=[s3,w3,s4,w4]) (k:=0) rfl rfl rfl λh4 H4 => ?_;simp only [zI,zO];rw [rC.ret,H4.zw (k:=0) (n:=4) rfl rfl];rw [<- Rat.sub_eq_add_neg] at i3 i4;exact hK _ _ _ _ _ H4 (aP (i3.fix4 i4)) ⟨_,_,_,_,rfl,i3,i4⟩
theorem xS {l c:List AV} {off:Nat} (h:off+c.length<=l.length):(gO l off c).length=l.length:=by
 unfold gO;rw [Zah,Zah,Zan,Zcb];omega
theorem pE {l c:List AV} {off m:Nat} (h:off+c.length<=l.length):(gO l off c)[m]? = if off<=m/\m<off+c.length then c[m-off]? else l[m]? := by
 unfold gO;have ht:(l.take off).length=off:=by rw [Zan];omega
 by_cases h1:m<off
 .rw [if_neg (by omega),Zbl,List.getElem?_append_left (by omega),List.getElem?_take_of_lt h1]
 .by_cases h2:m<off+c.length
  .rw [if_pos (by omega),Zbl,List.getElem?_append_right (by omega),ht,List.getElem?_append_left (by omega)]
  .rw [if_neg (by omega),Zbl,List.getElem?_append_right (by omega),ht,List.getElem?_append_right (by omega),List.getElem?_drop]
   congr 1;omega
theorem Hp.aS {h0 h:T Blk} {nx:Pa} {L:List Ob} {k n off:Nat} {id:Pa} {l l2:List AV} {K:Kw Prop} (H:Hp h0 h nx L) (hk:L[k]? = some (.arr id l)) (hle:off+n<=l.length) (hl2:l2.length=n) (hK:∀ h',Hp h0 h' nx (L.set k (.arr id (gO l off l2)))->K .u h' nx=.ok True):zV n (.ptr id off) (.agg l2) h nx K=.ok True:=by
 obtain ⟨o,t,h1,h2⟩:=H.own _ (Zad hk);show qp (T.get .no id h) _ _=_;rw [h1];show (bif Nat.beq l2.length n&&Nat.ble (off+n) l.length then gX l2 t off (λt'=>T.fF Blk.no (.cells o l.length t') id h λh'=>K .u h' nx) else .no 42)=_;rw [oh hl2,Zae hle];simp only [Zgj,cond_true];rw [jJ,T.um];refine hK _ (H.upd hk (by simp [Ob.names]) rfl ⟨o,_,by rw [T.get_set_same,xS (by omega)],?_⟩);rw [xS (by omega)];apply Zce;intro i;rw [pE (by omega)];by_cases hi:i<l.length
 .rw [yR _ _ _ _ hi,Zbi,u4];have hr:=yR t 0 l.length i hi;rw [h2,Zbi] at hr;by_cases hc:off<=i/\i<off+l2.length
  .rw [if_pos hc,if_pos hc,Zac,List.getElem?_eq_getElem (by omega)];rfl
  .rw [if_neg hc,if_neg hc];exact hr.symm
 .rw [List.getElem?_eq_none (by simp;omega),if_neg (by omega),List.getElem?_eq_none (by omega)]
def aQ (c:List AV) (j:Nat) (x:Rat):Prop:=∃ s w s' w',(c.drop (j*4)).take 4=[s,w,s',w']/\bf s w x.num/\bf s' w' (x.den:Int)
def sM (c:List AV) (q:List Rat):Prop:=c.length=q.length*4/\∀ j x,q[j]? = some x->aQ c j x
theorem zxk {c d:List AV} {i j:Nat} (h:∀ t,t<4->c[i+t]? = d[j+t]?):(c.drop i).take 4=(d.drop j).take 4:=by
 apply Zce;intro t;by_cases ht:t<4
 .rw [List.getElem?_take_of_lt ht,List.getElem?_take_of_lt ht,List.getElem?_drop,List.getElem?_drop];exact h t ht
 .rw [List.getElem?_eq_none (by rw [Zan];omega),List.getElem?_eq_none (by rw [Zan];omega)]
theorem aQ.same {c:List AV} {j:Nat} {x:Rat} {s w s' w':AV} (hj:j*4+4<=c.length) (h1:bf s w x.num) (h2:bf s' w' (x.den:Int)):aQ (gO c (j*4) [s,w,s',w']) j x:=by
 refine ⟨s,w,s',w',?_,h1,h2⟩;have:[s,w,s',w']=(([s,w,s',w']:List AV).drop 0).take 4:=rfl;rw [this];refine zxk λt ht => ?_;rw [pE (by simpa using hj),if_pos ⟨by omega,by simp;omega⟩];simp
theorem aQ.other {c:List AV} {i j:Nat} {x:Rat} {s w s' w':AV} (hj:j*4+4<=c.length) (hij:i≠j) (h:aQ c i x):aQ (gO c (j*4) [s,w,s',w']) i x:=by
 obtain ⟨a,b,a',b',e,h1,h2⟩:=h;refine ⟨a,b,a',b',?_,h1,h2⟩;rw [<- e];refine zxk λt ht => ?_;rw [pE (by simpa using hj),if_neg];simp only [Zbm,Zfa];omega
theorem sM.put {c:List AV} {q:List Rat} {j:Nat} {x:Rat} {s w s' w':AV} (h:sM c q) (hj:j<q.length) (h1:bf s w x.num) (h2:bf s' w' (x.den:Int)):sM (gO c (j*4) [s,w,s',w']) (q.set j x):=by
 have hl:j*4+4<=c.length:=by rw [h.1];omega
 refine ⟨by rw [xS (by simpa using hl),Zbk];exact h.1,λi y hy => ?_⟩;by_cases e:i=j
 .subst e;rw [List.getElem?_set_self hj] at hy;obtain rfl:=Option.some.inj hy;exact aQ.same hl h1 h2
 .rw [List.getElem?_set_ne (by omega)] at hy;exact aQ.other hl e (h.2 i y hy)
theorem sM.get {c:List AV} {q:List Rat} {j:Nat} {x:Rat} (h:sM c q) (hx:q[j]? = some x):∃ cs,(c.drop (j*4)).take 4=cs/\j*4+4<=c.length/\j<q.length/\jL (.agg cs) x:=by
 obtain ⟨s,w,s',w',e,h1,h2⟩:=h.2 j x hx;have hj:=(List.getElem?_eq_some_iff.1 hx).1;exact ⟨_,e,by rw [h.1];omega,hj,s,w,s',w',rfl,h1,h2⟩
abbrev rwV (n:Nat) (r:Pa):AV:=.sl r 0 n (some n) 4
theorem oZ {r:Pa} {n j:Nat} {z:Int} {op:AV->OP} (hz:z=(j:Int)) (hj:j<n):zH 4 (rwV n r) (I z) op=op (.ptr r (j*4)):=by
 subst hz;rw [u9 hj,Zbi]
theorem zxl {n j:Nat} {l:List AV} {z:Int} {op:AV->OP} (hz:z=(j:Int)) (hj:j<n):zH 4 (.lst 4 n l) (I z) op=op (.fp (l.drop (j*4))):=fE hz hj
abbrev V (m:Nat):AV:=.int .u32 (m:Int)
theorem zkz {m:Nat} (h:m<4294967296):IntKind.wrap .u32 (m:Int)=(m:Int):=by
 have e:IntKind.wrap .u32 (m:Int)=(m:Int)%4294967296:=by
  unfold IntKind.wrap;first | rfl | simp [IntKind.bits,IntKind.signed] | skip
 rw [e];omega
theorem vQuo {a b:Nat} {K:AV->OP} (hb:1<=b) (ha:a<4294967296):za .quo .int (V a) (V b) K=K (V (a / b)):=by
 have e:za .quo .int (V a) (V b) K=(bif ieq (b:Int) 0 then Out.no 5 else wm (IntKind.u32.wrap ((a:Int).tdiv b)) λz=>K (.int .u32 z)):=rfl;have h0:ieq (b:Int) 0=false:=by
  cases b with
  | zero=>omega
  | succ b=>rfl
 have h1:a / b<=a:=Zbz a b;rw [e,h0,cond_false,jS,show (a:Int).tdiv b=((a / b:Nat):Int) from rfl]
 generalize a / b=q at *
 rw [zkz (by omega)]
theorem vRem {a b:Nat} {K:AV->OP} (hb:1<=b):za .rem .int (V a) (V b) K=K (V (a%b)):=by
 have e:za .rem .int (V a) (V b) K=(bif ieq (b:Int) 0 then Out.no 5 else wm ((a:Int).tmod b) λz=>K (.int .u32 z)):=rfl;have h0:ieq (b:Int) 0=false:=by
  cases b with
  | zero=>omega
  | succ b=>rfl
 rw [e,h0,cond_false,jS,show (a:Int).tmod b=((a%b:Nat):Int) from rfl]
theorem vMul {a b:Nat} {K:AV->OP} (h:a*b<4294967296):za .mul .int (V a) (V b) K=K (V (a*b)):=by
 have e:za .mul .int (V a) (V b) K=wm (IntKind.u32.wrap ((a:Int)*b)) λz=>K (.int .u32 z):=rfl;rw [e,jS,show (a:Int)*b=((a*b:Nat):Int) by rw [Zdm],zkz h]
theorem vAdd {a b:Nat} {K:AV->OP} (h:a+b<4294967296):za .add .int (V a) (V b) K=K (V (a+b)):=by
 have e:za .add .int (V a) (V b) K=wm (IntKind.u32.wrap ((a:Int)+b)) λz=>K (.int .u32 z):=rfl;rw [e,jS,show (a:Int)+b=((a+b:Nat):Int) by rw [Int.natCast_add],zkz h]
theorem zxm {a:Nat} {K:AV->OP} (h:a<4294967296):kL .u32 (U a) K=K (V a):=by
 show wm (uQ .u32 (a:Int)) (λz=>K (.int .u32 z))=_;rw [jS,uW,zkz h]
def SMQ:List UInt8:=[48,48,48,49,48,50,48,51,48,52,48,53,48,54,48,55,48,56,48,57,49,48,49,49,49,50,49,51,49,52,49,53,49,54,49,55,49,56,49,57,50,48,50,49,50,50,50,51,50,52,50,53,50,54,50,55,50,56,50,57,51,48,51,49,51,50,51,51,51,52,51,53,51,54,51,55,51,56,51,57,52,48,52,49,52,50,52,51,52,52,52,53,52,54,52,55,52,56,52,57,53,48,53,49,53,50,53,51,53,52,53,53,53,54,53,55,53,56,53,57,54,48,54,49,54,50,54,51,54,52,54,53,54,54,54,55,54,56,54,57,55,48,55,49,55,50,55,51,55,52,55,53,55,54,55,55,55,56,55,57,56,48,56,49,56,50,56,51,56,52,56,53,56,54,56,55,56,56,56,57,57,48,57,49,57,50,57,51,57,52,57,53,57,54,57,55,57,56,57,57]
abbrev C8 (d:Nat):AV:=.int .u8 ((48+d:Nat):Int)
theorem qdb:∀ d<100,(SMQ[d*2]?).map UInt8.toNat=some (48+d / 10)/\(SMQ[d*2+1]?).map UInt8.toNat=some (48+d%10):=by decide
theorem smIx {i c:Nat} {K:AV->OP} (h:(SMQ[i]?).map UInt8.toNat=some (48+c)):jM (.str SMQ) (V i) K=K (C8 c):=by
 show (match SMQ[i]? with
  | some b=>dx b.toNat λn=>K (.int .u8 (.ofNat n))
  | none=>.no 16)=_
 cases hs:SMQ[i]? with
 | none=>rw [hs] at h;cases h
 | some b =>
  rw [hs] at h;have h:b.toNat=48+c:=Option.some.inj h;simp only [yJ,h];rfl
theorem zcd {h0 h:T Blk} {nx:Pa} {L:List Ob} {k off n m p d:Nat} {id:Pa} {l:List AV} {c1 c2:Int} {cap:Option Nat} {K:KW3} (H:Hp h0 h nx L) (hk:L[k]? = some (.arr id l)) (ho:off+n<=l.length) (hm:p+1<n) (hn:n<=1000) (hd:d<100) (e1:(m:Int)-c1=((p+1:Nat):Int)) (e2:(m:Int)-c2=(p:Int)) (hK:∀ h',Hp h0 h' nx (L.set k (.arr id ((l.set (off+(p+1)) (C8 (d%10))).set (off+p) (C8 (d / 10)))))->K .u h' nx=.ok True) :
  (za .sub .int (I (m:Int)) (I c1) λv1=>za .sub .int (I (m:Int)) (I c2) λv2=>za .add .int (V (d*2)) (.int .u32 1) λv3=>jM (.str SMQ) v3 λv4=>jM (.str SMQ) (V (d*2)) λv5=>zH 1 (.sl id off n cap 1) v1 λv6=>zV 1 v6 v4 h nx λ_ h8 n9=>(jM (.str SMQ) (V (d*2)) λv15=>zL v15 v5 (zL (V (d*2)) (V (d*2)) ((za .sub .int (I (m:Int)) (I c2) λv14=>zL v14 v2 (zL (I (m:Int)) (I (m:Int)) (zL (.sl id off n cap 1) (.sl id off n cap 1) (zH 1 (.sl id off n cap 1) v2 λv10=>zV 1 v10 v5 h8 n9 K))))))))
   = .ok True:=by
 obtain ⟨s1,s2⟩:=qdb d hd;have hkl:=(List.getElem?_eq_some_iff.1 hk).1;rw [kz (by omega),e1,kz (by omega),e2,show (AV.int .u32 1)=V 1 from rfl,vAdd (by omega),smIx s2,smIx s1,u9 (by omega),Zbo];refine H.store hk (by omega) rfl λh1 H1 => ?_;simp only [smIx s1,zF];rw [kz (by omega),e2];simp only [zF];rw [u9 (by omega),Zbo];refine H1.store (k:=k) (List.getElem?_set_self hkl) (by rw [Zbk];omega) rfl λh2 H2 => ?_;rw [Zdg] at H2;exact hK h2 H2
structure Wr (l l':List AV) (off nd m u:Nat):Prop where
 len:l'.length=l.length
 get:∀ i,l'[i]? = if off+m<=i/\i<off+nd then some (C8 (u / 10 ^ (off+nd-1-i)%10)) else l[i]?
theorem Wr.zero (l:List AV) (off nd u:Nat):Wr l l off nd nd u:=⟨rfl,λi=>by rw [if_neg (by omega)]⟩
theorem Wr.one {l l':List AV} {off nd p u e d:Nat} (h:Wr l l' off nd (p+1) u) (ho:off+nd<=l.length) (hp:p+1<=nd) (he:nd-(p+1)=e) (hd:d=u / 10 ^ e%10):Wr l (l'.set (off+p) (C8 d)) off nd p u:=by
 refine ⟨by rw [Zbk];exact h.len,λi => ?_⟩;have hl:=h.len;by_cases c:i=off+p
 .subst c;rw [List.getElem?_set_self (by omega),if_pos (by omega),show off+nd-1-(off+p)=e by omega,hd]
 .rw [List.getElem?_set_ne (by omega),h.get i];by_cases c2:off+(p+1)<=i/\i<off+nd
  .rw [if_pos c2,if_pos (by omega)]
  .rw [if_neg c2,if_neg (by omega)]
theorem Wr.pair {l l':List AV} {off nd p u e d:Nat} (h:Wr l l' off nd (p+2) u) (ho:off+nd<=l.length) (hp:p+2<=nd) (he:nd-(p+2)=e) (hd:d=u / 10 ^ e%100):Wr l ((l'.set (off+(p+1)) (C8 (d%10))).set (off+p) (C8 (d / 10))) off nd p u :=
 (h.one (p:=p+1) (e:=e) (d:=d%10) ho (by omega) (by omega) (by omega)).one (e:=e+1) ho (by omega) (by omega) (by
  rw [Zbr,<- Zfq,hd];omega)
theorem dvE {u v e j:Nat} (h:v=u / 10 ^ e):u / 10 ^ (e+j)=v / 10 ^ j:=by rw [Zdf,<- Zfq,h]
theorem C8v {a:Nat} {K:AV->OP} (h:a<10):kL .u8 (V (48+a)) K=K (C8 a):=by
 show wm (uQ .u8 ((48+a:Nat):Int)) (λz=>K (.int .u8 z))=_;rw [jS,uW];have e:IntKind.wrap .u8 ((48+a:Nat):Int)=((48+a:Nat):Int)%256:=by
  unfold IntKind.wrap;first | rfl | simp [IntKind.bits,IntKind.signed]
 rw [e,show ((48+a:Nat):Int)%256=((48+a:Nat):Int) by omega]
theorem zzn {h0 h:T Blk} {nx p:Pa} {L:List Ob} {k off nd u:Nat} {id:Pa} {l:List AV} {cap:Option Nat} {K:Kw Prop} (H:Hp h0 h nx L) (hk:L[k]? = some (.arr id l)) (ho:off+nd<=l.length) (hn:nd<=100) (hu:u<10 ^ nd) (hw:u<18446744073709551616)
  (hK:∀ l' h' nx',Wr l l' off nd 0 u->Hp h0 h' nx' (L.set k (.arr id l'))->K (.tup []) h' nx'=.ok True):(CS Tryz.prog B).fn 317 p [.sl id off nd cap 1,U u] h nx K=.ok True:=by
 refine zN zQ yD 1000 λhf => ?_;have hkl:=(List.getElem?_eq_some_iff.1 hk).1;have hid:∀ {l':List AV},(L.set k (.arr id l'))[k]? = some (.arr id l'):=List.getElem?_set_self hkl
 have s0:∀ (q v:Nat) (l':List AV) (h':T Blk) (nx':Pa) (x1 x3 x4 x5 x6 x7 x8 x9 x11 x12 x13 x14 x15 x16 x17 x18:AV),q<=1->q<=nd->v=u / 10 ^ (nd-q)->v<10 ^ q->Wr l l' off nd q u->Hp h0 h' nx' (L.set k (.arr id l')) ->
   IR.run zh.t55 (CS Tryz.prog B) 1000 (fnO zh.res K) (zi zh.res K) (zh.fr (.sl id off nd cap 1) x1 (I (q:Int)) x3 x4 x5 x6 x7 x8 x9 (V v) x11 x12 x13 x14 x15 x16 x17 x18) h' nx'=.ok True:=by
  intro q v l' h' nx' x1 x3 x4 x5 x6 x7 x8 x9 x11 x12 x13 x14 x15 x16 x17 x18 hq hqn hv hv10 hW H';rw [zh.t55,zA,zh.qai,xq,zB,zh.v18];by_cases c:q=0
  .subst c;rw [Zaa (by omega),zC,zG];rw [zh.ret];exact hK _ _ _ hW H'
  .obtain rfl:q=1:=by omega
   have hv10:v<10:=by omega
   rw [Zab (by omega),zD,zh.qaj,show (AV.int .u32 48)=V 48 from rfl,vAdd (by omega),C8v hv10,show (I 0)=AV.int .i64 ((0:Nat):Int) from rfl,u9 (by omega),Nat.zero_mul];have hl:=hW.len;refine H'.store hid (by omega) rfl λh2 H2 => ?_;rw [Zdg] at H2;rw [zh.ret];exact hK _ _ _ (hW.one (p:=0) (e:=nd-1) ho (by omega) rfl (by rw [<- hv];omega)) H2
 have s1:∀ (q v:Nat) (l':List AV) (h':T Blk) (nx':Pa) (x1 x3 x4 x5 x6 x7 x8 x9 x11 x12 x13 x14 x15 x16 x17 x18:AV),q<=3->q<=nd->v=u / 10 ^ (nd-q)->v<10 ^ q->v<4294967296->Wr l l' off nd q u->Hp h0 h' nx' (L.set k (.arr id l')) ->
   IR.run zh.t56 (CS Tryz.prog B) 1000 (fnO zh.res K) (zi zh.res K) (zh.fr (.sl id off nd cap 1) x1 (I (q:Int)) x3 x4 x5 x6 x7 x8 x9 (V v) x11 x12 x13 x14 x15 x16 x17 x18) h' nx'=.ok True:=by
  intro q v l' h' nx' x1 x3 x4 x5 x6 x7 x8 x9 x11 x12 x13 x14 x15 x16 x17 x18 hq hqn hv hv10 hv32 hW H';rw [zh.t56,zA,zA,zh.qaf,fe,zB,zh.v17];by_cases c:2<=q
  .obtain ⟨p,rfl⟩:∃ p,q=p+2:=⟨q-2,by omega⟩;have hl:=hW.len;have hp:10 ^ (p+2)=10 ^ p*100:=by rw [Zdf]
   rw [Zab (by omega),zD,zA,zh.qag,show (AV.int .u32 100)=V 100 from rfl,vRem (by omega),show (AV.int .u32 2)=V 2 from rfl,vMul (by omega),zA,zh.zfz,show (AV.int .u32 100)=V 100 from rfl,vQuo (by omega) hv32,zA,zh.znd];refine zcd (p:=p) H' hid (by omega) (by omega) (by omega) (by omega) (by omega) (by omega) λh2 H2 => ?_;rw [Zdg] at H2;rw [zh.qah,kz (by omega),show ((p+2:Nat):Int)-2=(p:Int) by omega];exact s0 p (v / 100) _ _ _ _ _ _ _ _ _ _ _ _ _ _ _ _ _ _ _ (by omega) (by omega) (by rw [show nd-p=nd-(p+2)+2 by omega,dvE hv]) (by rw [hp] at hv10;exact Zdx (by rw [Zax];exact hv10)) (hW.pair ho (by omega) rfl (by rw [<- hv])) H2
  .rw [Zaa (by omega),zC,zG];exact s0 q v _ _ _ _ _ _ _ _ _ _ _ _ _ _ _ _ _ _ _ (by omega) hqn hv hv10 hW H'
 have hW0:=Wr.zero l off nd u;have H0:Hp h0 h nx (L.set k (.arr id l)):=by
  have e:L.set k (.arr id l)=L:=by
   refine Zce λi => ?_;by_cases c:i=k
   .subst c;rw [List.getElem?_set_self hkl,hk]
   .rw [List.getElem?_set_ne (by omega)]
  rw [e];exact H
 rw [zh.go,zh.t60,zA,zh.zy,yN,zA,zK];refine zh.qae (λm x1 x2 h' nx'=>∃ (v:Nat) (l':List AV),x1=U v/\x2=I (m:Int)/\m<=nd/\v=u / 10 ^ (nd-m)/\v<10 ^ m/\v<18446744073709551616/\Wr l l' off nd m u/\Hp h0 h' nx' (L.set k (.arr id l'))) (m:=nd) (by omega) ⟨u,l,rfl,rfl,Zag _,by rw [Zct,Nat.pow_zero,Nat.div_one],hu,hw,hW0,H0⟩ ?_;rintro m y1 y2 y3 y4 y5 y6 y7 y8 y9 y15 h3 nx3 R ⟨v,l',rfl,rfl,hm,hv,hv10,hvw,hW,H3⟩ hR;have hl:=hW.len;rw [zh.t24,zA,zA,zh.zx,fe,zB,zh.v15];by_cases c:8<=m
 .obtain ⟨q,rfl⟩:∃ q,m=q+8:=⟨m-8,by omega⟩;have hp:10 ^ (q+8)=10 ^ q*100000000:=by rw [Zdf]
  have w100:(AV.int .u32 100)=V 100:=rfl;have w2:(AV.int .u32 2)=V 2:=rfl;have w4:(AV.int .u32 10000)=V 10000:=rfl;rw [Zab (by omega),zD,zG,zK,zA,zh.fJ,show (AV.int .u64 100000000)=U 100000000 from rfl,uRem (by omega) hvw,zxm (by omega),zA,zh.fG,show (AV.int .u64 100000000)=U 100000000 from rfl,uQuo (by omega) hvw,zA,zh.qi,w4,vQuo (by omega) (by omega),vRem (by omega),zA,zh.fC,w100,w2,vQuo (by omega) (by omega),vMul (by omega),vRem (by omega),vMul (by omega),zA,zh.fH,w100,w2,vQuo (by omega) (by omega),vMul (by omega),vRem (by omega),vMul (by omega),zA,zh.fK];refine zcd (p:=q+6) H3 hid (by omega) (by omega) (by omega) (by omega) (by omega) (by omega) λh4 H4 => ?_;rw [Zdg] at H4;have W1:=hW.pair (p:=q+6) (d:=v%100000000%10000%100) ho (by omega) rfl (by rw [<- hv];omega);rw [zA,zh.fT];refine zcd (p:=q+4) H4 hid (by rw [W1.len];omega) (by omega) (by omega) (by omega) (by omega) (by omega) λh5 H5 => ?_;rw [Zdg] at H5;have W2:=W1.pair (p:=q+4) (e:=nd-(q+8)+2) (d:=v%100000000%10000 / 100) ho (by omega) (by omega) (by rw [dvE hv];omega);rw [zA,zh.di];refine zcd (p:=q+2) H5 hid (by rw [W2.len];omega) (by omega) (by omega) (by omega) (by omega) (by omega) λh6 H6 => ?_;rw [Zdg] at H6;have W3:=W2.pair (p:=q+2) (e:=nd-(q+8)+4) (d:=v%100000000 / 10000%100) ho (by omega) (by omega) (by rw [dvE hv];omega);rw [zA,zh.rP];refine zcd (p:=q) H6 hid (by rw [W3.len];omega) (by omega) (by omega) (by omega) (by omega) (by omega) λh7 H7 => ?_;rw [Zdg] at H7;have W4:=W3.pair (p:=q) (e:=nd-(q+8)+6) (d:=v%100000000 / 10000 / 100) ho (by omega) (by omega) (by rw [dvE hv];omega);rw [zh.fU,kz (by omega),show ((q+8:Nat):Int)-8=(q:Int) by omega];exact hR q _ _ _ _ _ _ _ _ _ _ _ _ (by omega) ⟨v / 100000000,_,rfl,rfl,by omega,by rw [show nd-q=nd-(q+8)+8 by omega,dvE hv],by rw [hp] at hv10;exact Zdx (by rw [Zax];exact hv10),by omega,W4,H7⟩
 have h8:10 ^ m<=10 ^ 7:=Zdo (by omega) (by omega);have hv32:v<10000000:=by omega
 rw [Zaa (by omega),zC,zZ,yE,zA,zh.zac,zxm (by omega),zA,zA,zh.zfj,fe,zB,zh.v16];by_cases c4:4<=m
 .obtain ⟨q,rfl⟩:∃ q,m=q+4:=⟨m-4,by omega⟩;have hp:10 ^ (q+4)=10 ^ q*10000:=by rw [Zdf]
  have w100:(AV.int .u32 100)=V 100:=rfl;have w2:(AV.int .u32 2)=V 2:=rfl;have w4:(AV.int .u32 10000)=V 10000:=rfl;rw [Zab (by omega),zD,zA,zh.zn1,w4,vRem (by omega),zA,zh.zfr,w4,vQuo (by omega) (by omega),zA,zh.zfs,w100,w2,vQuo (by omega) (by omega),vMul (by omega),vRem (by omega),vMul (by omega),zA,zh.zft];refine zcd (p:=q+2) H3 hid (by omega) (by omega) (by omega) (by omega) (by omega) (by omega) λh4 H4 => ?_;rw [Zdg] at H4;have W1:=hW.pair (p:=q+2) (d:=v%10000%100) ho (by omega) rfl (by rw [<- hv];omega);rw [zA,zh.zad];refine zcd (p:=q) H4 hid (by rw [W1.len];omega) (by omega) (by omega) (by omega) (by omega) (by omega) λh5 H5 => ?_;rw [Zdg] at H5;have W2:=W1.pair (p:=q) (e:=nd-(q+4)+2) (d:=v%10000 / 100) ho (by omega) (by omega) (by rw [dvE hv];omega);rw [zh.zab,kz (by omega),show ((q+4:Nat):Int)-4=(q:Int) by omega];exact s1 q (v / 10000) _ _ _ _ _ _ _ _ _ _ _ _ _ _ _ _ _ _ _ (by omega) (by omega) (by rw [show nd-q=nd-(q+4)+4 by omega,dvE hv]) (by rw [hp] at hv10;exact Zdx (by rw [Zax];exact hv10)) (by omega) W2 H5
 .rw [Zaa (by omega),zC,zG];exact s1 m v _ _ _ _ _ _ _ _ _ _ _ _ _ _ _ _ _ _ _ (by omega) hm hv hv10 (by omega) hW H3
def tZ (d u:Nat):List UInt8:=(List.range d).map λi=>UInt8.ofNat (48+u / 10 ^ (d-1-i)%10)
def NdOk (u d:Nat):Prop:=IsNd u d\/u=0/\d=1
def sgT (z:Int):List UInt8:=if z<0 then [45] else []
theorem sSsN {s:List UInt8} {a b:Nat} {K:AV->OP} (hab:a<=b) (hb:b<=s.length):jR (.str s) (some (I (a:Int))) (some (I (b:Int))) K=K (.str ((s.drop a).take (b-a))):=by
 show (match bnd (some (I (b:Int))) s.length s.length with
   | none=>Out.no 18
   | some h=>match bnd (some (I (a:Int))) h 0 with
    | none=>.no 18
    | some l=>K (.str ((s.drop l).take (h-l))))=_
 rw [wF hb]
 dsimp only
 rw [wF hab]
def DG:List UInt8:=[48,49,50,51,52,53,54,55,56,57,97,98,99,100,101,102,103,104,105,106,107,108,109,110,111,112,113,114,115,116,117,118,119,120,121,122]
theorem zzo:∀ n<10,(DG.drop n).take 1=tZ 1 n:=by decide +kernel
theorem zzp:∀ n<100,(SMQ.drop (n*2)).take 2=tZ 2 n:=by decide +kernel
theorem zr1 {n:Nat} (h:n<100):Pure Tryz.prog B 315 [I (n:Int)] (λv=>∃ d,NdOk n d/\v=.str (tZ d n)):=by
 intro p h' nx K hK;refine zN zQ yD 10 λhf => ?_;rw [mh.go,mh.t9,zA,mh.zy,zA,zA,mh.zx,ji,zB,mh.v2];by_cases c:n<10
 .rw [Zab (by omega),zD,zA,mh.je,jc (by omega),show (n:Int)+1=((n+1:Nat):Int) by omega];refine Eq.trans (sSsN (s:=DG) (by omega) (by show _<=36;omega)) ?_;simp only [zI,zO];rw [mh.ret,show n+1-n=1 by omega,zzo n c];refine hK _ ⟨1,?_,rfl⟩ hf;by_cases c0:n=0
  .exact .inr ⟨c0,rfl⟩
  .exact .inl ⟨by omega,by omega,by omega,by omega⟩
 .rw [Zaa (by omega),zC,zG,zA,mh.qi,fO (by omega),show (n:Int)*2=((n*2:Nat):Int) by omega,fO (by omega),show (n:Int)*2=((n*2:Nat):Int) by omega,jc (by omega),show ((n*2:Nat):Int)+2=((n*2+2:Nat):Int) by omega];refine Eq.trans (sSsN (s:=SMQ) (by omega) (by show _<=200;omega)) ?_;simp only [zI,zO];rw [mh.ret,show n*2+2-n*2=2 by omega,zzp n h];exact hK _ ⟨2,.inl ⟨by omega,by omega,by omega,by omega⟩,rfl⟩ hf
theorem zk0:∀ l:List Nat,aT (l.map C8)=some (l.map λd=>UInt8.ofNat (48+d))
 | []=>rfl
 | d::l=>by
  show (match aT (l.map C8) with
   | some s=>some (UInt8.ofNat (48+d)::s)
   | none=>none)=_
  rw [zk0 l];rfl
theorem Hp.b2s {h0 h:T Blk} {nx:Pa} {L:List Ob} {k n off:Nat} {id:Pa} {cap:Option Nat} {l:List AV} {s:List UInt8} {op:AV->OP} (H:Hp h0 h nx L) (hk:L[k]? = some (.arr id l)) (hle:off+n<=l.length) (he:aT ((l.drop off).take n)=some s):sB2s (.sl id off n cap 1) h op=op (.str s):=by
  obtain ⟨o,t,h1,h2⟩:=H.own _ (Zad hk)
  show qp (T.get .no id h) (λ_ m t=>bif Nat.ble (off+n) m then (match aT (yX t off n) with
          | some s=>op (.str s)
          | none=>.no 21) else .no 21) (.no 21)=_
  rw [h1]
  show (bif Nat.ble (off+n) l.length then (match aT (yX t off n) with
          | some s=>op (.str s)
          | none=>.no 21) else .no 21)=_
  rw [Zae hle,cond_true,d8 h2 hle,he]
theorem Wr.text {l l':List AV} {off nd u:Nat} (h:Wr l l' off nd 0 u) (ho:off+nd<=l.length):(l'.drop off).take nd=((List.range nd).map λi=>u / 10 ^ (nd-1-i)%10).map C8:=by
 refine Zce λi => ?_;by_cases c:i<nd
 .rw [List.getElem?_take_of_lt c,List.getElem?_drop,h.get,if_pos (by omega),List.getElem?_map,List.getElem?_map,List.getElem?_range c,show off+nd-1-(off+i)=nd-1-i by omega];rfl
 .rw [List.getElem?_eq_none (by rw [Zan];omega),List.getElem?_eq_none (by rw [Zal,Zal,Zfo];omega)]
theorem zr2 (d u:Nat):((List.range d).map λi=>u / 10 ^ (d-1-i)%10).map (λd=>UInt8.ofNat (48+d))=tZ d u:=by
 unfold tZ;rw [List.map_map];rfl
theorem zk1 {id:Pa} {d:Nat} {K:AV->OP} (hd:d<=20):dJ 1 24 (.ptr id 0) (some (I 1)) (some (I ((1+d:Nat):Int))) none K=K (.sl id 1 d (some 23) 1):=by
 have e1:gQ (I ((1+d:Nat):Int)) 24=some (1+d):=by
  show (bif Nat.ble (1+d) 24 then some (1+d) else none)=_;rw [Zae (by omega)];rfl
 have e2:gQ (I 1) (1+d)=some 1:=by
  show (bif Nat.ble 1 (1+d) then some 1 else none)=_;rw [Zae (by omega)];rfl
 show (match gQ (I ((1+d:Nat):Int)) 24 with
  | none=>Out.no 17
  | some h=>match gQ (I 1) h with
   | none=>.no 17
   | some l=>bif Nat.beq 24 l then K (.sl id 0 (h-l) (some 0) 1)
    else dx (0+l*1) λoff=>dx (h-l) λh=>dx (24-l) λm=>K (.sl id off h (some m) 1))=_
 rw [e1];dsimp only;rw [e2];dsimp only;rw [show Nat.beq 24 1=false from rfl,cond_false,yJ,yJ,yJ,show 1+d-1=d by omega]
theorem zu7 {id:Pa} {d:Nat} {K:AV->OP} (hd:d<=20):dJ 1 24 (.ptr id 0) none (some (I ((1+d:Nat):Int))) none K=K (.sl id 0 (1+d) (some 24) 1):=by
 have e1:gQ (I ((1+d:Nat):Int)) 24=some (1+d):=by
  show (bif Nat.ble (1+d) 24 then some (1+d) else none)=_;rw [Zae (by omega)];rfl
 show (match gQ (I ((1+d:Nat):Int)) 24 with
  | none=>Out.no 17
  | some h=>bif Nat.beq 24 0 then K (.sl id 0 (h-0) (some 0) 1)
    else dx (0+0*1) λoff=>dx (h-0) λh=>dx (24-0) λm=>K (.sl id off h (some m) 1))=_
 rw [e1];dsimp only;rw [show Nat.beq 24 0=false from rfl,cond_false,yJ,yJ,yJ];rfl
theorem qdc {z:Int} {K:AV->OP} (h : -9223372036854775808<=z/\z<0):sNeg (U (z+18446744073709551616).toNat) K=K (U z.natAbs):=by
 show wm (uQ .u64 (0-(((z+18446744073709551616).toNat:Nat):Int))) (λz=>K (.int .u64 z))=_;rw [jS,uW,zrh,show (0-(((z+18446744073709551616).toNat:Nat):Int))%18446744073709551616=(z.natAbs:Int) by omega]
theorem zzq {z:Int} (hz : -9223372036854775808<=z/\z<=9223372036854775807):Pure Tryz.prog B 314 [I z,I 10] (λv=>∃ d,NdOk z.natAbs d/\v=.str (sgT z++tZ d z.natAbs)):=by
 refine zX λh nx K H0 hK=>zN zQ yD 1000 λhf => ?_;have ret:∀ {d:Nat} {h1 nx1 L},Hp h h1 nx1 L->NdOk z.natAbs d->K (.str (sgT z++tZ d z.natAbs)) h1 nx1=.ok True:=λH hd=>hK _ _ _ _ _ H (zT rfl) ⟨_,hd,rfl⟩
 have rest:∀ (b:Pa) (l:List AV) (h1:T Blk) (nx1:Pa) (x5 x6 x7 x8 x9 x10:AV),l.length=24->z≠0->Hp h h1 nx1 [.arr b l] ->
   IR.run yh.t26 (CS Tryz.prog B) 1000 (fnO yh.res K) (zi yh.res K) (yh.fr (I z) (I 10) (.str []) (.ptr b 0) (U z.natAbs) x5 x6 x7 x8 x9 x10) h1 nx1=.ok True:=by
  intro b l h1 nx1 x5 x6 x7 x8 x9 x10 hl hz0 H1;rw [yh.t26,zA,yh.fU];refine zml (by omega) (by omega) _ _ _ _ ?_;rintro _ ⟨d,rfl,hd⟩ _;obtain ⟨d1,d2,d3,d4⟩:=hd;rw [zA,yh.sD,jc (by omega),show (1:Int)+(d:Int)=((1+d:Nat):Int) by omega,zk1 d2];refine zzn (k:=0) H1 rfl (by omega) (by omega) d3 (by omega) λl' h2 nx2 hW H2 => ?_;have hl':=hW.len;have htx:=hW.text (by omega);have hb:aT ((l'.drop 1).take d)=some (tZ d z.natAbs):=by rw [htx,zk0,zr2]
  rw [zA,zA,yh.oC,ji,zB,yh.v10];by_cases c:z<0
  .rw [Zab (by omega),zD,zA,yh.aI,show ∀ K:AV->OP,zak 1 24 (.ptr b 0) (I 0) K=K (.ptr b 0) from λK=>nr rfl];refine H2.store (k:=0) rfl (by omega) rfl λh3 H3 => ?_;rw [zA,yh.rX,jc (by omega),show (1:Int)+(d:Int)=((1+d:Nat):Int) by omega,zu7 d2];have e:aT (((l'.set 0 (.int .u8 45)).drop 0).take (1+d))=some (45::tZ d z.natAbs):=by
    cases l' with
    | nil=>simp at hl';omega
    | cons a l2 =>
     rw [Zcm,Zdb,Zcz,List.take_succ_cons]
     show (match aT (l2.take d) with
      | some s=>some (UInt8.ofNat 45::s)
      | none=>none)=_
     rw [show l2.take d=((a::l2).drop 1).take d from rfl,hb];rfl
   rw [H3.b2s (k:=0) rfl (by rw [Zbk];omega) e];simp only [zI,zO];rw [yh.ret];have er:sgT z++tZ d z.natAbs=45::tZ d z.natAbs:=by unfold sgT;rw [if_pos c];rfl
   rw [<- er];exact ret H3 (.inl ⟨d1,d2,d3,d4⟩)
  .rw [Zaa (by omega),zC,zG,zA,yh.aX,jc (by omega),show (1:Int)+(d:Int)=((1+d:Nat):Int) by omega,zk1 d2,H2.b2s (k:=0) rfl (by omega) hb];simp only [zI,zO];rw [yh.ret];have er:sgT z++tZ d z.natAbs=tZ d z.natAbs:=by unfold sgT;rw [if_neg c];rfl
   rw [<- er];exact ret H2 (.inl ⟨d1,d2,d3,d4⟩)
 have big:∀ (x3 x4 x5 x6 x7 x8 x9 x10:AV),z≠0->IR.run yh.t29 (CS Tryz.prog B) 1000 (fnO yh.res K) (zi yh.res K) (yh.fr (I z) (I 10) (.str []) x3 x4 x5 x6 x7 x8 x9 x10) h nx=.ok True:=by
  intro x3 x4 x5 x6 x7 x8 x9 x10 hz0;rw [yh.t29,zA,yh.fC];refine H0.alloc λb h1 nx1 H1 => ?_;by_cases c:z<0
  .rw [zA,yh.fH,zrj ⟨hz.1,c⟩,zA,zA,yh.fK,ji,zB,yh.v9,Zab (by omega),zD,yh.fT,qdc ⟨hz.1,c⟩];exact rest b _ _ _ _ _ _ _ _ _ rfl hz0 H1
  .rw [zA,yh.fH,zri (m:=z.natAbs) (by omega) (by omega),zA,zA,yh.fK,ji,zB,yh.v9,Zaa (by omega),zC,zG];exact rest b _ _ _ _ _ _ _ _ _ rfl hz0 H1
 rw [yh.go,yh.t38,zA,yh.zy,zA,zA,yh.zx,dh,Zab rfl,zB,yh.v7,zD,zA,zA,yh.je,rZ];by_cases c:0<=z
 .rw [Zab c];simp only [yH];rw [ji];simp only [zW];rw [zB,yh.v8];by_cases c2:z<100
  .rw [Zab c2,zD,zA,yh.pq,show z=((z.toNat:Nat):Int) by omega];refine zr1 (by omega) _ _ _ _ ?_;rintro _ ⟨d,hd,rfl⟩ _;simp only [zI,zO];rw [yh.ret];have en:z.toNat=z.natAbs:=by omega
   have er:sgT z++tZ d z.natAbs=tZ d z.natAbs:=by unfold sgT;rw [if_neg (by omega)];rfl
   rw [en] at hd ⊢;rw [<- er];exact ret H0 hd
  .rw [Zaa c2,zC,zG];exact big _ _ _ _ _ _ _ _ (by omega)
 .rw [Zaa c];simp only [jA,zY];rw [zB,yh.v8,zC,zG];exact big _ _ _ _ _ _ _ _ (by omega)
theorem zu8 {z:Int} (hz : -9223372036854775808<=z/\z<=9223372036854775807):Pure Tryz.prog B 248 [I z] (λv=>∃ d,NdOk z.natAbs d/\v=.str (sgT z++tZ d z.natAbs)):=by
 intro p h nx K hK;refine zN zQ yD 10 λhf => ?_;rw [rF.go,rF.t3,zA,rF.zy,zA,rF.zx];refine gE (p:=.of 287) (K:=λv1 h2 n3=>K v1 h2 n3) (zN zQ yD 10 λhf => ?_) λ_ _ _ _ q=>by
  simp only [zI,zO];rw [rF.ret];exact q
 rw [rE.go,rE.t3,zA,rE.zy,zA,rE.zx];refine zzq hz _ _ _ _ ?_;rintro v hv hf2;simp only [zI,zO];rw [rE.ret];exact hK v hv hf2
theorem zzr:∀ x<10,UInt8.ofNat (48+x)=dch x:=by decide +kernel
theorem zmp (d u:Nat):tZ (d+1) u=tZ d (u / 10)++[dch (u%10)]:=by
 unfold tZ;rw [List.range_succ,Zbb]
 congr 1
 .refine Zex λi hi => ?_;have:=List.mem_range.1 hi;rw [show d+1-1-i=d-1-i+1 by omega,Zbr,Zax,<- Zfq]
 .rw [List.map_singleton,show d+1-1-d=0 by omega,Nat.pow_zero,Nat.div_one,zzr _ (Zby _ (by decide))]
theorem zr3:∀ (d u:Nat),u<10 ^ d->(d=0\/10 ^ (d-1)<=u)->tZ d u=uw u 0
 | 0,u,h,_=>by
  obtain rfl:u=0:=by simpa using h
  unfold uw;rw [zdj];rfl
 | d+1,u,h,h2=>by
  have h3:10 ^ d<=u:=by rcases h2 with q | q;omega;simpa using q
  have h4:0<10 ^ d:=Zew (by decide);rw [Zbr] at h
  rw [zmp,zr3 d (u / 10) (Zdx (by rw [Zax];exact h)) (by
   cases d with
   | zero=>exact .inl rfl
   | succ d =>
    right
    rw [Zbr] at h3;exact (Zfu (by decide)).2 h3)]
  unfold uw;rw [zdi (y:=u) (.inl (by omega)),List.reverse_cons,Zbb];rfl
theorem zr4 {u d:Nat} (h:NdOk u d):tZ d u=uw u 1:=by
 rcases h with ⟨h1,h2,h3,h4⟩ | ⟨rfl,rfl⟩
 .have hu:u≠0:=λe=>by
   have:0<10 ^ (d-1):=Zew (by decide);omega
  rw [zr3 d u h3 (.inr h4)];unfold uw;rw [xE hu];unfold sw;rw [Nat.zero_sub,Zey,Zbj]
 .rw [xK];rfl
theorem qdd {z:Int} (hz : -9223372036854775808<=z/\z<=9223372036854775807):Pure Tryz.prog B 248 [I z] (· = .str (cZ z)):=by
 intro p h nx K hK;refine zu8 hz _ _ _ _ ?_;rintro _ ⟨d,hd,rfl⟩ hf;rw [zr4 hd];exact hK _ rfl hf
theorem ze4 {v:AV} {z:Int} (hv:xh v z) (hz:z.natAbs<9223372036854775808):Pure Tryz.prog B 188 [v] (· = .str (cZ z)):=by
 obtain ⟨s,w,rfl,rfl,rfl,hv⟩:=hv;refine zX λh nx K H0 hK=>zN zQ yD 1000 λhf => ?_;rw [fB.go,fB.t60,zA,fB.zy];refine H0.box (l:=[I z,.ze]) rfl λpa h1 nx1 H1 => ?_;rw [zA,zA,fB.zx,sFx,H1.load (k:=0) (i:=0+1) rfl rfl];rw [kD,zB,fB.v12,zD,zA,fB.je,sFx,H1.load (k:=0) (i:=0+0) rfl rfl];unfold rV at hv;refine qdd (by omega) _ _ _ _ ?_;rintro _ rfl _;simp only [zI,zO];rw [fB.ret];exact hK _ _ _ _ _ H1 (zT rfl) rfl
theorem zdn {z:Int} (hz:z.natAbs<9223372036854775808):(cZ z).length<=100:=by
 have h:=wE (n:=z.natAbs) (k:=3) (by omega);unfold cZ;split <;> simp <;> omega
theorem zzs {v:AV} {q:Rat} (hv:jL v q) (hn:q.num.natAbs<9223372036854775808) (hd:q.den<9223372036854775808):Pure Tryz.prog B 97 [v] (· = .str (uz q)):=by
 obtain ⟨s,w,s',w',rfl,i1,i2⟩:=hv;refine zX λh nx K H0 hK=>zN zQ yD 1000 λhf => ?_;rw [F97.go,F97.t9,zA,F97.zy];refine H0.box (l:=[s,w,s',w']) rfl λpa h1 nx1 H1 => ?_;have l1:∀ op:AV->OP,zJ 2 (.ptr pa (0+0)) h1 op=op (.agg [s,w]):=λop=>H1.qd (k:=0) (off:=0+0) rfl (by simp) rfl;have l2:∀ op:AV->OP,zJ 2 (.ptr pa (0+2)) h1 op=op (.agg [s',w']):=λop=>H1.qd (k:=0) (off:=0+2) rfl (by simp) rfl;rw [zA,zA,F97.zx,H1.zw (k:=0) (n:=4) rfl rfl];refine vU ⟨_,_,_,_,rfl,i1,i2⟩ _ _ _ _ ?_;rintro _ rfl _;rw [zB,F97.v3];by_cases c:q.den=1
 .rw [Zab c,zD,zA,F97.je,sFx,l1];refine ze4 ⟨_,_,rfl,i1⟩ hn _ _ _ _ ?_;rintro _ rfl _;simp only [zI,zO];rw [F97.ret];exact hK _ _ _ _ _ H1 (zT rfl) (by unfold uz;rw [if_pos c,Zbj])
 .rw [Zaa c,zC,zG,zA,F97.qi,sFx,l1,sFx,l2];refine ze4 ⟨_,_,rfl,i1⟩ hn _ _ _ _ ?_;rintro _ rfl _;have t1:=zdn hn;have t2:=zdn (z:=(q.den:Int)) (by omega);have a1:∀ K:AV->OP,za .add .str (.str (cZ q.num)) (.str [47]) K=K (.str (cZ q.num++[47])):=λK=>tCat (by simp;omega);simp only [l2,zF,sFx,a1];refine ze4 ⟨_,_,rfl,i2⟩ (by omega) _ _ _ _ ?_;rintro _ rfl _;rw [tCat (by simp;omega)];simp only [zI,zO];rw [F97.ret];exact hK _ _ _ _ _ H1 (zT rfl) (by unfold uz;rw [if_neg c,Zbl];rfl)
theorem rat0:((0:Int):Rat)=0:=rfl
theorem rat1:((1:Int):Rat)=1:=rfl
theorem p7 (n:Nat) (z:List AV):(fM n z).length=n*z.length:=by
 induction n with
 | zero=>show ([]:List AV).length=_;rw [Nat.zero_mul];rfl
 | succ n ih=>show (z++fM n z).length=_;rw [Zah,ih,Zav,Zdk,Zcz]
theorem zho {h0 h:T Blk} {nx p:Pa} {L:List Ob} {n:Nat} {K:Kw Prop} (H:Hp h0 h nx L) (hn:n<=1000) (hK:∀ id c h' nx',sM c (List.replicate n 0)->Hp h0 h' nx' (.arr id c::L)->K (rwV n id) h' nx'=.ok True):(CS Tryz.prog B).fn 105 p [I (n:Int)] h nx K=.ok True:=by
 refine zN zQ yD 2000 λhf => ?_;rw [jv.go,jv.t20,zA,jv.zy,zA,jv.zx];refine H.mkN (n:=n) (c:=n) rfl rfl (Zag _) (by omega) (by omega) λid h1 nx1 H1 => ?_;rw [zA,zA,jv.je,yN,zK];refine jv.zf0 (λm x5 h' nx'=>∃ (i:Nat) (c:List AV),x5=I (i:Int)/\m+i=n/\c.length=n*4/\(∀ j,j<i->aQ c j 0)/\Hp h0 h' nx' (.arr id c::L)) (m:=n) (by omega) ⟨0,_,rfl,rfl,p7 _ _,λj hj=>by omega,H1⟩ ?_;rintro m z3 z5 z6 h3 nx3 R ⟨i,c,rfl,hm,hc,hall,H3⟩ hR;rw [jv.t12,zA,jv.pq,ji,zA,zB,jv.v6];by_cases ci:i<n
 .rw [Zab (by omega),zD,zG,zA,zK,zA,jv.fG,jv.qi];refine zky (by unfold rV;omega) _ _ _ _ ?_;rintro _ ⟨s,w,s',w',rfl,i1,i2⟩ _;rw [rat0] at i1 i2;rw [oZ (j:=i) rfl ci];refine H3.aS (k:=0) (off:=i*4) rfl (by omega) rfl λh4 H4 => ?_;rw [jv.fK,jc (by omega)];refine hR (m-1) _ _ _ _ _ (by omega) ⟨i+1,_,by congr 1,by omega,by rw [xS (by simp;omega)];exact hc,λj hj => ?_,H4⟩;by_cases e:j=i
  .subst e;exact aQ.same (by omega) i1 i2
  .exact aQ.other (by omega) e (hall j (by omega))
 .rw [Zaa (by omega),zC,zZ,yE,zA,jv.aI];simp only [zI,zO];rw [jv.ret];refine hK id c _ _ ⟨by rw [Zay];exact hc,λj x hx => ?_⟩ H3;have hj:=(List.getElem?_eq_some_iff.1 hx).1;rw [Zay] at hj;rw [List.getElem?_replicate,if_pos hj] at hx;obtain rfl:=Option.some.inj hx;exact hall j (by omega)
def tV (n:Nat) (l:List Int):List Rat:=l.foldl (λq c=>q.set c.toNat 1) (List.replicate n 0)
theorem zdo (n:Nat) (l:List Int) (c:Int):tV n (l++[c])=(tV n l).set c.toNat 1:=by unfold tV;rw [Zgl];rfl
theorem pC:∀ (l:List Int) (q:List Rat),(l.foldl (λq c=>q.set c.toNat 1) q).length=q.length
 | [],_=>rfl
 | c::l,q=>by rw [Zei,pC l,Zbk]
theorem gA (n:Nat) (l:List Int):(tV n l).length=n:=by unfold tV;rw [pC,Zay]
theorem mI {h0 h:T Blk} {nx p:Pa} {L:List Ob} {n:Nat} {l:List Int} {K:Kw Prop} (H:Hp h0 h nx L) (hn:n<=1000) (hl:l.length<=1000) (hr:∀ c∈l,0<=c/\c<(n:Int)) (hK:∀ id c h' nx',sM c (tV n l)->Hp h0 h' nx' (.arr id c::L)->K (rwV n id) h' nx'=.ok True):(CS Tryz.prog B).fn 104 p [I (n:Int),encI l] h nx K=.ok True:=by
 refine zN zQ yD 2000 λhf => ?_;rw [jr.go,jr.t20,zA,jr.zy,zA,jr.zx];refine zho H hn λid c h1 nx1 hc H1 => ?_;rw [zA,zA,jr.je,yA,zK];refine jr.zf0 (λm x7 h' nx'=>∃ (i:Nat) (c:List AV),x7=I (i:Int)/\m+i=l.length/\sM c (tV n (l.take i))/\Hp h0 h' nx' (.arr id c::L)) (m:=l.length) (by omega) ⟨0,c,rfl,rfl,hc,H1⟩ ?_;rintro m z4 z7 z8 h3 nx3 R ⟨i,c,rfl,hm,hc,H3⟩ hR;rw [jr.t12,zA,jr.pq,ji,zA,zB,jr.v8];by_cases ci:i<l.length
 .have hx:l[i]? = some l[i]:=List.getElem?_eq_getElem ci;have hb:=hr _ (Zas ci);rw [Zab (by omega),zD,zG,zA,zK,zA,jr.fG,fE rfl ci,ldL (tO hx),jr.qi];refine zky (by unfold rV;omega) _ _ _ _ ?_;rintro _ ⟨s,w,s',w',rfl,i1,i2⟩ _;rw [rat1] at i1 i2;have hcl:=hc.1;rw [gA] at hcl;rw [oZ (j:=l[i].toNat) (by omega) (by omega)];refine H3.aS (k:=0) (off:=l[i].toNat*4) rfl (by omega) rfl λh4 H4 => ?_;rw [jr.fK,jc (by omega)];refine hR (m-1) _ _ _ _ _ (by omega) ⟨i+1,_,by congr 1,by omega,?_,H4⟩;rw [Zar,hx,Zcq,zdo];exact hc.put (by rw [gA];omega) i1 i2
 .rw [Zaa (by omega),zC,zZ,yE,zA,jr.aI];simp only [zI,zO];rw [jr.ret];rw [Zaf (by omega)] at hc;exact hK id c _ _ hc H3
def j4 (b:Rat) (r o:List Rat):List Rat:=List.zipWith (λx y=>x-b*y) r o
theorem pget {l e:List Rat} {c:Nat} {q:Rat} (hle:e.length=l.length) (hq:l[c]? = some q):(e.take c++l.drop c)[c]? = some q:=by
 have hc:=(List.getElem?_eq_some_iff.1 hq).1;rw [List.getElem?_append_right (by rw [Zan];omega),Zan,List.getElem?_drop,show c+(c-min c e.length)=c by omega];exact hq
theorem zxn {l e:List Rat} {c:Nat} {q:Rat} (hle:e.length=l.length) (hq:e[c]? = some q):(e.take c++l.drop c).set c q=e.take (c+1)++l.drop (c+1):=by
 have hc:=(List.getElem?_eq_some_iff.1 hq).1;rw [Zaw (show c<l.length by omega),qF (by rw [Zan];omega),Zar,hq];simp
theorem zxo {l e:List Rat} {c:Nat} {q:Rat} (hle:e.length=l.length) (hq:e[c]? = some q) (hl:l[c]? = some q):e.take c++l.drop c=e.take (c+1)++l.drop (c+1):=by
 have hc:=(List.getElem?_eq_some_iff.1 hq).1;have h1:l[c]'(by omega)=q:=by rw [List.getElem?_eq_getElem (by omega)] at hl;exact Option.some.inj hl
 rw [Zaw (show c<l.length by omega),Zar,hq,h1];simp
theorem ze5 {h0 h:T Blk} {nx p r o:Pa} {L:List Ob} {kr ko n M N P R:Nat} {cr co:List AV} {qr qo:List Rat} {v:AV} {b:Rat} {K:Kw Prop} (H:Hp h0 h nx L) (hkr:L[kr]? = some (.arr r cr)) (hko:L[ko]? = some (.arr o co)) (hne:ko≠kr) (hr:sM cr qr) (ho:sM co qo) (hlr:qr.length=n) (hlo:qo.length=n) (hn:n<=1000) (hv:jL v b) (hb:rW M b) (hqr:∀ x∈qr,rW P x) (hqo:∀ x∈qo,rW N x) (hqp:∀ x∈qo,rW R (b*x)) (hMN:M*N<=9223372036854775807) (hPR:2*(P*R)<=9223372036854775807)
  (hK:∀ c h' nx',sM c (j4 b qr qo)->Hp h0 h' nx' (L.set kr (.arr r c))->K (.tup []) h' nx'=.ok True):(CS Tryz.prog B).fn 106 p [rwV n r,v,rwV n o] h nx K=.ok True:=by
 refine zN zQ yD 2000 λhf => ?_;obtain ⟨sb,wb,sb',wb',rfl,b1,b2⟩:=hv;have hkl:=(List.getElem?_eq_some_iff.1 hkr).1;have hE:(j4 b qr qo).length=qr.length:=by unfold j4;rw [Zgb];omega
 rw [gu.go,gu.t18,zA,gu.zy];refine H.box (l:=[sb,wb,sb',wb']) rfl λbb h1 nx1 H1 => ?_;rw [zA,gu.zx,yN,zK]
 refine gu.zfy (λm x8 h' nx'=>∃ (i:Nat) (c:List AV),x8=I (i:Int)/\m+i=n/\sM c ((j4 b qr qo).take i++qr.drop i)/\Hp h0 h' nx' (.arr bb [sb,wb,sb',wb']::L.set kr (.arr r c))) (m:=n) (by omega) ⟨0,cr,rfl,rfl,by rw [Zdj,Zbq,Zdb];exact hr,by
  have:L.set kr (.arr r cr)=L:=by
   rw [List.getElem?_eq_getElem hkl] at hkr;rw [<- Option.some.inj hkr,List.set_getElem_self]
  rw [this];exact H1⟩ ?_
 rintro m z4 z5 z8 z9 z10 h3 nx3 R ⟨i,c,rfl,hm,hc,H3⟩ hR;rw [gu.t14,zA,gu.je,ji,zA,zB,gu.v9];by_cases ci:i<n
 .have hx:qo[i]? = some qo[i]:=List.getElem?_eq_getElem (by omega);have hy:qr[i]? = some qr[i]:=List.getElem?_eq_getElem (by omega);have hz:(j4 b qr qo)[i]? = some (qr[i]-b*qo[i]):=by unfold j4;rw [List.getElem?_zipWith,hy,hx]
  have mo:=Zas (l:=qo) (n:=i) (by omega);have mr:=Zas (l:=qr) (n:=i) (by omega);obtain ⟨cs,e1,e2,_,fo⟩:=ho.get hx;obtain ⟨cs2,e3,e4,hcj,fr⟩:=hc.get (pget hE hy);have hko3:(Ob.arr bb [sb,wb,sb',wb']::L.set kr (.arr r c))[ko+1]? = some (.arr o co):=by
   show (L.set kr (.arr r c))[ko]? = _;rw [List.getElem?_set_ne (by omega)];exact hko
  have hkr3:(Ob.arr bb [sb,wb,sb',wb']::L.set kr (.arr r c))[kr+1]? = some (.arr r c):=by
   show (L.set kr (.arr r c))[kr]? = _;rw [List.getElem?_set_self hkl]
  obtain ⟨so,wo,so',wo',e5,o1,o2⟩:=fo;obtain rfl:=AV.agg.inj e5;rw [Zab (by omega),zD,zG,zA,zK,zA,gu.fJ,oZ (j:=i) rfl ci,H3.qd hko3 e2 e1];refine H3.alloc λxb h4 nx4 H4 => ?_;refine H4.jd (l2:=[so,wo,so',wo']) (k:=0) rfl rfl rfl λh5 H5 => ?_;rw [zA,gu.fG,H5.zw (k:=0) (n:=4) rfl rfl];refine bK ⟨_,_,_,_,rfl,o1,o2⟩ _ _ _ _ ?_;rintro _ rfl _;rw [fD,zB,gu.v10];by_cases d:qo[i]=0
  .have d2:qr[i]-b*qo[i]=qr[i]:=by rw [d,Zci,Rat.sub_eq_add_neg,Rat.neg_zero,Rat.add_zero]
   rw [Zab (sU.2 (Rat.num_eq_zero.2 d)),Zak,zC,zG,gu.di,jc (by omega)];rw [d2] at hz;exact hR (m-1) _ _ _ _ _ _ _ (by omega) ⟨i+1,c,by congr 1,by omega,by rw [<- zxo hE hz hy];exact hc,H5.drop⟩
  .rw [Zaa (λq=>d (Rat.num_eq_zero.1 (sU.1 q))),Zam,zD,gu.qi];have lr:∀ op:AV->OP,zJ 4 (.ptr r (i*4)) h5 op=op (.agg cs2):=λop=>H5.qd (k:=kr+2) hkr3 e4 e3;have lb:∀ op:AV->OP,zJ 4 (.ptr bb 0) h5 op=op (.agg [sb,wb,sb',wb']):=λop=>H5.zw (k:=1) (n:=4) rfl rfl;have lx:∀ op:AV->OP,zJ 4 (.ptr xb 0) h5 op=op (.agg [so,wo,so',wo']):=λop=>H5.zw (k:=0) (n:=4) rfl rfl;have ix:∀ op:AV->OP,zH 4 (rwV n r) (I (i:Int)) op=op (.ptr r (i*4)):=λop=>oZ (j:=i) rfl ci;simp only [ix,lr,lb,lx];refine zhn ⟨_,_,_,_,rfl,b1,b2⟩ ⟨_,_,_,_,rfl,o1,o2⟩ hb (hqo _ mo) hMN _ _ _ _ ?_;rintro v5 f5 _;simp only [lr,zF];refine zmo fr f5 (hqr _ mr) (hqp _ mo) hPR _ _ _ _ ?_;rintro _ ⟨s6,w6,s6',w6',rfl,i1,i2⟩ _;refine H5.aS (k:=kr+2) (off:=i*4) hkr3 e4 rfl λh6 H6 => ?_;rw [gu.di,jc (by omega)];refine hR (m-1) _ _ _ _ _ _ _ (by omega) ⟨i+1,gO c (i*4) [s6,w6,s6',w6'],by congr 1,by omega,?_,?_⟩
   .rw [<- zxn hE hz];exact hc.put hcj i1 i2
   .exact (H6.cast (show ((Ob.arr xb [I 0,.ze,I 0,.ze]::Ob.arr bb [sb,wb,sb',wb']::L.set kr (.arr r c)).set 0 (Ob.arr xb [so,wo,so',wo'])).set (kr+2) (.arr r (gO c (i*4) [s6,w6,s6',w6']))=Ob.arr xb [so,wo,so',wo']::Ob.arr bb [sb,wb,sb',wb']::L.set kr (.arr r (gO c (i*4) [s6,w6,s6',w6'])) by
     show Ob.arr xb _::Ob.arr bb _::(L.set kr (.arr r c)).set kr _=_;rw [Zdg])).drop
 .rw [Zaa (by omega),zC,zZ,yE];rw [gu.ret];rw [Zaf (by omega),Zbn (by omega),Zbj] at hc;exact hK c _ _ hc H3.drop
def gS (b:Rat) (r:List Rat):List Rat:=r.map λx=>x*b
theorem zr5 {h0 h:T Blk} {nx p r:Pa} {L:List Ob} {kr n M N:Nat} {cr:List AV} {qr:List Rat} {v:AV} {b:Rat} {K:Kw Prop} (H:Hp h0 h nx L) (hkr:L[kr]? = some (.arr r cr)) (hr:sM cr qr) (hlr:qr.length=n) (hn:n<=1000) (hv:jL v b) (hb:rW M b) (hqr:∀ x∈qr,rW N x) (hMN:N*M<=9223372036854775807)
  (hK:∀ c h' nx',sM c (gS b qr)->Hp h0 h' nx' (L.set kr (.arr r c))->K (.tup []) h' nx'=.ok True):(CS Tryz.prog B).fn 111 p [rwV n r,v] h nx K=.ok True:=by
 refine zN zQ yD 2000 λhf => ?_;obtain ⟨sb,wb,sb',wb',rfl,b1,b2⟩:=hv;have hkl:=(List.getElem?_eq_some_iff.1 hkr).1;have hE:(gS b qr).length=qr.length:=by unfold gS;rw [Zal]
 rw [gy.go,gy.t18,zA,gy.zy];refine H.box (l:=[sb,wb,sb',wb']) rfl λbb h1 nx1 H1 => ?_;rw [zA,gy.zx,yN,zK]
 refine gy.zfy (λm x7 h' nx'=>∃ (i:Nat) (c:List AV),x7=I (i:Int)/\m+i=n/\sM c ((gS b qr).take i++qr.drop i)/\Hp h0 h' nx' (.arr bb [sb,wb,sb',wb']::L.set kr (.arr r c))) (m:=n) (by omega) ⟨0,cr,rfl,rfl,by rw [Zdj,Zbq,Zdb];exact hr,by
  have:L.set kr (.arr r cr)=L:=by
   rw [List.getElem?_eq_getElem hkl] at hkr;rw [<- Option.some.inj hkr,List.set_getElem_self]
  rw [this];exact H1⟩ ?_
 rintro m z3 z4 z7 z8 z9 h3 nx3 R ⟨i,c,rfl,hm,hc,H3⟩ hR;rw [gy.t14,zA,gy.je,ji,zA,zB,gy.v8];by_cases ci:i<n
 .have hy:qr[i]? = some qr[i]:=List.getElem?_eq_getElem (by omega);have hz:(gS b qr)[i]? = some (qr[i]*b):=by unfold gS;rw [List.getElem?_map,hy];rfl
  have mr:=Zas (l:=qr) (n:=i) (by omega);obtain ⟨cs2,e3,e4,hcj,fr⟩:=hc.get (pget hE hy);have hkr3:(Ob.arr bb [sb,wb,sb',wb']::L.set kr (.arr r c))[kr+1]? = some (.arr r c):=by
   show (L.set kr (.arr r c))[kr]? = _;rw [List.getElem?_set_self hkl]
  obtain ⟨so,wo,so',wo',e5,o1,o2⟩:=fr;obtain rfl:=AV.agg.inj e5;rw [Zab (by omega),zD,zG,zA,zK,zA,gy.fJ,oZ (j:=i) rfl ci,H3.qd hkr3 e4 e3];refine H3.alloc λxb h4 nx4 H4 => ?_;refine H4.jd (l2:=[so,wo,so',wo']) (k:=0) rfl rfl rfl λh5 H5 => ?_;rw [zA,gy.fG,H5.zw (k:=0) (n:=4) rfl rfl];refine bK ⟨_,_,_,_,rfl,o1,o2⟩ _ _ _ _ ?_;rintro _ rfl _;rw [fD,zB,gy.v9];by_cases d:qr[i]=0
  .have d2:qr[i]*b=qr[i]:=by rw [d,Zer]
   rw [Zab (sU.2 (Rat.num_eq_zero.2 d)),Zak,zC,zG,gy.di,jc (by omega)];rw [d2] at hz;exact hR (m-1) _ _ _ _ _ _ _ (by omega) ⟨i+1,c,by congr 1,by omega,by rw [<- zxo hE hz hy];exact hc,H5.drop⟩
  .rw [Zaa (λq=>d (Rat.num_eq_zero.1 (sU.1 q))),Zam,zD,gy.qi,H5.zw (k:=0) (n:=4) rfl rfl,H5.zw (k:=1) (n:=4) rfl rfl];refine zhn ⟨_,_,_,_,rfl,o1,o2⟩ ⟨_,_,_,_,rfl,b1,b2⟩ (hqr _ mr) hb hMN _ _ _ _ ?_;rintro _ ⟨s6,w6,s6',w6',rfl,i1,i2⟩ _;rw [oZ (j:=i) rfl ci];refine H5.aS (k:=kr+2) (off:=i*4) hkr3 e4 rfl λh6 H6 => ?_;rw [gy.di,jc (by omega)];refine hR (m-1) _ _ _ _ _ _ _ (by omega) ⟨i+1,gO c (i*4) [s6,w6,s6',w6'],by congr 1,by omega,?_,?_⟩
   .rw [<- zxn hE hz];exact hc.put hcj i1 i2
   .exact (H6.cast (show ((Ob.arr xb [I 0,.ze,I 0,.ze]::Ob.arr bb [sb,wb,sb',wb']::L.set kr (.arr r c)).set 0 (Ob.arr xb [so,wo,so',wo'])).set (kr+2) (.arr r (gO c (i*4) [s6,w6,s6',w6']))=Ob.arr xb [so,wo,so',wo']::Ob.arr bb [sb,wb,sb',wb']::L.set kr (.arr r (gO c (i*4) [s6,w6,s6',w6'])) by
     show Ob.arr xb _::Ob.arr bb _::(L.set kr (.arr r c)).set kr _=_;rw [Zdg])).drop
 .rw [Zaa (by omega),zC,zZ,yE];rw [gy.ret];rw [Zaf (by omega),Zbn (by omega),Zbj] at hc;exact hK c _ _ hc H3.drop
end Go.Ev
namespace Go.Ev
open Go Go.Proofs
def Dn (t M:Nat) (q:Rat):Prop:=∃ z:Int,q*((t:Int):Rat)=(z:Rat)/\z.natAbs<=M
theorem zce {t:Int} (h:t≠0):(t:Rat)≠0:=λe=>by
 have:=congrArg Rat.num e;rw [Zfd] at this;exact h this
theorem Dn.nm {t M:Nat} {q:Rat} (ht:1<=t) (htM:t<=M) (h:Dn t M q):rW M q:=by
 obtain ⟨z,e,hz⟩:=h;have h0:((t:Int):Rat)≠0:=zce (by omega);have eq:q=Rat.divInt z (t:Int):=by rw [Rat.divInt_eq_div];grind
 obtain ⟨d1,d2⟩:=kT (n:=z) (d:=(t:Int)) (by omega);have hg:0<(Int.gcd z (t:Int):Int):=by have:=Int.gcd_pos_of_ne_zero_right z (show (t:Int)≠0 by omega);omega
 have hg1:1<=Int.gcd z (t:Int):=by omega
 refine ⟨?_,?_⟩
 .rw [eq,d1,Zdh (Zed ..)];exact Zbe (Zbz _ _) hz
 .have:((Rat.divInt z (t:Int)).den:Int).natAbs<=M:=by
   rw [d2,Zdh (Zen ..)];exact Zbe (Zbz _ _) (by omega)
  rw [eq];exact this
theorem Dn.mono {t M N:Nat} {q:Rat} (h:Dn t M q) (hMN:M<=N):Dn t N q:=by
 obtain ⟨z,e,hz⟩:=h;exact ⟨z,e,Zbe hz hMN⟩
theorem Dn.zero (t M:Nat):Dn t M 0:=⟨0,by grind,by simp⟩
theorem Dn.sub {t M N:Nat} {p q:Rat} (hp:Dn t M p) (hq:Dn t N q):Dn t (M+N) (p-q):=by
 obtain ⟨z,e,hz⟩:=hp;obtain ⟨w,f,hw⟩:=hq;refine ⟨z-w,by rw [Rat.intCast_sub];grind,?_⟩;have:=Int.natAbs_sub_le z w;omega
theorem Dn.mul {t s M N:Nat} {p q:Rat} (hp:Dn t M p) (hq:Dn s N q):Dn (t*s) (M*N) (p*q):=by
 obtain ⟨z,e,hz⟩:=hp;obtain ⟨w,f,hw⟩:=hq;refine ⟨z*w,?_,?_⟩
 .rw [Zfe,show ((t*s:Nat):Int)=(t:Int)*(s:Int) by simp,Zfe];grind
 .rw [Zcg];exact Zbh hz hw
theorem Dn.scale {t M:Nat} (s:Nat) {p:Rat} (hp:Dn t M p):Dn (t*s) (M*s) p:=by
 obtain ⟨z,e,hz⟩:=hp;refine ⟨z*(s:Int),?_,?_⟩
 .rw [Zfe,show ((t*s:Nat):Int)=(t:Int)*(s:Int) by simp,Zfe];grind
 .rw [Zcg,Zbp];exact Zao _ hz
def Sg (b:Rat):Prop:=b = -1\/b=0\/b=1
theorem Sg.dn {b:Rat} (h:Sg b) {t M:Nat} (hM:t<=M):Dn t M b:=by
 rcases h with rfl | rfl | rfl
 .exact ⟨-(t:Int),by rw [Zde];grind,by omega⟩
 .exact Dn.zero _ _
 .exact ⟨(t:Int),by grind,by omega⟩
theorem Sg.mul {b q:Rat} (h:Sg b) {t M:Nat} (hq:Dn t M q):Dn t M (b*q):=by
 obtain ⟨z,e,hz⟩:=hq;rcases h with rfl | rfl | rfl
 .exact ⟨-z,by rw [Zde];grind,by omega⟩
 .rw [Zer];exact Dn.zero _ _
 .exact ⟨z,by grind,hz⟩
abbrev at' (q:List Rat) (j:Nat):Rat:=q.getD j 0
theorem kN {q:List Rat} {j:Nat} (h:j<q.length):q[j]? = some (at' q j):=by
 rw [at',Zac,List.getElem?_eq_getElem h];rfl
theorem gF {q:List Rat} {j:Nat} (h:q.length<=j):at' q j=0:=by
 rw [at',Zac,List.getElem?_eq_none h];rfl
theorem at_mem {q:List Rat} {x:Rat} (h:x∈q):∃ j,j<q.length/\x=at' q j:=by
 obtain ⟨j,hj⟩:=List.mem_iff_getElem?.1 h;have hl:=(List.getElem?_eq_some_iff.1 hj).1;rw [kN hl] at hj;exact ⟨j,hl,(Option.some.inj hj).symm⟩
theorem gG {b:Rat} {r o:List Rat} (h:r.length=o.length):(j4 b r o).length=r.length:=by
 unfold j4;rw [Zgb];omega
theorem jU {b:Rat} {r o:List Rat} (h:r.length=o.length) (j:Nat):at' (j4 b r o) j=at' r j-b*at' o j:=by
 by_cases hj:j<r.length
 .have h1:=kN (q:=j4 b r o) (j:=j) (by rw [gG h];exact hj);unfold j4 at h1;rw [List.getElem?_zipWith,kN hj,kN (q:=o) (by omega)] at h1;exact (Option.some.inj h1).symm
 .rw [gF (by rw [gG h];omega),gF (by omega),gF (by omega)];grind
theorem pG {b:Rat} {r:List Rat}:(gS b r).length=r.length:=by unfold gS;rw [Zal]
theorem bB {b:Rat} {r:List Rat} (j:Nat):at' (gS b r) j=at' r j*b:=by
 by_cases hj:j<r.length
 .have h1:=kN (q:=gS b r) (j:=j) (by rw [pG];exact hj);unfold gS at h1;rw [List.getElem?_map,kN hj] at h1;exact (Option.some.inj h1).symm
 .rw [gF (by rw [pG];omega),gF (by omega),Zer]
def dot:List Rat->List Rat->Rat
 | a::q,b::f=>a*b+dot q f
 | _,_=>0
theorem uY (b:Rat):∀ (r o f:List Rat),r.length=o.length->dot (j4 b r o) f=dot r f-b*dot o f
 | [],[],f,_=>by unfold j4;simp [dot];grind
 | x::r,y::o,[],_=>by unfold j4;simp [dot];grind
 | x::r,y::o,z::f,h=>by
  have ih:=uY b r o f (by simpa using h);unfold j4 at ih ⊢;rw [List.zipWith_cons_cons,dot,dot,dot,ih];grind
 | [],_::_,_,h=>by simp at h
 | _::_,[],_,h=>by simp at h
theorem dX (b:Rat):∀ (r f:List Rat),dot (gS b r) f=b*dot r f
 | [],f=>by simp [gS,dot]
 | x::r,[]=>by simp [gS,dot]
 | x::r,z::f=>by
  have ih:=dX b r f;unfold gS at ih ⊢;rw [Zcs,dot,dot,ih];grind
def oL:List (List Rat×Nat)->List Rat->List Rat
 | [],r=>r
 |(q,p)::l,r=>oL l (j4 (at' r p) r q)
theorem kS (q:List Rat) (p:Nat):∀ (l:List (List Rat×Nat)) (r:List Rat),oL (l++[(q,p)]) r=j4 (at' (oL l r) p) (oL l r) q
 | [],r=>rfl
 |(q',p')::l,r=>by rw [Zbw,oL,kS q p l,oL]
structure St (n t M:Nat) (Q:List (List Rat)) (ps:List Nat):Prop where
 len:ps.length=Q.length
 row:∀ q∈Q,q.length=n
 den:∀ q∈Q,∀ j,Dn t M (at' q j)
 rng:∀ p∈ps,p<n
 one:∀ a b,a<Q.length->b<Q.length->at' (Q.getD a []) (ps.getD b 0)=if a=b then 1 else 0
 t1:1<=t
 tM:t<=M
theorem St.nil (n:Nat):St n 1 1 [] []:=⟨rfl,by simp,by simp,by simp,λa b h=>by simp at h,by omega,by omega⟩
theorem kM {α:Type} {l:List α} {i:Nat} {d:α} (h:i<l.length):l[i]? = some (l.getD i d):=by
 rw [Zac,List.getElem?_eq_getElem h];rfl
theorem jQ {α:Type} {l:List α} {i:Nat} {d:α} (h:i<l.length):l.getD i d∈l:=Zad (kM h)
abbrev aH (Q:List (List Rat)) (ps:List Nat):List (List Rat×Nat):=List.zip Q ps
theorem kW {Q:List (List Rat)} {ps:List Nat} {k:Nat} (hl:ps.length=Q.length) (hk:k<Q.length):(aH Q ps).take (k+1)=(aH Q ps).take k++[(Q.getD k [],ps.getD k 0)]:=by
 have h1:Q[k]? = some (Q.getD k []):=kM hk;have h2:ps[k]? = some (ps.getD k 0):=kM (by omega);have h3:(aH Q ps)[k]? = some (Q.getD k [],ps.getD k 0):=List.getElem?_zip_eq_some.2 ⟨h1,h2⟩;rw [Zar,h3];rfl
structure Rk (n t M:Nat) (Q:List (List Rat)) (ps:List Nat) (r0:List Rat) (k:Nat) (r:List Rat):Prop where
 eq:r=oL ((aH Q ps).take k) r0
 len:r.length=n
 den:∀ j,Dn t (M+k*M) (at' r j)
 late:∀ b,k<=b->b<Q.length->at' r (ps.getD b 0)=at' r0 (ps.getD b 0)
 done:∀ b,b<k->b<Q.length->at' r (ps.getD b 0)=0
theorem Rk.zero {n t M:Nat} {Q:List (List Rat)} {ps:List Nat} {r0:List Rat} (hS:St n t M Q ps) (hl:r0.length=n) (hs:∀ j,Sg (at' r0 j)):Rk n t M Q ps r0 0 r0 :=
 ⟨rfl,hl,λj=>(hs j).dn (by have:=hS.tM;omega),λb _ _=>rfl,λb h=>by omega⟩
theorem Rk.next {n t M k:Nat} {Q:List (List Rat)} {ps:List Nat} {r0 r:List Rat} (hS:St n t M Q ps) (hs:∀ j,Sg (at' r0 j)) (h:Rk n t M Q ps r0 k r) (hk:k<Q.length):Rk n t M Q ps r0 (k+1) (j4 (at' r (ps.getD k 0)) r (Q.getD k [])):=by
 have hq:=jQ (d:=[]) hk;have hql:=hS.row _ hq;have hll:r.length=(Q.getD k []).length:=by rw [h.len,hql]
 have hb:Sg (at' r (ps.getD k 0)):=by rw [h.late k (Zag _) hk];exact hs _
 refine ⟨by rw [kW hS.len hk,kS,<- h.eq],by rw [gG hll];exact h.len,λj => ?_,λb h1 h2 => ?_,λb h1 h2 => ?_⟩
 .rw [jU hll];have:=(h.den j).sub (hb.mul (hS.den _ hq j));exact this.mono (by rw [Zav];omega)
 .rw [jU hll,hS.one k b hk h2,if_neg (by omega),Zci,h.late b (by omega) h2];grind
 .rw [jU hll,hS.one k b hk h2];by_cases e:b=k
  .subst e;rw [if_pos rfl,Rat.mul_one];grind
  .rw [if_neg (by omega),Zci,h.done b (by omega) h2];grind
def uR (Q:List (List Rat)) (p:Nat) (r:List Rat):List (List Rat):=Q.map λo=>j4 (at' o p) o r
theorem zzt {t N:Nat} {v:Rat} (ht:1<=t) (hv:v≠0) (h:Dn t N v):∃ s:Nat,1<=s/\s<=N/\Dn s t v⁻¹/\∀ {x:Rat} {R:Nat},Dn t R x->Dn s R (x*v⁻¹):=by
 obtain ⟨z,e,hz⟩:=h;have ht0:((t:Int):Rat)≠0:=zce (by omega);have hz0:z≠0:=λq=>by subst q;rw [show ((0:Int):Rat)=0 from rfl] at e;grind
 have hzr:(z:Rat)≠0:=zce hz0;refine ⟨z.natAbs,by omega,hz,?_,λ{x R} hx => ?_⟩
 .by_cases c:0<z
  .refine ⟨(t:Int),?_,by omega⟩;rw [show ((z.natAbs:Nat):Int)=z by omega];grind
  .refine ⟨-(t:Int),?_,by omega⟩;rw [show ((z.natAbs:Nat):Int) = -z by omega,Zde,Zde];grind
 .obtain ⟨w,f,hw⟩:=hx;by_cases c:0<z
  .refine ⟨w,?_,hw⟩;rw [show ((z.natAbs:Nat):Int)=z by omega];grind
  .refine ⟨-w,?_,by omega⟩;rw [show ((z.natAbs:Nat):Int) = -z by omega,Zde,Zde];grind
structure Nw (n t M N s:Nat) (Q:List (List Rat)) (ps:List Nat) (p:Nat) (r:List Rat):Prop where
 len:r.length=n
 den:∀ j,Dn s N (at' r j)
 one:at' r p=1
 out:∀ b,b<Q.length->at' r (ps.getD b 0)=0
 p1:p<n
 s1:1<=s
 sN:s<=N
theorem Nw.less {n t M N s p:Nat} {Q:List (List Rat)} {ps:List Nat} {r:List Rat} (hS:St n t M Q ps) (h:Nw n t M N s Q ps p r) {o:List Rat} (ho:o∈Q) :
  (∀ j,Dn (t*s) (M*N) (at' o p*at' r j))/\(∀ j,Dn (t*s) (M*s+M*N) (at' (j4 (at' o p) o r) j))/\(j4 (at' o p) o r).length=n:=by
 have hl:o.length=r.length:=by rw [hS.row o ho,h.len]
 refine ⟨λj=>(hS.den o ho p).mul (h.den j),λj => ?_,by rw [gG hl];exact hS.row o ho⟩;rw [jU hl];exact ((hS.den o ho j).scale s).sub ((hS.den o ho p).mul (h.den j))
theorem St.next {n t M N s p:Nat} {Q:List (List Rat)} {ps:List Nat} {r:List Rat} (hS:St n t M Q ps) (h:Nw n t M N s Q ps p r):St n (t*s) (M*N+M*N) (uR Q p r++[r]) (ps++[p]):=by
 have hnl:(uR Q p r).length=Q.length:=by unfold uR;rw [Zal]
 have hM1:1<=M:=Zbe hS.t1 hS.tM;have mM:M*s<=M*N:=Zbd _ h.sN;refine ⟨by rw [Zah,Zah,hnl,hS.len];rfl,λq hq => ?_,λq hq j => ?_,λx hx => ?_,λa b ha hb => ?_,Zbh hS.t1 h.s1,?_⟩
 .rcases List.mem_append.1 hq with hq | hq
  .obtain ⟨o,ho,rfl⟩:=List.mem_map.1 hq;exact (h.less hS ho).2.2
  .obtain rfl:=List.mem_singleton.1 hq;exact h.len
 .rcases List.mem_append.1 hq with hq | hq
  .obtain ⟨o,ho,rfl⟩:=List.mem_map.1 hq;exact ((h.less hS ho).2.1 j).mono (by omega)
  .obtain rfl:=List.mem_singleton.1 hq;have:=(h.den j).scale t;rw [Zax s t] at this;have e:=Zbd N hS.tM;rw [Zax N M] at e;exact this.mono (by omega)
 .rcases List.mem_append.1 hx with hx | hx
  .exact hS.rng x hx
  .obtain rfl:=List.mem_singleton.1 hx;exact h.p1
 .rw [Zah,hnl,Zcx] at ha hb;have eb:(ps++[p]).getD b 0=if b<Q.length then ps.getD b 0 else p:=by
   by_cases c:b<Q.length
   .rw [if_pos c,Zac,List.getElem?_append_left (by rw [hS.len];exact c),<- Zac]
   .rw [if_neg c,Zac,List.getElem?_append_right (by rw [hS.len];omega),hS.len,show b-Q.length=0 by omega];rfl
  have ea:(uR Q p r++[r]).getD a []=if a<Q.length then j4 (at' (Q.getD a []) p) (Q.getD a []) r else r:=by
   by_cases c:a<Q.length
   .rw [if_pos c,Zac,List.getElem?_append_left (by rw [hnl];exact c),uR,List.getElem?_map,kM (d:=[]) c];rfl
   .rw [if_neg c,Zac,List.getElem?_append_right (by rw [hnl];omega),hnl,show a-Q.length=0 by omega];rfl
  rw [ea,eb];by_cases c1:a<Q.length
  .have hl:(Q.getD a []).length=r.length:=by rw [hS.row _ (jQ c1),h.len]
   rw [if_pos c1,jU hl];by_cases c2:b<Q.length
   .rw [if_pos c2,h.out b c2,hS.one a b c1 c2,Zci];grind
   .rw [if_neg c2,h.one,if_neg (by omega)];grind
  .rw [if_neg c1];by_cases c2:b<Q.length
   .rw [if_pos c2,h.out b c2,if_neg (by omega)]
   .rw [if_neg c2,h.one,if_pos (by omega)]
 .have h1:=Zbh hS.tM h.sN;omega
abbrev SL (n:Nat) (o4 o5:Option Pa) (rs:List Pa) (cs:List (List AV)) (ps:List Nat) (T:List Ob):List Ob :=
 .gro o4 1 rs.length (rs.map (rwV n))::.gro o5 1 ps.length (ps.map λp=>I ((p:Nat):Int))::(List.zipWith Ob.arr rs cs++T)
structure SM (rs:List Pa) (cs:List (List AV)) (Q:List (List Rat)):Prop where
 lr:rs.length=Q.length
 lc:cs.length=Q.length
 row:∀ a,a<Q.length->sM (cs.getD a []) (Q.getD a [])
theorem xQ {rs:List Pa} {cs:List (List AV)} {Q:List (List Rat)} (S:SM rs cs Q):(List.zipWith Ob.arr rs cs).length=Q.length:=by
 rw [Zgb,S.lr,S.lc,Nat.min_self]
theorem SM.ob {rs:List Pa} {cs:List (List AV)} {Q:List (List Rat)} (S:SM rs cs Q) {n a:Nat} {o4 o5:Option Pa} {ps:List Nat} {T:List Ob} (ha:a<Q.length) (X:List Ob) :
  ∃ r,rs[a]? = some r/\(X++SL n o4 o5 rs cs ps T)[X.length+(a+2)]? = some (.arr r (cs.getD a [])):=by
 have hr:rs[a]? = some (rs[a]'(by rw [S.lr];exact ha)):=List.getElem?_eq_getElem _;have hc:cs[a]? = some (cs.getD a []):=kM (by rw [S.lc];exact ha);refine ⟨_,hr,?_⟩;rw [List.getElem?_append_right (by omega),Zdc];show (List.zipWith Ob.arr rs cs++T)[a]? = _;rw [List.getElem?_append_left (by rw [xQ S];exact ha),List.getElem?_zipWith,hr,hc]
theorem zk2:∀ {rs:List Pa} {cs:List (List AV)} {a:Nat} {r:Pa} {c:List AV},rs[a]? = some r->(List.zipWith Ob.arr rs cs).set a (.arr r c)=List.zipWith Ob.arr rs (cs.set a c)
 | [],_,_,_,_,h=>by simp at h
 | _::_,[],_,_,_,_=>by simp
 | x::rs,y::cs,0,r,c,h=>by
  obtain rfl:=Option.some.inj h
  rfl
 | x::rs,y::cs,a+1,r,c,h=>by
  have:=zk2 (rs:=rs) (cs:=cs) (a:=a) (r:=r) (c:=c) (by simpa using h);simp [this]
theorem SM.put {rs:List Pa} {cs:List (List AV)} {Q:List (List Rat)} (S:SM rs cs Q) {n a:Nat} {o4 o5:Option Pa} {ps:List Nat} {T:List Ob} {r:Pa} {c:List AV} {q:List Rat} (ha:a<Q.length) (hr:rs[a]? = some r) (hc:sM c q) (X:List Ob) :
  SM rs (cs.set a c) (Q.set a q)/\(X++SL n o4 o5 rs cs ps T).set (X.length+(a+2)) (.arr r c)=X++SL n o4 o5 rs (cs.set a c) ps T:=by
 refine ⟨⟨by rw [Zbk];exact S.lr,by rw [Zbk,Zbk];exact S.lc,λb hb => ?_⟩,?_⟩
 .rw [Zbk] at hb;by_cases e:b=a
  .subst e;rw [Zac,Zac,List.getElem?_set_self (by rw [S.lc];exact hb),List.getElem?_set_self hb];exact hc
  .rw [Zac,Zac,List.getElem?_set_ne (by omega),List.getElem?_set_ne (by omega),<- Zac,<- Zac];exact S.row b hb
 .rw [Zeq _ _ (by omega),Zdc];show X++(Ob.gro o4 1 rs.length (rs.map (rwV n))::Ob.gro o5 1 ps.length (ps.map λp=>I ((p:Nat):Int))::(List.zipWith Ob.arr rs cs++T).set a (.arr r c))=_;rw [List.set_append_left _ _ (by rw [xQ S];exact ha),zk2 hr]
theorem SM.add {rs:List Pa} {cs:List (List AV)} {Q:List (List Rat)} (S:SM rs cs Q) {r:Pa} {c:List AV} {q:List Rat} (hc:sM c q):SM (rs++[r]) (cs++[c]) (Q++[q]):=by
 refine ⟨by simp [S.lr],by simp [S.lc],λb hb => ?_⟩;rw [Zah,Zcx] at hb;by_cases e:b<Q.length
 .rw [Zac,Zac,List.getElem?_append_left (by rw [S.lc];exact e),List.getElem?_append_left e,<- Zac,<- Zac];exact S.row b e
 .obtain rfl:b=Q.length:=by omega
  rw [Zac,Zac,List.getElem?_append_right (by rw [S.lc];exact Zag _),List.getElem?_append_right (Zag _),S.lc,Zct];exact hc
theorem zk3 {rs:List Pa} {cs:List (List AV)} {r:Pa} {c:List AV} (h:rs.length=cs.length):List.zipWith Ob.arr (rs++[r]) (cs++[c])=List.zipWith Ob.arr rs cs++[.arr r c]:=by
 rw [List.zipWith_append h];rfl
theorem zr6 {a g4 g5:Ob} {Z T:List Ob}:(a::g4::g5::(Z++T)).Perm (g4::g5::((Z++[a])++T)):=by
 refine (List.Perm.swap ..).trans (List.Perm.cons _ ((List.Perm.swap ..).trans (List.Perm.cons _ ?_)));rw [Zbl];exact List.perm_middle.symm
theorem zr7 {α:Type} {l e:List α} {c:Nat} {q:α} (hle:e.length=l.length) (hq:e[c]? = some q):(e.take c++l.drop c).set c q=e.take (c+1)++l.drop (c+1):=by
 have hc:=(List.getElem?_eq_some_iff.1 hq).1;rw [Zaw (show c<l.length by omega),qF (by rw [Zan];omega),Zar,hq];simp
theorem qde {α:Type} {l e:List α} {c:Nat} {q:α} (hle:e.length=l.length) (hq:l[c]? = some q):(e.take c++l.drop c)[c]? = some q:=by
 have hc:=(List.getElem?_eq_some_iff.1 hq).1;rw [List.getElem?_append_right (by rw [Zan];omega),Zan,List.getElem?_drop,show c+(c-min c e.length)=c by omega];exact hq
theorem mL:∀ (l:List Int) (q:List Rat) (j:Nat),(at' q j=0\/at' q j=1)->at' (l.foldl (λq c=>q.set c.toNat 1) q) j=0\/at' (l.foldl (λq c=>q.set c.toNat 1) q) j=1
 | [],_,_,h=>h
 | c::l,q,j,h=>by
  rw [Zei];refine mL l _ j ?_;by_cases e:c.toNat=j
  .by_cases hj:j<q.length
   .right;rw [at',Zac,e,List.getElem?_set_self hj];rfl
   .left;exact gF (by rw [Zbk];omega)
  .rw [at',Zac,List.getElem?_set_ne e,<- Zac];exact h
theorem ze6 (n:Nat) (l:List Int) (j:Nat):at' (tV n l) j=0\/at' (tV n l) j=1:=by
 refine mL l _ j (.inl ?_);by_cases hj:j<n
 .rw [at',Zac,List.getElem?_replicate,if_pos hj];rfl
 .exact gF (by rw [Zay];omega)
def aV (n:Nat) (lines:List (List Int)) (i:Nat):List Rat:=j4 1 (tV n (lines.getD i [])) (tV n (lines.getD 0 []))
theorem vL (n:Nat) (lines:List (List Int)) (i:Nat):(aV n lines i).length=n:=by unfold aV;rw [gG (by rw [gA,gA]),gA]
theorem p5 (n:Nat) (lines:List (List Int)) (i j:Nat):Sg (at' (aV n lines i) j):=by
 unfold aV;rw [jU (by rw [gA,gA])];rcases ze6 n (lines.getD i []) j with e | e <;> rcases ze6 n (lines.getD 0 []) j with f | f <;> rw [e,f]
 .right;left;grind
 .left;grind
 .right;right;grind
 .right;left;grind
def Mgf (n:Nat) (lines:List (List Int)) (f:List Rat):Prop:=f.length=n/\∀ l∈lines,dot (tV n l) f=dot (tV n (lines.getD 0 [])) f
theorem zr8 {n:Nat} {lines:List (List Int)} {f:List Rat} (h:Mgf n lines f) {i:Nat} (hi:i<lines.length):dot (aV n lines i) f=0:=by
 unfold aV;rw [uY _ _ _ _ (by rw [gA,gA]),h.2 _ (jQ hi)];grind
theorem zcf {n:Nat} {f:List Rat}:∀ (l:List (List Rat×Nat)) (r:List Rat),(∀ x∈l,x.1.length=n/\dot x.1 f=0)->r.length=n->dot (oL l r) f=dot r f
 | [],r,_,_=>rfl
 |(q,p)::l,r,h,hr=>by
  obtain ⟨h1,h2⟩:=h (q,p) (Zaj ..);have hl:r.length=q.length:=by rw [hr];exact h1.symm
  rw [oL,zcf l _ (λx hx=>h x (Zaq _ hx)) (by rw [gG hl];exact hr),uY _ _ _ _ hl];have h2:dot q f=0:=h2;rw [h2];grind
def eX (m:Nat):Nat:=5*(2 ^ (m+1)-1)
end Go.Ev
namespace Go.Ev
open Go Go.Proofs
variable {B:Nat}
set_option maxRecDepth 100000
theorem zr9 {h0 h:T Blk} {nx p:Pa} {L:List Ob} {k x:Nat} {o:Option Pa} {l:List Nat} {K:Kw Prop} (H:Hp h0 h nx L) (hk:L[k]? = some (.gro o 1 l.length (l.map λp=>I ((p:Nat):Int)))) (hl:l.length<=1000) (hK:∀ z:Int,(0<=z↔x∈l)->K (I z) h nx=.ok True):(CS Tryz.prog B).fn 247 p [xg o 1 l.length,I (x:Int)] h nx K=.ok True:=by
 refine zN zQ yD 2000 λhf => ?_;rw [jq.go,jq.t22,zA,jq.zy,zA,zA,jq.zx,H.zeo hk,zK];refine jq.aL (λm x5 h' nx'=>∃ i:Nat,x5=I (i:Int)/\m+i=l.length/\x∉l.take i/\h'=h/\nx'=nx) (m:=l.length) (by omega) ⟨0,rfl,rfl,by simp,rfl,rfl⟩ ?_;rintro m z2 z3 z5 z6 z7 h3 nx3 R ⟨i,rfl,hm,hn,rfl,rfl⟩ hR;rw [jq.t15,zA,jq.je,ji,zA,zB,jq.v6];by_cases ci:i<l.length
 .have hx:l[i]? = some l[i]:=List.getElem?_eq_getElem ci;obtain ⟨id,g,d⟩:=H.zda hk (j:=i) (v:=I ((l[i]:Nat):Int)) (by rw [List.getElem?_map,hx];rfl);rw [Zab (by omega),zD,zG,zA,zK,zA,jq.fJ,zA,jq.fG,g,d,dh,zB,jq.v7];by_cases e:x=l[i]
  .rw [Zab (by omega),zD,zA,jq.qi];simp only [zI,xA,zO];rw [jq.ret];exact hK _ ⟨λ_=>e ▸ Zas ci,λ_=>by omega⟩
  .rw [Zaa (by omega),zC,zG,jq.rP,jc (by omega)];refine hR (m-1) _ _ _ _ _ _ _ (by omega) ⟨i+1,by congr 1,by omega,?_,rfl,rfl⟩;rw [Zar,hx,Zcq,Zba,Zbg];exact λq=>q.elim hn e
 .rw [Zaa (by omega),zC,zZ,yE,zA,jq.sV];simp only [zI,zO];rw [jq.ret];rw [Zaf (by omega)] at hn;exact hK _ ⟨λq=>by omega,λq=>absurd q hn⟩
theorem zu9 {h0 h:T Blk} {nx p:Pa} {L:List Ob} {k x:Nat} {o:Option Pa} {l:List Nat} {K:Kw Prop} (H:Hp h0 h nx L) (hk:L[k]? = some (.gro o 1 l.length (l.map λp=>I ((p:Nat):Int)))) (hl:l.length<=1000) (hK:K (.bool (decide (x∈l))) h nx=.ok True):(CS Tryz.prog B).fn 182 p [xg o 1 l.length,I (x:Int)] h nx K=.ok True:=by
 refine zN zQ yD 2000 λhf => ?_;rw [rG.go,rG.t3,zA,rG.zy,zA,rG.zx];refine zr9 H hk hl λz hz => ?_;rw [fe];simp only [zI,zO];rw [rG.ret];have:decide (0<=z)=decide (x∈l):=decide_eq_decide.2 hz;rw [this];exact hK
def ou (c:Nat):List (List Rat×Nat)->List Rat->List Rat
 | [],b=>b
 |(q,p)::l,b=>ou c l (b.set p (-at' q c))
theorem zdp (c:Nat) (q:List Rat) (p:Nat):∀ (l:List (List Rat×Nat)) (b:List Rat),ou c (l++[(q,p)]) b=(ou c l b).set p (-at' q c)
 | [],b=>rfl
 |(q',p')::l,b=>by rw [Zbw,ou,zdp c q p l,ou]
theorem mY (c:Nat):∀ (l:List (List Rat×Nat)) (b:List Rat),(ou c l b).length=b.length
 | [],_=>rfl
 |(q,p)::l,b=>by rw [ou,mY c l,Zbk]
def qU (n c:Nat):List Rat:=(List.replicate n 0).set c 1
def af (n:Nat) (Q:List (List Rat)) (ps:List Nat) (c:Nat):List Rat:=ou c (aH Q ps) (qU n c)
theorem dG (n c:Nat):(qU n c).length=n:=by unfold qU;rw [Zbk,Zay]
theorem qA (n:Nat) (Q:List (List Rat)) (ps:List Nat) (c:Nat):(af n Q ps c).length=n:=by unfold af;rw [mY,dG]
theorem zk4 (c j:Nat) {P:Rat->Prop}:∀ (l:List (List Rat×Nat)) (b:List Rat),(∀ x∈l,P (-at' x.1 c))->P (at' b j)->P (at' (ou c l b) j)
 | [],_,_,h=>h
 |(q,p)::l,b,hl,h=>by
  rw [ou];refine zk4 c j l _ (λx hx=>hl x (Zaq _ hx)) ?_;by_cases e:p=j
  .by_cases hj:j<b.length
   .rw [at',Zac,e,List.getElem?_set_self hj];exact hl (q,p) (Zaj ..)
   .rw [gF (by rw [Zbk];omega)]
    rwa [gF (by omega)] at h
  .rw [at',Zac,List.getElem?_set_ne e,<- Zac];exact h
theorem zsa (n c j:Nat):at' (qU n c) j=0\/at' (qU n c) j=1:=by
 unfold qU;by_cases e:c=j
 .by_cases hj:j<n
  .right;rw [at',Zac,e,List.getElem?_set_self (by rw [Zay];exact hj)];rfl
  .left;exact gF (by rw [Zbk,Zay];omega)
 .left
  rw [at',Zac,List.getElem?_set_ne e];by_cases hj:j<n
  .rw [List.getElem?_replicate,if_pos hj];rfl
  .rw [List.getElem?_eq_none (by rw [Zay];omega)];rfl
theorem Dn.neg {t M:Nat} {q:Rat} (h:Dn t M q):Dn t M (-q):=by
 obtain ⟨z,e,hz⟩:=h;exact ⟨-z,by rw [Zde];grind,by omega⟩
theorem cL:∀ (b g:List Rat) (p:Nat) (x:Rat),p<b.length->b.length=g.length->dot (b.set p x) g=dot b g+(x-at' b p)*at' g p
 | [],_,p,x,h,_=>by simp at h
 | y::b,[],p,x,h,h2=>by simp at h2
 | y::b,z::g,0,x,_,_=>by
  rw [Zcm,dot,dot];show _=_+(x-y)*z
  grind
 | y::b,z::g,p+1,x,h,h2=>by
  have ih:=cL b g p x (by simpa using h) (by simpa using h2);rw [List.set_cons_succ,dot,dot,ih];show _=_+(x-at' b p)*at' g p
  grind
def sumA (c:Nat) (g:List Rat):List (List Rat×Nat)->Rat
 | []=>0
 |(q,p)::l=>at' g p*at' q c+sumA c g l
theorem ze7 {b:List Rat} {p j:Nat} {x:Rat} (h:p≠j):at' (b.set p x) j=at' b j:=by
 rw [at',Zac,List.getElem?_set_ne h,<- Zac]
theorem zhp {n c:Nat} {g:List Rat} (hg:g.length=n):∀ (l:List (List Rat×Nat)) (b:List Rat),b.length=n->(l.map (·.2)).Nodup->(∀ x∈l,x.2<n/\at' b x.2=0)->dot (ou c l b) g=dot b g-sumA c g l
 | [],b,_,_,_=>by rw [ou,sumA];grind
 |(q,p)::l,b,hb,hd,hz=>by
  obtain ⟨h1,h2⟩:=hz (q,p) (Zaj ..);have h1:p<n:=h1;have h2:at' b p=0:=h2;rw [Zcs,Zfb] at hd;rw [ou,zhp hg l _ (by rw [Zbk];exact hb) hd.2 (λx hx => ?_),cL _ _ _ _ (by omega) (by omega),h2,sumA]
  .grind
  .obtain ⟨h3,h4⟩:=hz x (Zaq _ hx);refine ⟨h3,?_⟩;rw [ze7 (λe=>hd.1 (List.mem_map.2 ⟨x,hx,e.symm⟩))];exact h4
end Go.Ev
namespace Go.Ev
open Go Go.Proofs
theorem kZ:∀ (a b:List Rat),dot a b=dot b a
 | [],[]=>rfl
 | [],_::_=>rfl
 | _::_,[]=>rfl
 | x::a,y::b=>by rw [dot,dot,kZ a b];grind
theorem mR:∀ (r f:List Rat),(∀ j,at' r j=0)->dot r f=0
 | [],_,_=>by cases ‹List Rat› <;> rfl
 | x::r,[],_=>rfl
 | x::r,y::f,h=>by
  have h0:x=0:=h 0;rw [dot,mR r f λj=>h (j+1),h0];grind
theorem pH (n j:Nat):at' (List.replicate n (0:Rat)) j=0:=by
 by_cases hj:j<n
 .rw [at',Zac,List.getElem?_replicate,if_pos hj];rfl
 .exact gF (by rw [Zay];omega)
theorem zsb {n c:Nat} {g:List Rat} (hg:g.length=n) (hc:c<n):dot (qU n c) g=at' g c:=by
 unfold qU;rw [cL _ _ _ _ (by rw [Zay];exact hc) (by rw [Zay];exact hg.symm),pH,mR _ _ (pH n)];grind
theorem ze8 {n c j:Nat} (h:j≠c):at' (qU n c) j=0:=by
 unfold qU;rw [ze7 (λe=>h e.symm),pH]
theorem bA (c:Nat) (g:List Rat) (q:List Rat) (p:Nat):∀ l:List (List Rat×Nat),sumA c g (l++[(q,p)])=sumA c g l+at' g p*at' q c
 | []=>by simp only [Zbq,sumA];grind
 |(q',p')::l=>by rw [Zbw,sumA,sumA,bA c g q p l];grind
structure RkG (n:Nat) (Q:List (List Rat)) (ps:List Nat) (g:List Rat) (k:Nat) (r:List Rat):Prop where
 eq:r=oL ((aH Q ps).take k) g
 len:r.length=n
 val:∀ c,at' r c=at' g c-sumA c g ((aH Q ps).take k)
 late:∀ b,k<=b->b<Q.length->at' r (ps.getD b 0)=at' g (ps.getD b 0)
 done:∀ b,b<k->b<Q.length->at' r (ps.getD b 0)=0
theorem RkG.all {n t M:Nat} {Q:List (List Rat)} {ps:List Nat} {g:List Rat} (hS:St n t M Q ps) (hg:g.length=n):∀ k,k<=Q.length->RkG n Q ps g k (oL ((aH Q ps).take k) g)
 | 0,_=>⟨rfl,hg,λc=>by rw [Zdj,oL,sumA];grind,λb _ _=>rfl,λb h=>by omega⟩
 | k+1,hk=>by
  have h:=RkG.all hS hg k (by omega);have hk':k<Q.length:=by omega
  have hq:=jQ (d:=[]) hk';have hll:(oL ((aH Q ps).take k) g).length=(Q.getD k []).length:=by rw [h.len,hS.row _ hq]
  have hl:=h.late k (Zag _) hk';refine ⟨rfl,?_,λc => ?_,λb h1 h2 => ?_,λb h1 h2 => ?_⟩
  .rw [kW hS.len hk',kS,gG hll];exact h.len
  .rw [kW hS.len hk',kS,jU hll,h.val c,bA,hl];grind
  .rw [kW hS.len hk',kS,jU hll,hS.one k b hk' h2,if_neg (by omega),h.late b (by omega) h2];grind
  .rw [kW hS.len hk',kS,jU hll,hS.one k b hk' h2];by_cases e:b=k
   .subst e;rw [if_pos rfl];grind
   .rw [if_neg (by omega),h.done b (by omega) h2];grind
theorem St.nodup {n t M:Nat} {Q:List (List Rat)} {ps:List Nat} (hS:St n t M Q ps):ps.Nodup:=by
 rw [Zdu,Zdy];intro a b ha hb hab e;have ha':a<Q.length:=by have:=hS.len;omega
 have hb':b<Q.length:=by have:=hS.len;omega
 have h1:=hS.one a a ha' ha';have h2:=hS.one a b ha' hb';have e1:ps.getD a 0=ps[a]:=by rw [Zac,List.getElem?_eq_getElem ha];rfl
 have e2:ps.getD b 0=ps[b]:=by rw [Zac,List.getElem?_eq_getElem hb];rfl
 rw [if_pos rfl,e1] at h1;rw [if_neg (by omega),e2,<- e,h1] at h2;exact absurd h2 (by decide)
theorem zva {Q:List (List Rat)} {ps:List Nat} (h:ps.length=Q.length):(aH Q ps).map (·.2)=ps:=by
 exact List.map_snd_zip (by omega)
theorem ze9 {n:Nat} {l:List Int} {c:Int} {b:List Rat} (hb:b.length=n) (hc:0<=c/\c<(n:Int)) (hn:c∉l) (hl:∀ x∈l,0<=x):dot (tV n (l++[c])) b=dot (tV n l) b+at' b c.toNat:=by
 have hz:∀ (l:List Int) (q:List Rat),c∉l->(∀ x∈l,0<=x)->at' q c.toNat=0->at' (l.foldl (λq c=>q.set c.toNat 1) q) c.toNat=0:=by
  intro l
  induction l with
  | nil=>intro q _ _ h;exact h
  | cons x l ih =>
   intro q hcl hx h;rw [Zei];have hx0:=hx x (Zaj ..);have hne:x≠c:=λe=>hcl (by rw [e];exact Zaj ..);refine ih _ (λhm=>hcl (Zaq _ hm)) (λy hy=>hx y (Zaq _ hy)) ?_;rw [ze7 (by omega)];exact h
 rw [zdo,cL _ _ _ _ (by rw [gA];omega) (by rw [gA];exact hb.symm)];have h0:at' (tV n l) c.toNat=0:=hz l _ hn hl (pH n _);rw [h0];grind
end Go.Ev
namespace Go.Ev
open Go Go.Proofs
variable {B:Nat}
set_option maxRecDepth 100000
theorem zsc {n:Nat} {l:List AV} {h:T Blk} {op:AV->OP} (hl:n<=l.length):zJ n (.fp l) h op=op (.agg (l.take n)):=by
 show (bif Nat.ble n l.length then op (.agg (l.take n)) else .no 8)=_;rw [Zae hl];rfl
def Sml (q:Rat):Prop:=q.num.natAbs<9223372036854775808/\q.den<9223372036854775808
abbrev vD (q:List Rat):List AV:=q.map λx=>.str (uz x)
theorem zsd {n:Nat} {c:List AV} {q:List Rat} (hc:sM c q) (hn:q.length=n) (hn1:n<=1000) (hs:∀ x∈q,Sml x):Pure Tryz.prog B 181 [.lst 4 n c] (· = .lst 1 n (vD q)):=by
 refine zX λh nx K H0 hK=>zN zQ yD 2000 λhf => ?_;rw [jy.go,jy.t20,zA,jy.zy,zA,jy.zx,yA];refine H0.mkN (n:=n) (c:=n) rfl rfl (Zag _) (by omega) (by omega) λid h1 nx1 H1 => ?_;have hle:(vD q).length=(fM n [AV.str []]).length:=by rw [Zal,p7,hn];simp
 rw [zA,zA,jy.je,yA,zK];refine jy.zf0 (λm x7 h' nx'=>∃ k:Nat,x7=I (k:Int)/\m+k=n/\Hp h h' nx' [.arr id ((vD q).take k++(fM n [AV.str []]).drop k)]) (m:=n) (by omega) ⟨0,rfl,rfl,by rw [Zdj,Zbq,Zdb];exact H1⟩ ?_;rintro m z3 z4 z7 z8 h3 nx3 R ⟨k,rfl,hm,H3⟩ hR;rw [jy.t12,zA,jy.pq,ji,zA,zB,jy.v8];by_cases ck:k<n
 .obtain ⟨cs,e1,e2,_,fv⟩:=hc.get (kN (q:=q) (j:=k) (by omega));have hx:(vD q)[k]? = some (.str (uz (at' q k))):=by rw [List.getElem?_map,kN (by omega)];rfl
  have sm:=hs (at' q k) (Zad (kN (q:=q) (j:=k) (by omega)));have hlen:((vD q).take k++(fM n [AV.str []]).drop k).length=n:=by
   rw [Zah,Zan,Zcb,Zal,p7];simp;omega
  rw [Zab (by omega),zD,zG,zA,zK,zA,jy.fG,zxl (j:=k) rfl ck,zsc (by rw [Zcb];omega),e1];refine H3.alloc λb h4 nx4 H4 => ?_;have hcl:∃ a b' c' d',cs=[a,b',c',d']:=by
   obtain ⟨s,w,s',w',e,_⟩:=fv;exact ⟨s,w,s',w',AV.agg.inj e⟩
  obtain ⟨a1,a2,a3,a4,rfl⟩:=hcl;refine H4.jd (l2:=[a1,a2,a3,a4]) (k:=0) rfl rfl rfl λh5 H5 => ?_;rw [jy.qi,H5.zw (k:=0) (n:=4) rfl rfl];refine zzs fv sm.1 sm.2 _ _ _ _ ?_;rintro _ rfl _;rw [u9 ck,Zbo];refine H5.store (k:=1) rfl (by rw [Zbi,hlen];exact ck) rfl λh6 H6 => ?_;rw [Zbi] at H6;have H6:Hp h h6 nx4 (.arr b [a1,a2,a3,a4]::[.arr id (((vD q).take k++(fM n [AV.str []]).drop k).set k (.str (uz (at' q k))))]):=H6;rw [zr7 hle hx] at H6;rw [jy.fK,jc (by omega)];exact hR (m-1) _ _ _ _ _ _ (by omega) ⟨k+1,by congr 1,by omega,H6.drop⟩
 .obtain rfl:k=n:=by omega
  rw [Zaf (by rw [Zal];omega),Zbn (by rw [p7];simp),Zbj] at H3;rw [Zaa (by omega),zC,zZ,yE,zA,jy.aI];simp only [zI,zO];rw [jy.ret];exact hK _ _ _ _ _ H3 (H3.zja (k:=0) rfl (Zag _) (by rw [Zal];omega) (λv hv=>by obtain ⟨x,_,rfl⟩:=List.mem_map.1 hv;rfl)) rfl
theorem zmq {s:List UInt8} (hl:s.length<=100000) (hs:∀ c∈s,48<=c.toNat/\c.toNat<=57):Pure Tryz.prog B 267 [.str s] (· = .bool true):=by
 refine zX λh nx K H0 hK=>zN zQ yD 100010 λhf => ?_;rw [jo.go,jo.t20,zA,jo.zy,zA,zA,jo.zx,zK];refine jo.znx (λm x2 h' nx'=>∃ i:Nat,x2=I (i:Int)/\m+i=s.length/\h'=h/\nx'=nx) (m:=s.length) (by omega) ⟨0,rfl,rfl,rfl,rfl⟩ ?_;rintro m z1 z2 z3 z4 h3 nx3 R ⟨i,rfl,hm,rfl,rfl⟩ hR;rw [jo.t13,zA,zA,jo.je,tT,ji,zB,jo.v3];by_cases c:i<s.length
 .have ec:=List.getElem?_eq_getElem c;obtain ⟨b1,b2⟩:=hs _ (Zas c);rw [Zab (by omega),zD,zG,zA,zK,zA,jo.fG,jo.r3_0,jo.zie,oW (i:=i) rfl ec,ji,Zaa (by omega)];simp only [yI];rw [oW (i:=i) rfl ec,jo.r3_1,jo.zif];simp only [yI];rw [xq,Zaa (by omega)];simp only [zY];rw [zB,jo.v4,zC,zG,jo.di,jc (by omega)];exact hR (m-1) _ _ _ _ _ _ (by omega) ⟨i+1,by congr 1,by omega,rfl,rfl⟩
 .rw [Zaa (by omega),zC,zZ,yE,zA,jo.rX];simp only [zI,zO];rw [jo.ret];exact hK _ _ _ _ _ H0 (zT rfl) rfl
theorem zmr {n:Nat} (h:(uw n 1)[0]? = some 48):n=0:=by
 rcases Zbx n with e | e
 .exact e
 .exfalso
  have hne:dg 10 n≠[]:=λq=>by
   have:=uV (b:=10) (z:=n) (by decide) (by omega);rw [q] at this;cases this
  unfold uw at h;rw [xE (by omega)] at h;rw [List.getElem?_map,List.getElem?_reverse (by have:=List.length_pos_iff.2 hne;omega)] at h;have hl:=List.length_pos_iff.2 hne;rw [show (dg 10 n).length-1-0=(dg 10 n).length-1 by omega,List.getElem?_eq_getElem (by omega)] at h;obtain ⟨_,hdg,hnm⟩:=gL (b:=10) (by decide) n;have hlast:(dg 10 n)[(dg 10 n).length-1]≠0:=by
   exact λe=>hnm (by rw [List.getLast?_eq_getElem?,List.getElem?_eq_getElem (by omega),e])
  have hlt:=hdg _ (Zas (l:=dg 10 n) (n:=(dg 10 n).length-1) (by omega));have:∀ n<10,n≠0->dch n≠48:=by decide +kernel
  exact this _ hlt hlast (by simpa using h)
theorem zvb {x:Nat} (h:x<10):48<=(dch x).toNat/\(dch x).toNat<=57:=by
 have:∀ n<10,48<=(dch n).toNat/\(dch n).toNat<=57:=by decide +kernel
 exact this x h
theorem zse {n:Nat}:∀ c∈uw n 1,48<=c.toNat/\c.toNat<=57:=λc hc=>by
 unfold uw at hc;obtain ⟨x,hx,rfl⟩:=List.mem_map.1 hc;exact zvb (wO _ _ x (by simpa using hx))
theorem zk5 {n:Nat} (hl:(uw n 1).length<=10000):Pure Tryz.prog B 207 [.str (uw n 1)] (· = .bool true):=by
 refine zX λh nx K H0 hK=>zN zQ yD 100 λhf => ?_;have hp:=wD n;have ec:=List.getElem?_eq_getElem (l:=uw n 1) (i:=0) (by omega);rw [kg.go,kg.t9,zA,kg.zy,zA,zA,kg.zx,kg.si,kg.sj,tT,dh,Zaa (by omega)];simp only [yI];rw [tT,xq];have fin:∀ x2:AV,x2=.bool false->kg.t4.run (CS Tryz.prog B) 100 (fnO kg.res K) (kg.t7.run (CS Tryz.prog B) 100 (fnO kg.res K) (zi kg.res K)) (kg.fr (.str (uw n 1)) (.bool false) x2) h nx=.ok True:=by
  rintro _ rfl;rw [kg.t4,zB,kg.v2,zC,zG,kg.t7,zA,kg.qi];refine zmq (by omega) zse _ _ _ _ ?_;rintro _ rfl _;simp only [zI,zO];rw [kg.ret];exact hK _ _ _ _ _ H0 (zT rfl) rfl
 by_cases c:1<((uw n 1).length:Int)
 .rw [Zab c,kg.sQ,kg.fZ];simp only [yH,yI,zW,zY];rw [oW (i:=0) (x:=0) rfl ec,dh];have hne:¬ (((uw n 1)[0].toNat:Int)=48):=λq=>by
   have e:(48:UInt8).toNat=48:=rfl;have h48:(uw n 1)[0]=48:=UInt8.toNat_inj.1 (by omega);have:=zmr (n:=n) (by rw [ec,h48]);subst this;rw [xK] at c;exact absurd c (by decide)
  rw [Zaa hne];exact fin _ rfl
 .rw [Zaa c,kg.sQ,kg.fZ];simp only [jA,yI,uF,zW,zY];exact fin _ rfl
theorem zvc {n:Nat} (h:uw n 1=[49]):n=1:=by
 have hlt:=cM (n:=n) (k:=1) (by rw [h];simp);rcases Zbx n with e | e
 .subst e;rw [xK] at h;cases h
 .have hd:dg 10 n=[n]:=by
   rw [uV (by decide) (by omega),show n / 10=0 by omega,j3,show n%10=n by omega]
  unfold uw at h;rw [xE (by omega),hd] at h;have:∀ n<10,dch n=49->n=1:=by decide +kernel
  exact this n (by omega) (by simpa using h)
theorem zsf (q:Rat):∃ r:Rat,uz r=r9 q/\r.num.natAbs=q.num.natAbs/\r.den=q.den:=by
 by_cases d:q.num<0
 .exact ⟨-q,by rw [(mB (q := -q) (by rw [Zfp];omega)).1,zrw],by rw [Zfp,Zeb],Zgd q⟩
 .exact ⟨q,(mB d).1,rfl,rfl⟩
theorem zsg {q:Rat} (hq:Sml q):Pure Tryz.prog B 126 [.str (uz q)] (· = I 0):=by
 refine zX λh nx K H0 hK=>zN zQ yD 100 λhf => ?_;have l1:=zmj q;have n1:=wD q.num.natAbs;have d1:=wD q.den;have n2:=wE (n:=q.num.natAbs) (k:=3) (Zfi hq.1 (by decide));have d2:=wE (n:=q.den) (k:=3) (Zfi hq.2 (by decide));obtain ⟨r,hr1,hr2,hr3⟩:=zsf q;have hrd:uz r=uw q.num.natAbs 1++(if q.den=1 then [] else 47::uw q.den 1):=by rw [hr1,r9]
 have main:∀ x3 x4 x5 x6 x7 x8 x9 x10 x11 x12,zf.t40.run (CS Tryz.prog B) 100 (fnO zf.res K) (zi zf.res K) (zf.fr (.str (uz q)) (I 0) (.str (uz r)) x3 x4 x5 x6 x7 x8 x9 x10 x11 x12) h nx=.ok True:=by
  intro x3 x4 x5 x6 x7 x8 x9 x10 x11 x12;obtain ⟨j,hj⟩:∃ j,j=(uw q.num.natAbs 1).length:=⟨_,rfl⟩;have hlen:(uz r).length=j+if q.den=1 then 0 else (uw q.den 1).length+1:=by
   rw [hrd,Zah,hj];split <;> simp
  have hll:(uz r).length<=100:=by rw [hlen];split <;> omega
  have hjl:j<=(uz r).length:=by omega
  have ht:(uz r).take j=uw q.num.natAbs 1:=by rw [hrd,Zfx hj.symm]
  have hdr:q.den≠1->(uz r).drop (j+1)=uw q.den 1:=λc=>by
   rw [hrd,if_neg c,<- Zea,List.drop_left' hj.symm];rfl
  have zxp:∀ x4 x5 x6 x7 x8 x10 x11 x12,zf.t15.run (CS Tryz.prog B) 100 (fnO zf.res K) (zf.t37.run (CS Tryz.prog B) 100 (fnO zf.res K) (zi zf.res K)) (zf.fr (.str (uz q)) (I 0) (.str (uz r)) (I (j:Int)) x4 x5 x6 x7 x8 (.bool false) x10 x11 x12) h nx=.ok True:=by
   intro x4 x5 x6 x7 x8 x10 x11 x12;rw [zf.t15,zB,zf.v9,zC,zG,zf.t37,zA,zA,zf.rX,zf.r9_0,zf.zxy,xq,Zaa (by omega)];simp only [yI];rw [tT,kz (by omega),kz (by omega),zf.r9_1,zf.zxz];simp only [yI];rw [xq,Zaa (by omega)];simp only [zY];rw [zB,zf.v10,zC,zG,zA,zA,zf.aX,tT,ji];by_cases c:q.den=1
   .rw [if_pos c] at hlen;rw [Zaa (by omega),zB,zf.v11,zC,zG,zA,zf.zab];simp only [zI,zO];rw [zf.ret];exact hK _ _ _ _ _ H0 (zT rfl) rfl
   .rw [if_neg c] at hlen;rw [Zab (by omega),zB,zf.v11,zD,zA,zf.zfn];have z1:Z9 3 r.num:=by unfold Z9;rw [hr2];exact Zfi hq.1 (by decide)
    have z2:Z9 3 (r.den:Int):=by unfold Z9;rw [hr3,Zbp];exact Zfi hq.2 (by decide)
    refine vP (k:=3) (by decide) z1 z2 _ _ _ _ ?_;rintro _ rfl _;rw [jE,jD];refine H0.alloc λp1 h1 nx1 H1 => ?_;refine H1.alloc λp2 h2 nx2 H2 => ?_;refine H2.jd (l2:=[.bool (decide (r.num<0)),jm (dg 1000000000 r.num.natAbs)]) (k:=1) rfl rfl rfl λh3 H3 => ?_;refine H3.jd (l2:=[.bool (decide ((r.den:Int)<0)),jm (dg 1000000000 (r.den:Int).natAbs)]) (k:=0) rfl rfl rfl λh4 H4 => ?_;rw [zA,zf.oD,sFx,H4.load (k:=1) (i:=0+1) rfl rfl,sFx,H4.load (k:=0) (i:=0+1) rfl rfl];refine zdh (show S9 _ from Zbe z1.len (by decide)) (show S9 _ from Zbe z2.len (by decide)) _ _ _ _ ?_;rintro _ rfl _;have hg:Nat.gcd r.num.natAbs (r.den:Int).natAbs=1:=by rw [Zbp];exact r.reduced
    have he:jm (dg 1000000000 1)=.lst 1 1 [I 1]:=by rw [uV (by decide) (by decide),j3];rfl
    rw [hg,he,zA,zf.zaj,zf.zn4,zf.zs8,yA,fD,Zab (show ((1:Nat):Int)=1 from rfl),Zak];simp only [yI];rw [fE (j:=0) (i:=0) rfl (by decide),ldL (i:=0) rfl,fD,Zab rfl,Zak,zf.zwt,zf.zs9];simp only [zY];rw [zB,zf.v12,zC,zG,zA,zf.zab];simp only [zI,zO];rw [zf.ret];exact hK _ _ _ _ _ H4 (zT rfl) rfl
  have rest:∀ x4 x5 x6 x7 x9 x10 x11 x12,zf.t10.run (CS Tryz.prog B) 100 (fnO zf.res K) (zf.t38.run (CS Tryz.prog B) 100 (fnO zf.res K) (zi zf.res K)) (zf.fr (.str (uz q)) (I 0) (.str (uz r)) (I (j:Int)) x4 x5 x6 x7 (.bool false) x9 x10 x11 x12) h nx=.ok True:=by
   intro x4 x5 x6 x7 x9 x10 x11 x12;rw [zf.t10,zB,zf.v8,zC,zG,zf.t38,zA,zA,zf.rP,zf.r7_0,zf.zic,tT,ji];by_cases c:q.den=1
   .rw [if_pos c] at hlen;rw [Zaa (by omega)];simp only [jA];rw [zf.r7_1,zf.zdy];simp only [jA,uGWf];rw [zf.r7_2,zf.zdz];simp only [jA,uF];rw [zf.r7_3,zf.zn3];simp only [jA,uF,zY];exact zxp ..
   .rw [if_neg c] at hlen;rw [Zab (by omega)];simp only [yH];rw [jc (by omega),zf.r7_1,zf.zdy];simp only [yH,uGWt];rw [d7 (a:=j+1) (by omega) (by omega),hdr c];refine zk5 (by omega) _ _ _ _ ?_;rintro _ rfl _;have k48:¬ uw q.den 1=[48]:=λe=>absurd (ze2 e) q.den_nz;have k49:¬ uw q.den 1=[49]:=λe=>c (zvc e);rw [zf.r7_2,zf.zdz];simp only [yH,jG,Zak,yI];rw [jc (by omega),d7 (a:=j+1) (by omega) (by omega),hdr c,zhj,Zaa k48];simp only [zY];rw [zf.r7_3,zf.zn3];simp only [yH,yI];rw [jc (by omega),d7 (a:=j+1) (by omega) (by omega),hdr c,zhj,Zaa k49];simp only [zY,zW];exact zxp ..
  rw [zf.t40,zA,zf.qi];refine pX (j:=j) (by omega) hjl (λi c' hi hc => ?_) ?_ _ _ _ _ ?_
  .rw [hrd,List.getElem?_append_left (by omega)] at hc;exact (xL (Zad hc)).1
  .by_cases c:q.den=1
   .rw [if_pos c] at hlen;exact .inl (by omega)
   .refine .inr ?_;rw [hrd,if_neg c,List.getElem?_append_right (by omega),hj,Zct];rfl
  rintro _ rfl _;rw [zA,zA,zf.fC,zf.r5_0,zf.zxw,tTo (b:=j) rfl hjl,ht];refine zk5 (by omega) _ _ _ _ ?_;rintro _ rfl _;rw [zf.r5_1,zf.zxx,jG,Zak];simp only [yI];by_cases d:q.num<0
  .have e0:(uz q)[0]? = some 45:=by rw [zca d];rfl
   rw [oW (i:=0) (x:=0) rfl e0,dh,show decide (((45:UInt8).toNat:Int)=45)=true from rfl];simp only [yH];rw [zf.r5_2,zf.zn2];simp only [yH];rw [tTo (b:=j) rfl hjl,ht,zhj,Zaa (λe=>by have:=ze2 e;omega)];simp only [yI,zW,zY];exact rest ..
  .obtain ⟨ec,c',e0,hne⟩:=mB d
   have hne2:¬ ((c'.toNat:Int)=45):=λh=>hne (by
    have e:(45:UInt8).toNat=45:=rfl;have:c'.toNat=(45:UInt8).toNat:=by omega
    exact UInt8.toNat_inj.1 this)
   rw [oW (i:=0) (x:=0) rfl e0,dh,Zaa hne2];simp only [jA];rw [zf.r5_2,zf.zn2];simp only [jA,uF,yI,zY];exact rest ..
 rw [zf.go,zf.t43,zA,zf.zy,zA,zf.zx,zA,zA,zf.je,tT,xq,Zab (by omega)];simp only [yH];by_cases d:q.num<0
 .have e0:(uz q)[0]? = some 45:=by rw [zca d];rfl
  rw [oW (i:=0) (x:=0) rfl e0,dh];simp only [zW];rw [show decide (((45:UInt8).toNat:Int)=45)=true from rfl,zB,zf.v7,zD,zf.pq,d7 (a:=1) (x:=1) rfl l1];have e:(uz q).drop 1=uz r:=by rw [hr1,zca d];rfl
  rw [e];exact main ..
 .obtain ⟨ec,c',e0,hne⟩:=mB d
  have hne2:¬ ((c'.toNat:Int)=45):=λh=>hne (by
   have e:(45:UInt8).toNat=45:=rfl;have:c'.toNat=(45:UInt8).toNat:=by omega
   exact UInt8.toNat_inj.1 this)
  rw [oW (i:=0) (x:=0) rfl e0,dh];simp only [zW];rw [Zaa hne2,zB,zf.v7,zC,zG,ec,<- hr1];have:=main;rw [<- hr1] at ec;rw [ec] at this;exact this ..
end Go.Ev
namespace Go.Ev
open Go Go.Proofs
def wdg:List Int->(List Bool->Int)->List Bool->Int
 | _::a,w,false::s=>wdg a (λt=>w (false::t)) s
 | x::a,w,true::s=>x*w (false::s)-wdg a (λt=>w (true::t)) s
 | _,_,_=>0
def ctr:List Int->(List Bool->Int)->List Bool->Int
 | x::a,w,false::s=>ctr a (λt=>w (false::t)) s+x*w (true::s)
 | _::a,w,true::s => -ctr a (λt=>w (true::t)) s
 | _,_,_=>0
def ipf:Nat->(List Bool->Int)->(List Bool->Int)->Int
 | 0,v,w=>v []*w []
 | n+1,v,w=>ipf n (λt=>v (false::t)) (λt=>w (false::t))+ipf n (λt=>v (true::t)) (λt=>w (true::t))
def sqV:List Int->Int
 | []=>0
 | x::a=>x*x+sqV a
def dtI:List Int->List Int->Int
 | x::a,y::b=>x*y+dtI a b
 | _,_=>0
theorem kE:∀ n v w,ipf n v w=ipf n w v
 | 0,_,_=>Int.mul_comm ..
 | n+1,v,w=>by rw [ipf,ipf,kE n,kE n (λt=>v (true::t))]
theorem cK (c:Int):∀ n u v w,ipf n u (λs=>c*v s-w s)=c*ipf n u v-ipf n u w
 | 0,_,_,_=>by simp only [ipf];grind
 | n+1,u,v,w=>by
  simp only [ipf];rw [cK c n _ (λt=>v (false::t)) (λt=>w (false::t)),cK c n _ (λt=>v (true::t)) (λt=>w (true::t))];grind
theorem mH (c:Int):∀ n u v w,ipf n (λs=>v s+c*w s) u=ipf n v u+c*ipf n w u
 | 0,_,_,_=>by simp only [ipf];grind
 | n+1,u,v,w=>by
  simp only [ipf];rw [mH c n _ (λt=>v (false::t)) (λt=>w (false::t)),mH c n _ (λt=>v (true::t)) (λt=>w (true::t))];grind
theorem cJ:∀ n u v,ipf n (λs => -v s) u = -ipf n v u
 | 0,_,_=>by simp only [ipf];grind
 | n+1,u,v=>by
  simp only [ipf];rw [cJ n _ (λt=>v (false::t)),cJ n _ (λt=>v (true::t))];grind
theorem zcg:∀ n w,ipf n (λ_=>0) w=0
 | 0,_=>Int.zero_mul _
 | n+1,w=>by rw [ipf,zcg n,zcg n];rfl
theorem wQ:∀ n w,0<=ipf n w w
 | 0,w=>by
  rcases Int.le_total 0 (w []) with h | h
  .exact Zgc h h
  .exact Zdv h h
 | n+1,w=>Int.add_nonneg (wQ n _) (wQ n _)
theorem zk6 (x:Int):0<=x*x:=by
 rcases Int.le_total 0 x with h | h
 .exact Zgc h h
 .exact Zdv h h
theorem zjr:∀ (a:List Int) (v w),ipf a.length v (wdg a w)=ipf a.length (ctr a v) w
 | [],v,w=>by simp only [ipf,wdg,ctr,Zfa];grind
 | x::a,v,w=>by
  show ipf a.length (λt=>v (false::t)) (wdg a λt=>w (false::t))+ipf a.length (λt=>v (true::t)) (λs=>x*w (false::s)-wdg a (λt=>w (true::t)) s)=ipf a.length (λs=>ctr a (λt=>v (false::t)) s+x*v (true::s)) (λt=>w (false::t))+ipf a.length (λs => -ctr a (λt=>v (true::t)) s) (λt=>w (true::t));rw [zjr a,cK x _ _ (λs=>w (false::s)) (λs=>wdg a (λt=>w (true::t)) s),mH x _ _ (λs=>ctr a (λt=>v (false::t)) s) (λs=>v (true::s)),cJ,show (λs=>wdg a (λt=>w (true::t)) s)=wdg a λt=>w (true::t) from rfl,zjr a]
  grind
theorem zch:∀ (a:List Int) w,ipf a.length (wdg a w) (wdg a w)+ipf a.length (ctr a w) (ctr a w)=sqV a*ipf a.length w w
 | [],w=>by simp only [ipf,wdg,ctr,sqV,Zfa];grind
 | x::a,w=>by
  have e1:=zch a λt=>w (false::t);have e2:=zch a λt=>w (true::t);have e3:=zjr a (λt=>w (false::t)) (λt=>w (true::t));show ipf a.length (wdg a λt=>w (false::t)) (wdg a λt=>w (false::t))+ipf a.length (λs=>x*w (false::s)-wdg a (λt=>w (true::t)) s) (λs=>x*w (false::s)-wdg a (λt=>w (true::t)) s)+(ipf a.length (λs=>ctr a (λt=>w (false::t)) s+x*w (true::s)) (λs=>ctr a (λt=>w (false::t)) s+x*w (true::s))+ipf a.length (λs => -ctr a (λt=>w (true::t)) s) (λs => -ctr a (λt=>w (true::t)) s))=(x*x+sqV a)*(ipf a.length (λt=>w (false::t)) (λt=>w (false::t))+ipf a.length (λt=>w (true::t)) (λt=>w (true::t)));have c1:∀ u,ipf a.length u (λs=>x*w (false::s)-wdg a (λt=>w (true::t)) s)=x*ipf a.length u (λs=>w (false::s))-ipf a.length u (wdg a λt=>w (true::t)):=λu=>cK x _ _ (λs=>w (false::s)) (λs=>wdg a (λt=>w (true::t)) s);have c2:∀ u,ipf a.length (λs=>ctr a (λt=>w (false::t)) s+x*w (true::s)) u=ipf a.length (ctr a λt=>w (false::t)) u+x*ipf a.length (λs=>w (true::s)) u:=λu=>mH x _ _ (λs=>ctr a (λt=>w (false::t)) s) (λs=>w (true::s));have c3:∀ u,ipf a.length (λs => -ctr a (λt=>w (true::t)) s) u = -ipf a.length (ctr a λt=>w (true::t)) u:=λu=>cJ ..;rw [c1,kE _ (λs=>x*w (false::s)-wdg a (λt=>w (true::t)) s),c1,kE _ (λs=>x*w (false::s)-wdg a (λt=>w (true::t)) s),c1,c2,c3,kE _ _ (λs => -ctr a (λt=>w (true::t)) s),c3,kE _ _ (λs=>ctr a (λt=>w (false::t)) s+x*w (true::s)),c2,kE _ _ (λs=>ctr a (λt=>w (false::t)) s+x*w (true::s)),c2];rw [kE _ (wdg a λt=>w (true::t)) (λs=>w (false::s)),kE _ (λs=>w (true::s)) (ctr a λt=>w (false::t)),e3]
  grind
theorem zzu (a:List Int) (w):ipf a.length (wdg a w) (wdg a w)<=sqV a*ipf a.length w w:=by
 have:=zch a w;have:=wQ a.length (ctr a w);omega
theorem cC (c:Int):∀ (a:List Int) v w s,wdg a (λt=>c*v t-w t) s=c*wdg a v s-wdg a w s
 | [],_,_,_=>by simp only [wdg];grind
 | _::_,_,_,[]=>by simp only [wdg];grind
 | x::a,v,w,false::s=>cC c a (λt=>v (false::t)) (λt=>w (false::t)) s
 | x::a,v,w,true::s=>by
  have:=cC c a (λt=>v (true::t)) (λt=>w (true::t)) s;simp only [wdg] at this ⊢;rw [this];grind
theorem pU:∀ (a b:List Int) w s,a.length=b.length->wdg a (wdg b w) s = -wdg b (wdg a w) s
 | [],[],_,_,_=>by simp only [wdg];rfl
 | _::_,_::_,_,[],_=>by simp only [wdg];rfl
 | x::a,y::b,w,false::s,h=>pU a b (λt=>w (false::t)) s (by simpa using h)
 | x::a,y::b,w,true::s,h=>by
  have ih:=pU a b (λt=>w (true::t)) s (by simpa using h);show x*wdg b (λt=>w (false::t)) s-wdg a (λt=>y*w (false::t)-wdg b (λt=>w (true::t)) t) s = -(y*wdg a (λt=>w (false::t)) s-wdg b (λt=>x*w (false::t)-wdg a (λt=>w (true::t)) t) s);rw [cC y a (λt=>w (false::t)) (wdg b λt=>w (true::t)),cC x b (λt=>w (false::t)) (wdg a λt=>w (true::t)),ih]
  grind
 | [],_::_,_,_,h=>by simp at h
 | _::_,[],_,_,h=>by simp at h
theorem zci:∀ (a:List Int) w s,(∀ t:List Bool,t.length=s.length->w t=0)->wdg a w s=0
 | [],_,_,_=>by simp only [wdg]
 | _::_,_,[],_=>by simp only [wdg]
 | x::a,w,false::s,h=>zci a _ s λt ht=>h _ (by simpa using ht)
 | x::a,w,true::s,h=>by
  simp only [wdg];rw [h (false::s) rfl,zci a _ s λt ht=>h _ (by simpa using ht)];grind
theorem zfa:∀ (a:List Int) w s,wdg a w s≠0->∃ t:List Bool,t.length=s.length/\w t≠0/\t.count true+1=s.count true
 | [],_,_,h=>absurd (by simp only [wdg]) h
 | _::_,_,[],h=>absurd (by simp only [wdg]) h
 | x::a,w,false::s,h=>by
  obtain ⟨t,h1,h2,h3⟩:=zfa a (λt=>w (false::t)) s h;exact ⟨false::t,by simp [h1],h2,by simpa using h3⟩
 | x::a,w,true::s,h=>by
  by_cases c:w (false::s)=0
  .obtain ⟨t,h1,h2,h3⟩:=zfa a (λt=>w (true::t)) s λe=>h (by simp only [wdg];rw [c,e];grind);exact ⟨true::t,by simp [h1],h2,by simpa using h3⟩
  .exact ⟨false::s,rfl,c,by simp⟩
def xvL:List Bool->(List Bool->Int)->List Int
 | [],_=>[]
 | false::s,w=>0::xvL s λt=>w (false::t)
 | true::s,w=>w (false::s)::(xvL s λt=>w (true::t)).map λx => -x
theorem zfb:∀ s w,(xvL s w).length=s.length
 | [],_=>rfl
 | false::s,_=>congrArg (· + 1) (zfb s _)
 | true::s,_=>congrArg (· + 1) (by rw [Zal];exact zfb s _)
theorem zk7:∀ a b:List Int,dtI a (b.map λx => -x) = -dtI a b
 | [],_=>by simp only [dtI];rfl
 | _::_,[]=>rfl
 | x::a,y::b=>by rw [Zcs,dtI,dtI,zk7 a b];grind
theorem zk8:∀ b:List Int,sqV (b.map λx => -x)=sqV b
 | []=>rfl
 | y::b=>by rw [Zcs,sqV,sqV,zk8 b];grind
theorem zjs:∀ (a:List Int) w s,s.length=a.length->wdg a w s=dtI a (xvL s w)
 | [],_,[],_=>rfl
 | x::a,w,false::s,h=>by
  show wdg a (λt=>w (false::t)) s=x*0+dtI a _;rw [zjs a _ s (by simpa using h)];grind
 | x::a,w,true::s,h=>by
  show x*w (false::s)-wdg a (λt=>w (true::t)) s=x*w (false::s)+dtI a _;rw [zjs a _ s (by simpa using h),zk7];grind
 | [],_,_::_,h=>by simp at h
 | _::_,_,[],h=>by simp at h
theorem zsh:∀ s w,w s*w s<=ipf s.length w w
 | [],_=>Int.le_refl _
 | false::s,w=>by
  have:=zsh s λt=>w (false::t);have:=wQ s.length λt=>w (true::t);show _<=ipf s.length (λt=>w (false::t)) (λt=>w (false::t))+ipf s.length (λt=>w (true::t)) (λt=>w (true::t));omega
 | true::s,w=>by
  have:=zsh s λt=>w (true::t);have:=wQ s.length λt=>w (false::t);show _<=ipf s.length (λt=>w (false::t)) (λt=>w (false::t))+ipf s.length (λt=>w (true::t)) (λt=>w (true::t));omega
theorem zsi:∀ s w,sqV (xvL s w)<=ipf s.length w w
 | [],w=>wQ 0 w
 | false::s,w=>by
  have:=zsi s λt=>w (false::t);have:=wQ s.length λt=>w (true::t);show 0*0+sqV (xvL s λt=>w (false::t))<=ipf s.length (λt=>w (false::t)) (λt=>w (false::t))+ipf s.length (λt=>w (true::t)) (λt=>w (true::t));omega
 | true::s,w=>by
  have:=zsi s λt=>w (true::t);have:=zsh s λt=>w (false::t);show w (false::s)*w (false::s)+sqV ((xvL s λt=>w (true::t)).map λx => -x)<=ipf s.length (λt=>w (false::t)) (λt=>w (false::t))+ipf s.length (λt=>w (true::t)) (λt=>w (true::t));rw [zk8];omega
theorem zxq:∀ (s:List Bool) w,w s≠0->s.count true<s.length->∃ S:List Bool,S.length=s.length/\∃ j,(xvL S w).getD j 0≠0
 | [],_,_,h=>by simp at h
 | false::s,w,h,_=>⟨true::s,rfl,0,h⟩
 | true::s,w,h,hc=>by
  obtain ⟨S,h1,j,hj⟩:=zxq s (λt=>w (true::t)) h (by simpa using hc);refine ⟨true::S,by simp [h1],j+1,?_⟩;show ((xvL S λt=>w (true::t)).map λx => -x).getD j 0≠0;rw [Zac] at hj ⊢;rw [List.getElem?_map];cases e:(xvL S λt=>w (true::t))[j]? with
  | none=>rw [e] at hj;exact absurd rfl hj
  | some y=>rw [e] at hj;show -y≠0;have:y≠0:=hj;omega
def oneF:List Bool->Int
 | []=>1
 | false::s=>oneF s
 | true::_=>0
theorem zk9:∀ n,ipf n oneF oneF=1
 | 0=>rfl
 | n+1=>by
  show ipf n oneF oneF+ipf n (λ_=>0) (λ_=>0)=1;rw [zk9 n,zcg];rfl
theorem zla:∀ n,oneF (List.replicate n false)≠0
 | 0=>by decide
 | n+1=>by rw [Zee];exact zla n
theorem zlb:∀ s,oneF s≠0->s.count true<=0
 | [],_=>by simp
 | false::s,h=>by simpa using zlb s h
 | true::_,h=>absurd rfl h
theorem zsj {n:Nat} {B:Int} (hB:1<=B):∀ L:List (List Int),(∀ a∈L,a.length=n/\sqV a<=B)->∃ w:List Bool->Int,(∃ s:List Bool,s.length=n/\w s≠0)/\(∀ s:List Bool,s.length=n->w s≠0->s.count true<=L.length)/\ipf n w w<=B ^ L.length/\∀ a∈L,∀ s:List Bool,s.length=n->wdg a w s=0
 | [],_=>⟨oneF,⟨_,Zay,zla n⟩,λs _ h=>zlb s h,by rw [zk9];simp,by simp⟩
 | a::L,h=>by
  obtain ⟨w,⟨s0,hs0,hw0⟩,hd,hi,hk⟩:=zsj hB L λb hb=>h b (Zaq _ hb);obtain ⟨hal,haB⟩:=h a (Zaj ..);have hp:(0:Int)<=B ^ L.length:=Int.pow_nonneg (by omega);have hpow:B ^ (L.length+1)=B*B ^ L.length:=by rw [Int.pow_succ,Int.mul_comm]
  by_cases c:∀ s:List Bool,s.length=n->wdg a w s=0
  .refine ⟨w,⟨s0,hs0,hw0⟩,λs hs e=>Nat.le_succ_of_le (hd s hs e),?_,λb hb => ?_⟩
   .rw [Zbm,hpow];have:=Int.mul_le_mul_of_nonneg_right hB hp;omega
   .rcases List.mem_cons.1 hb with rfl | hb
    .exact c
    .exact hk b hb
  .obtain ⟨s1,h1,hw1⟩:∃ s:List Bool,s.length=n/\wdg a w s≠0:=by
    refine Classical.byContradiction λe=>c λs hs=>Classical.byContradiction λq=>e ⟨s,hs,q⟩
   refine ⟨wdg a w,⟨s1,h1,hw1⟩,λs hs e => ?_,?_,λb hb s hs => ?_⟩
   .obtain ⟨t,t1,t2,t3⟩:=zfa a w s e;have:=hd t (by rw [t1];exact hs) t2;rw [Zbm];omega
   .rw [Zbm,hpow];have e1:=zzu a w;rw [hal] at e1;have e2:=Int.mul_le_mul_of_nonneg_right haB (wQ n w);have e3:=Int.mul_le_mul_of_nonneg_left hi (show (0:Int)<=B by omega);omega
   .rcases List.mem_cons.1 hb with rfl | hb
    .have:=pU b b w s rfl;omega
    .rw [pU b a w s (by rw [(h b (Zaq _ hb)).1,hal]),zci a _ s λt ht=>hk b hb t (by rw [ht];exact hs)]
     rfl
theorem hada {n:Nat} {B:Int} (hB:1<=B) (L:List (List Int)) (h:∀ a∈L,a.length=n/\sqV a<=B) (hn:L.length<n):∃ x:List Int,x.length=n/\(∃ j,x.getD j 0≠0)/\sqV x<=B ^ L.length/\∀ a∈L,dtI a x=0:=by
 obtain ⟨w,⟨s,hs,hw⟩,hd,hi,hk⟩:=zsj hB L h;obtain ⟨S,hS,hj⟩:=zxq s w hw (by have:=hd s hs hw;omega);have hSn:S.length=n:=by rw [hS,hs]
 refine ⟨xvL S w,by rw [zfb];exact hSn,hj,?_,λa ha => ?_⟩
 .have:=zsi S w;rw [hSn] at this;omega
 .rw [<- zjs a w S (by rw [hSn,(h a ha).1])];exact hk a ha S hSn
def sI:Nat->(Nat->Int)->Int
 | 0,_=>0
 | k+1,F=>sI k F+F k
theorem zhq (x y:Int):∀ a b:List Int,a.length=b.length->dtI (a++[x]) (b++[y])=dtI a b+x*y
 | [],[],_=>by simp only [Zbq,dtI];omega
 | u::a,v::b,h=>by
  rw [Zbw,Zbw,dtI,dtI,zhq x y a b (by simpa using h)];omega
 | [],_::_,h=>by simp at h
 | _::_,[],h=>by simp at h
theorem zhr (f g:Nat->Int):∀ k,dtI ((List.range k).map f) ((List.range k).map g)=sI k λj=>f j*g j
 | 0=>rfl
 | k+1=>by
  rw [List.range_succ,Zbb,Zbb];show dtI (_++[f k]) (_++[g k])=_;rw [zhq _ _ _ _ (by simp),zhr f g k,sI]
theorem zxr:∀ l:List Int,(∀ x∈l,x = -1\/x=0\/x=1)->sqV l<=(l.length:Int)
 | [],_=>Int.le_refl _
 | x::l,h=>by
  have:=zxr l λy hy=>h y (Zaq _ hy);rw [sqV,Zbm];rcases h x (Zaj ..) with rfl | rfl | rfl <;> omega
theorem zlc:∀ l:List Int,0<=sqV l
 | []=>Int.le_refl _
 | x::l=>Int.add_nonneg (zk6 x) (zlc l)
theorem zsk:∀ (l:List Int) (j:Nat),l.getD j 0*l.getD j 0<=sqV l
 | [],_=>Int.le_refl _
 | x::l,0=>by
  have:=zlc l;show x*x<=x*x+sqV l;omega
 | x::l,j+1=>by
  have:=zsk l j;have:=zk6 x;show l.getD j 0*l.getD j 0<=x*x+sqV l;omega
def HB:Nat:=861979
theorem zvd (r:Nat) (hr:r<=11) (a:Nat->Nat->Int) (ha:∀ i j,a i j = -1\/a i j=0\/a i j=1):∃ x:Nat->Int,(∃ j,j<=r/\x j≠0)/\(∀ j,(x j).natAbs<=HB)/\∀ i,i<r->sI (r+1) (λj=>a i j*x j)=0:=by
 obtain ⟨x,hx,⟨j,hj⟩,hs,hk⟩:=hada (n:=r+1) (B:=((r+1:Nat):Int)) (by omega) ((List.range r).map λi=>(List.range (r+1)).map (a i)) (λb hb=>by
  obtain ⟨i,_,rfl⟩:=List.mem_map.1 hb;refine ⟨by simp,?_⟩;have:=zxr ((List.range (r+1)).map (a i)) λy hy=>by
   obtain ⟨j,_,rfl⟩:=List.mem_map.1 hy;exact ha i j
  simpa using this) (by simp)
 have hxe:x=(List.range (r+1)).map λj=>x.getD j 0:=by
  refine List.ext_getElem (by simp [hx]) λi h1 h2 => ?_;simp [Zac,h1]
 refine ⟨λj=>x.getD j 0,⟨j,?_,hj⟩,λj => ?_,λi hi => ?_⟩
 .refine Classical.byContradiction λc=>hj ?_;rw [Zac,List.getElem?_eq_none (by omega)];rfl
 .have h1:=zsk x j;rw [Zal,Zfo] at hs;have h2:(r+1) ^ r<=12 ^ 11:=Zbe (Nat.pow_le_pow_left (show r+1<=12 by omega) r) (Zdo (by decide) hr);have h3:(((r+1:Nat):Int)) ^ r=(((r+1) ^ r:Nat):Int):=by simp
  rw [h3] at hs;have h4:(12:Nat) ^ 11=743008370688:=by decide
  rw [h4] at h2;show (x.getD j 0).natAbs<=861979;refine Nat.le_of_not_lt λc => ?_;have h5:=Zbh (show 861980<=(x.getD j 0).natAbs from c) (show 861980<=(x.getD j 0).natAbs from c);have h6:=Int.natAbs_mul_self (a:=x.getD j 0);omega
 .have:=hk _ (List.mem_map.2 ⟨i,List.mem_range.2 hi,rfl⟩);rw [hxe,zhr] at this;exact this
def sR:Nat->(Nat->Rat)->Rat
 | 0,_=>0
 | k+1,F=>sR k F+F k
theorem zcj {F G:Nat->Rat}:∀ {k:Nat},(∀ j,j<k->F j=G j)->sR k F=sR k G
 | 0,_=>rfl
 | k+1,h=>by rw [sR,sR,zcj (k:=k) λj hj=>h j (by omega),h k (by omega)]
theorem zld (F:Nat->Int):∀ k,sR k (λj=>(F j:Rat))=((sI k F:Int):Rat)
 | 0=>rfl
 | k+1=>by rw [sR,sI,zld F k,Rat.intCast_add]
theorem zsl (x:Nat->Rat) (i:Nat):∀ k,sR k (λb=>(if i=b then 1 else 0)*x b)=if i<k then x i else 0
 | 0=>by rw [if_neg (by omega)];rfl
 | k+1=>by
  rw [sR,zsl x i k];by_cases e:i=k
  .subst e;rw [if_neg (by omega),if_pos rfl,if_pos (by omega)];grind
  .rw [if_neg e];by_cases c:i<k
   .rw [if_pos c,if_pos (by omega)];grind
   .rw [if_neg c,if_neg (by omega)];grind
theorem zhs (y:Rat):∀ (o f:List Rat) (c:Nat),o.length=f.length->c<f.length->dot o (f.set c (at' f c+y))=dot o f+at' o c*y
 | [],[],c,_,h=>by simp at h
 | a::o,b::f,0,_,_=>by
  show dot (a::o) ((b+y)::f)=dot (a::o) (b::f)+a*y;rw [dot,dot];grind
 | a::o,b::f,c+1,h,hc=>by
  have ih:=zhs y o f c (by simpa using h) (by simpa using hc);show dot (a::o) (b::f.set c (at' f c+y))=dot (a::o) (b::f)+at' o c*y;rw [dot,dot,ih];grind
 | [],_::_,_,h,_=>by simp at h
 | _::_,[],_,h,_=>by simp at h
theorem pM:∀ (o:List Rat) (n:Nat),dot o (List.replicate n 0)=0
 | [],_=>by cases ‹Nat› <;> rfl
 | a::o,0=>rfl
 | a::o,n+1=>by rw [Zee,dot,pM o n];grind
def plF (n:Nat) (c:Nat->Nat) (x:Nat->Rat):Nat->List Rat
 | 0=>List.replicate n 0
 | k+1=>(plF n c x k).set (c k) (at' (plF n c x k) (c k)+x k)
theorem cG {n:Nat} {c:Nat->Nat} {x:Nat->Rat}:∀ k,(plF n c x k).length=n
 | 0=>Zay
 | k+1=>by rw [plF,Zbk];exact cG k
theorem zfc {n:Nat} {c:Nat->Nat} {x:Nat->Rat} {o:List Rat} (ho:o.length=n):∀ k,(∀ i,i<k->c i<n)->dot o (plF n c x k)=sR k λi=>at' o (c i)*x i
 | 0,_=>pM ..
 | k+1,h=>by rw [plF,zhs _ _ _ _ (by rw [cG];exact ho) (by rw [cG];exact h k (by omega)),zfc ho k λi hi=>h i (by omega),sR]
structure Sv (n:Nat) (O Q:List (List Rat)) (ps:List Nat):Prop where
 len:ps.length=Q.length
 olen:O.length=Q.length
 row:∀ q∈Q,q.length=n
 orow:∀ o∈O,o.length=n
 osg:∀ o∈O,∀ j,Sg (at' o j)
 rng:∀ p∈ps,p<n
 one:∀ a b,a<Q.length->b<Q.length->at' (Q.getD a []) (ps.getD b 0)=if a=b then 1 else 0
 ker:∀ f:List Rat,f.length=n->(∀ o∈O,dot o f=0)->∀ q∈Q,dot q f=0
 tri:∀ a,a<Q.length->∀ b,ps.getD a 0<b->at' (Q.getD a []) b=0
theorem Sv.nil (n:Nat):Sv n [] [] []:=⟨rfl,rfl,by simp,by simp,by simp,by simp,λa b h=>by simp at h,by simp,λa h=>by simp at h⟩
def sgI (q:Rat):Int:=if q = -1 then -1 else if q=1 then 1 else 0
theorem Sg.int {q:Rat} (h:Sg q):(sgI q:Rat)=q:=by
 unfold sgI;rcases h with rfl | rfl | rfl
 .rw [if_pos rfl];rfl
 .rw [if_neg (by decide),if_neg (by decide)];rfl
 .rw [if_neg (by decide),if_pos rfl];rfl
theorem zzv (q:Rat):sgI q = -1\/sgI q=0\/sgI q=1:=by
 unfold sgI;split
 .exact .inl rfl
 .split
  .exact .inr (.inr rfl)
  .exact .inr (.inl rfl)
theorem Sv.col {n:Nat} {O Q:List (List Rat)} {ps:List Nat} (h:Sv n O Q ps) (hQ:Q.length<=11) (j:Nat):∃ t,1<=t/\t<=HB/\∀ q∈Q,Dn t (HB) (at' q j):=by
 rcases Zda j n with hj | hj
 case inr =>
  refine ⟨1,Zag _,(by decide:1<=HB),λq hq => ?_⟩;rw [gF (by rw [h.row q hq];exact hj)];exact Dn.zero _ _
 obtain ⟨c,hc⟩:∃ c:Nat->Nat,c=λi=>if i<Q.length then ps.getD i 0 else j:=⟨_,rfl⟩
 obtain ⟨x,⟨b,hb,hb0⟩,hx,hz⟩:=zvd Q.length hQ (λi k=>sgI (at' (O.getD i []) (c k))) λi k=>zzv _;have hcn:∀ i,i<Q.length+1->c i<n:=λi _=>by
  rw [hc];show (if i<Q.length then ps.getD i 0 else j)<n;by_cases q:i<Q.length
  .rw [if_pos q];exact h.rng _ (jQ (by rw [h.len];exact q))
  .rw [if_neg q];exact hj
 have hk:=h.ker (plF n c (λi=>(x i:Rat)) (Q.length+1)) (cG _) λo ho=>by
  obtain ⟨i,hi⟩:=List.mem_iff_getElem?.1 ho;have hil:=(List.getElem?_eq_some_iff.1 hi).1;have hio:O.getD i []=o:=by rw [Zac,hi];rfl
  rw [zfc (h.orow o ho) _ hcn];have:=hz i (by rw [<- h.olen];exact hil);rw [show (0:Rat)=((0:Int):Rat) from rfl,<- this,<- zld];refine zcj λk _ => ?_;rw [hio,Zfe,(h.osg o ho _).int]
 have hrow:∀ i,i<Q.length->(x i:Rat)+at' (Q.getD i []) j*(x Q.length:Rat)=0:=λi hi=>by
  have hm:=jQ (l:=Q) (d:=[]) hi;have e:=hk _ hm;rw [zfc (h.row _ hm) _ hcn,sR] at e;have e2:sR Q.length (λk=>at' (Q.getD i []) (c k)*(x k:Rat))=(x i:Rat):=by
   rw [zcj (G:=λb=>(if i=b then 1 else 0)*(x b:Rat)) λk hk => ?_,zsl (λb=>(x b:Rat)),if_pos hi];have:c k=ps.getD k 0:=by rw [hc];exact if_pos hk
   rw [this,h.one i k hi hk]
  rw [e2,show c Q.length=j by rw [hc];exact if_neg (Zef _)] at e;exact e
 have hxr:x Q.length≠0:=λe=>by
  rcases Zda b Q.length with q | q
  .have:=hrow b q;rw [e,show ((0:Int):Rat)=0 from rfl,Zci,Rat.add_zero] at this;exact zce hb0 this
  .obtain rfl:b=Q.length:=by omega
   exact hb0 e
 refine ⟨(x Q.length).natAbs,by omega,hx _,λq hq => ?_⟩;obtain ⟨i,hi⟩:=List.mem_iff_getElem?.1 hq;have hil:=(List.getElem?_eq_some_iff.1 hi).1;have hqi:Q.getD i []=q:=by rw [Zac,hi];rfl
 have e:=hrow i hil;rw [hqi] at e;by_cases s:0<x Q.length
 .refine ⟨-x i,?_,by rw [Zeb];exact hx i⟩;rw [show (((x Q.length).natAbs:Nat):Int)=x Q.length by omega,Zde];grind
 .refine ⟨x i,?_,hx i⟩;rw [show (((x Q.length).natAbs:Nat):Int) = -x Q.length by omega,Zde];grind
theorem Sv.den {n:Nat} {O Q:List (List Rat)} {ps:List Nat} (h:Sv n O Q ps) (hQ:Q.length<=11):∃ t:Nat->Nat,(∀ j,1<=t j/\t j<=HB)/\∀ q∈Q,∀ j,Dn (t j) (HB) (at' q j) :=
 ⟨λj=>Classical.choose (h.col hQ j),λj=>⟨(Classical.choose_spec (h.col hQ j)).1,(Classical.choose_spec (h.col hQ j)).2.1⟩,λq hq j=>(Classical.choose_spec (h.col hQ j)).2.2 q hq⟩
structure Rvq (n:Nat) (t:Nat->Nat) (M:Nat) (Q:List (List Rat)) (ps:List Nat) (r0:List Rat) (k:Nat) (r:List Rat):Prop where
 eq:r=oL ((aH Q ps).take k) r0
 len:r.length=n
 den:∀ j,Dn (t j) (M+k*M) (at' r j)
 late:∀ b,k<=b->b<Q.length->at' r (ps.getD b 0)=at' r0 (ps.getD b 0)
 done:∀ b,b<k->b<Q.length->at' r (ps.getD b 0)=0
theorem Rvq.zero {n M:Nat} {t:Nat->Nat} {Q:List (List Rat)} {ps:List Nat} {r0:List Rat} (ht:∀ j,t j<=M) (hl:r0.length=n) (hs:∀ j,Sg (at' r0 j)):Rvq n t M Q ps r0 0 r0 :=
 ⟨rfl,hl,λj=>(hs j).dn (by have:=ht j;omega),λb _ _=>rfl,λb h=>by omega⟩
theorem Rvq.next {n M k:Nat} {t:Nat->Nat} {O Q:List (List Rat)} {ps:List Nat} {r0 r:List Rat} (hS:Sv n O Q ps) (hd:∀ q∈Q,∀ j,Dn (t j) M (at' q j)) (hs:∀ j,Sg (at' r0 j)) (h:Rvq n t M Q ps r0 k r) (hk:k<Q.length):Rvq n t M Q ps r0 (k+1) (j4 (at' r (ps.getD k 0)) r (Q.getD k [])):=by
 have hq:=jQ (d:=[]) hk;have hql:=hS.row _ hq;have hll:r.length=(Q.getD k []).length:=by rw [h.len,hql]
 have hb:Sg (at' r (ps.getD k 0)):=by rw [h.late k (Zag _) hk];exact hs _
 refine ⟨by rw [kW hS.len hk,kS,<- h.eq],by rw [gG hll];exact h.len,λj => ?_,λb h1 h2 => ?_,λb h1 h2 => ?_⟩
 .rw [jU hll];have:=(h.den j).sub (hb.mul (hd _ hq j));exact this.mono (by rw [Zav];omega)
 .rw [jU hll,hS.one k b hk h2,if_neg (by omega),Zci,h.late b (by omega) h2];grind
 .rw [jU hll,hS.one k b hk h2];by_cases e:b=k
  .subst e;rw [if_pos rfl,Rat.mul_one];grind
  .rw [if_neg (by omega),Zci,h.done b (by omega) h2];grind
theorem zve {t N:Nat} {v:Rat} (ht:1<=t) (hv:v≠0) (h:Dn t N v):∃ z:Nat,1<=z/\z<=N/\Dn z t v⁻¹/\∀ {s R:Nat} {x:Rat},Dn s R x->Dn (s*z) (R*t) (x*v⁻¹):=by
 obtain ⟨z,h1,h2,h3,_⟩:=zzt ht hv h;exact ⟨z,h1,h2,h3,λhx=>hx.mul h3⟩
structure Nv (n:Nat) (Q:List (List Rat)) (ps:List Nat) (p:Nat) (r:List Rat):Prop where
 len:r.length=n
 one:at' r p=1
 out:∀ b,b<Q.length->at' r (ps.getD b 0)=0
 p1:p<n
 tri:∀ b,p<b->at' r b=0
theorem Sv.next {n p:Nat} {O Q:List (List Rat)} {ps:List Nat} {r r0:List Rat} (hS:Sv n O Q ps) (h:Nv n Q ps p r) (hl0:r0.length=n) (hs0:∀ j,Sg (at' r0 j)) (hk:∀ f:List Rat,f.length=n->(∀ q∈Q,dot q f=0)->dot r0 f=0->dot r f=0):Sv n (O++[r0]) (uR Q p r++[r]) (ps++[p]):=by
 have hnl:(uR Q p r).length=Q.length:=by unfold uR;rw [Zal]
 refine ⟨by rw [Zah,Zah,hnl,hS.len];rfl,by rw [Zah,Zah,hnl,hS.olen];rfl,λq hq => ?_,λo ho => ?_,λo ho => ?_,λx hx => ?_,λa b ha hb => ?_,λf hf ho q hq => ?_,λa ha b hb => ?_⟩
 .rcases List.mem_append.1 hq with hq | hq
  .obtain ⟨o,ho,rfl⟩:=List.mem_map.1 hq;rw [gG (by rw [hS.row o ho,h.len])];exact hS.row o ho
  .obtain rfl:=List.mem_singleton.1 hq;exact h.len
 .rcases List.mem_append.1 ho with ho | ho
  .exact hS.orow o ho
  .obtain rfl:=List.mem_singleton.1 ho;exact hl0
 .rcases List.mem_append.1 ho with ho | ho
  .exact hS.osg o ho
  .obtain rfl:=List.mem_singleton.1 ho;exact hs0
 .rcases List.mem_append.1 hx with hx | hx
  .exact hS.rng x hx
  .obtain rfl:=List.mem_singleton.1 hx;exact h.p1
 .rw [Zah,hnl,Zcx] at ha hb;have eb:(ps++[p]).getD b 0=if b<Q.length then ps.getD b 0 else p:=by
   by_cases c:b<Q.length
   .rw [if_pos c,Zac,List.getElem?_append_left (by rw [hS.len];exact c),<- Zac]
   .rw [if_neg c,Zac,List.getElem?_append_right (by rw [hS.len];omega),hS.len,show b-Q.length=0 by omega];rfl
  have ea:(uR Q p r++[r]).getD a []=if a<Q.length then j4 (at' (Q.getD a []) p) (Q.getD a []) r else r:=by
   by_cases c:a<Q.length
   .rw [if_pos c,Zac,List.getElem?_append_left (by rw [hnl];exact c),uR,List.getElem?_map,kM (d:=[]) c];rfl
   .rw [if_neg c,Zac,List.getElem?_append_right (by rw [hnl];omega),hnl,show a-Q.length=0 by omega];rfl
  rw [ea,eb];by_cases c1:a<Q.length
  .have hl:(Q.getD a []).length=r.length:=by rw [hS.row _ (jQ c1),h.len]
   rw [if_pos c1,jU hl];by_cases c2:b<Q.length
   .rw [if_pos c2,h.out b c2,hS.one a b c1 c2,Zci];grind
   .rw [if_neg c2,h.one,if_neg (by omega)];grind
  .rw [if_neg c1];by_cases c2:b<Q.length
   .rw [if_pos c2,h.out b c2,if_neg (by omega)]
   .rw [if_neg c2,h.one,if_pos (by omega)]
 .have hQ:=hS.ker f hf λo h1=>ho o (Zdn _ h1);have hr:=hk f hf hQ (ho r0 (by simp));rcases List.mem_append.1 hq with hq | hq
  .obtain ⟨o,h1,rfl⟩:=List.mem_map.1 hq;rw [uY _ _ _ _ (by rw [hS.row o h1,h.len]),hQ o h1,hr,Zci];grind
  .obtain rfl:=List.mem_singleton.1 hq;exact hr
 .rw [Zah,hnl,Zcx] at ha;by_cases c1:a<Q.length
  .have eb:(ps++[p]).getD a 0=ps.getD a 0:=by
    rw [Zac,List.getElem?_append_left (by rw [hS.len];exact c1),<- Zac]
   have ea:(uR Q p r++[r]).getD a []=j4 (at' (Q.getD a []) p) (Q.getD a []) r:=by
    rw [Zac,List.getElem?_append_left (by rw [hnl];exact c1),uR,List.getElem?_map,kM (d:=[]) c1];rfl
   rw [eb] at hb;have hl:(Q.getD a []).length=r.length:=by rw [hS.row _ (jQ c1),h.len]
   rw [ea,jU hl,hS.tri a c1 b hb];by_cases c2:p<b
   .rw [h.tri b c2,Zci];grind
   .rw [hS.tri a c1 p (by omega),Zer];grind
  .obtain rfl:a=Q.length:=by omega
   have eb:(ps++[p]).getD Q.length 0=p:=by
    rw [Zac,List.getElem?_append_right (by rw [hS.len];exact Zag _),hS.len,Zct];rfl
   have ea:(uR Q p r++[r]).getD Q.length []=r:=by
    rw [Zac,List.getElem?_append_right (by rw [hnl];exact Zag _),hnl,Zct];rfl
   rw [eb] at hb;rw [ea];exact h.tri b hb
theorem rO {B:Nat}:m7 Tryz.prog B Prop:=zbm mixed
variable {B:Nat}
theorem zjt {a b:List Int} (ha:a.length<=1000000000):Pure Tryz.prog B 49 [encI a,encI b] (· = .bool (decide (a=b))):=by
 intro p h nx K hK;refine zN zQ rO (a.length+2) λhf => ?_;rw [F49.go];simp (disch:=omega) only [jc,kz,fO,dh,fD,ji,rZ,xq,fe,zW,zY,zD,zC,yH,yI,jC,jA,jG,jE,jD,j7,jX,jO,jW,yA,yN,yL,zF,decide_true,decide_false,Zak,Zam,jP];by_cases hl:a.length=b.length
 .simp only [hl,decide_true,Zak,zC];refine F49.L2 (λm z3 h' nx'=>∃ i:Nat,z3=I i/\m=a.length-i/\i<=a.length/\h'=h/\nx'=nx/\a.take i=b.take i) (m:=a.length) (by omega) ⟨0,rfl,by simp,by omega,rfl,rfl,by simp⟩ ?_;rintro m z2 z3 z5 z6 _ _ R ⟨i,rfl,rfl,hi,rfl,rfl,htk⟩ hR;simp (disch:=omega) only [jc,kz,fO,dh,fD,ji,rZ,xq,fe,zW,zY,zD,zC,yH,yI,jC,jA,jG,jE,jD,j7,jX,jO,jW,yA,yN,yL,zF,decide_true,decide_false,Zak,Zam,jP];by_cases hlt:i<a.length
  .have h1:(i:Int)<a.length:=by omega
   have hb:i<b.length:=by omega
   simp only [h1,decide_true,zD];rw [fE rfl hlt,ldL (tO (List.getElem?_eq_getElem hlt)),fE rfl hb,ldL (tO (List.getElem?_eq_getElem hb))];simp (disch:=omega) only [jc,kz,fO,dh,fD,ji,rZ,xq,fe,zW,zY,zD,zC,yH,yI,jC,jA,jG,jE,jD,j7,jX,jO,jW,yA,yN,yL,zF,decide_true,decide_false,Zak,Zam,jP];by_cases he:a[i]=b[i]
   .simp only [he,decide_true,Zak,zC];refine hR (a.length-(i+1)) _ _ _ _ _ _ (by omega) ⟨i+1,rfl,rfl,by omega,rfl,rfl,?_⟩;rw [Zar,Zar,htk,List.getElem?_eq_getElem hlt,List.getElem?_eq_getElem hb,he]
   .simp only [he,decide_false,Zam,zD];refine hK _ ?_ hf;rw [Zaa];rintro rfl;exact he rfl
  .have h1:¬ (i:Int)<a.length:=by omega
   simp only [h1,decide_false,zC];rw [F49.k9];refine hK _ ?_ hf;rw [Zaf (by omega),Zaf (by omega)] at htk;rw [Zab htk]
 .have h1:¬ (a.length:Int)=b.length:=by omega
  simp only [h1,decide_false,Zam,zD];refine hK _ ?_ hf;rw [Zaa];rintro rfl;exact hl rfl
end Go.Ev
namespace Go.Ev
open Go Go.Proofs
variable {B:Nat}
theorem dF (b:Bool) (e:Int):Pure Tryz.prog B 88 [.bool b,I e] (· = I (if b then e else 0)):=by
 intro p h nx K hK;refine zN zQ rO 9 λhf => ?_;rw [F88.go];cases b <;> simp (disch:=omega) only [jc,kz,fO,dh,fD,ji,rZ,xq,fe,zW,zY,zD,zC,yH,yI,jC,jA,jG,jE,jD,j7,jX,jO,jW,yA,yN,yL,zF,decide_true,decide_false,Zak,Zam,jP] <;> exact hK _ rfl hf
def kG:List Int->Int
 | []=>0
 | e::l=>if e≠0 then e else kG l
theorem vY:∀ (l:List Int) (i:Nat),(∀ e∈l.take i,e=0)->kG l=kG (l.drop i)
 | l,0,_=>rfl
 | [],_+1,_=>rfl
 | e::l,i+1,h=>by
  have h0:e=0:=h e (by simp);rw [kG,if_neg (by simp [h0]),List.drop_succ_cons];exact vY l i λx hx=>h x (by simp [hx])
theorem zck {l:List Int} (hl:l.length<=1000000):Pure Tryz.prog B 86 [encI l] (· = I (kG l)):=by
 intro p h nx K hK;refine zN zQ rO 10000000 λhf => ?_;rw [F86.go];simp (disch:=omega) only [jc,kz,fO,dh,fD,ji,rZ,xq,fe,zW,zY,zD,zC,yH,yI,jC,jA,jG,jE,jD,j7,jX,jO,jW,yA,yN,yL,zF,decide_true,decide_false,Zak,Zam,jP];refine F86.L1 (λm z5 h' nx'=>∃ i:Nat,z5=I i/\l.length-i=m/\i<=l.length/\h'=h/\nx'=nx/\∀ e∈l.take i,e=0) (m:=l.length) (by omega) ⟨0,rfl,rfl,by omega,rfl,rfl,by simp⟩ ?_;rintro m z1 z2 z5 z6 z7 _ _ R ⟨i,rfl,rfl,hi,rfl,rfl,htk⟩ hR;simp (disch:=omega) only [jc,kz,fO,dh,fD,ji,rZ,xq,fe,zW,zY,zD,zC,yH,yI,jC,jA,jG,jE,jD,j7,jX,jO,jW,yA,yN,yL,zF,decide_true,decide_false,Zak,Zam,jP];by_cases hlt:i<l.length
 .simp only [show (i:Int)<(l.length:Int) by omega,decide_true,zD];have hx:l[i]? = some l[i]:=List.getElem?_eq_getElem hlt;rw [fE rfl hlt,ldL (tO hx)];simp (disch:=omega) only [jc,kz,fO,dh,fD,ji,rZ,xq,fe,zW,zY,zD,zC,yH,yI,jC,jA,jG,jE,jD,j7,jX,jO,jW,yA,yN,yL,zF,decide_true,decide_false,Zak,Zam,jP];have hd:l.drop i=l[i]::l.drop (i+1):=Zaw hlt;by_cases h0:l[i]=0
  .simp only [h0,decide_true,Zak,zC];refine hR _ _ _ _ _ _ _ _ (by omega) ⟨i+1,rfl,rfl,by omega,rfl,rfl,λe he => ?_⟩;rw [Zar,hx] at he;rcases List.mem_append.1 he with q | q
   .exact htk e q
   .simp at q;rw [q];exact h0
  .simp only [h0,decide_false,Zam,zD];refine hK _ ?_ hf;rw [vY l i htk,hd,kG,if_pos h0]
 .simp only [show ¬ (i:Int)<(l.length:Int) by omega,decide_false,zC];rw [F86.k8];refine hK _ ?_ hf;rw [vY l i htk,Zbn (by omega)];rfl
theorem zsm {a b:List Int} (ha:a.length<=1000000000):Pure Tryz.prog B 177 [encI a,encI b] (· = .bool (decide (a=b))):=by
 intro p h nx K hK;refine zN zQ rO (a.length+2) λhf => ?_;rw [vo.go];simp (disch:=omega) only [jc,kz,fO,dh,fD,ji,rZ,xq,fe,zW,zY,zD,zC,yH,yI,jC,jA,jG,jE,jD,j7,jX,jO,jW,yA,yN,yL,zF,decide_true,decide_false,Zak,Zam,jP];by_cases hl:a.length=b.length
 .simp only [hl,decide_true,Zak,zC];refine vo.L2 (λm z6 h' nx'=>∃ i:Nat,z6=I i/\a.length-i=m/\i<=a.length/\h'=h/\nx'=nx/\a.take i=b.take i) (m:=a.length) (by omega) ⟨0,rfl,by simp,by omega,rfl,rfl,by simp⟩ ?_;rintro m z2 z3 z6 z7 z8 _ _ R ⟨i,rfl,rfl,hi,rfl,rfl,htk⟩ hR;simp (disch:=omega) only [jc,kz,fO,dh,fD,ji,rZ,xq,fe,zW,zY,zD,zC,yH,yI,jC,jA,jG,jE,jD,j7,jX,jO,jW,yA,yN,yL,zF,decide_true,decide_false,Zak,Zam,jP];by_cases hlt:i<a.length
  .have hb:i<b.length:=by omega
   simp only [show (i:Int)<(b.length:Int) by omega,decide_true,zD];rw [fE rfl hlt,ldL (tO (List.getElem?_eq_getElem hlt)),fE rfl hb,ldL (tO (List.getElem?_eq_getElem hb))];simp (disch:=omega) only [jc,kz,fO,dh,fD,ji,rZ,xq,fe,zW,zY,zD,zC,yH,yI,jC,jA,jG,jE,jD,j7,jX,jO,jW,yA,yN,yL,zF,decide_true,decide_false,Zak,Zam,jP];by_cases he:a[i]=b[i]
   .simp only [he,decide_true,Zak,zC];refine hR (a.length-(i+1)) _ _ _ _ _ _ _ (by omega) ⟨i+1,rfl,rfl,by omega,rfl,rfl,?_⟩;rw [Zar,Zar,htk,List.getElem?_eq_getElem hlt,List.getElem?_eq_getElem hb,he]
   .simp only [he,decide_false,Zam,zD];refine hK _ ?_ hf;rw [Zaa];rintro rfl;exact he rfl
  .simp only [show ¬ (i:Int)<(b.length:Int) by omega,decide_false,zC];rw [vo.k9];refine hK _ ?_ hf;rw [Zaf (by omega),Zaf (by omega)] at htk;rw [Zab htk]
 .have h1:¬ (a.length:Int)=b.length:=by omega
  simp only [h1,decide_false,Zam,zD];refine hK _ ?_ hf;rw [Zaa];rintro rfl;exact hl rfl
theorem zht {h0 h:T Blk} {nx:Pa} {L:List Ob} {k:Nat} {x p:Pa} {l:List Int} {prev:List (List Int)} {K:Kw Prop} (H:Hp h0 h nx L) (hk:L[k]? = some (.arr x [encI l])) (hp:prev.length<=1000000) (hw:∀ q∈prev,q.length<=1000000)
  (hK:K (.bool (decide (l∈prev))) h nx=.ok True):(CS Tryz.prog B).fn 175 p [wu prev,.fn 176 (.of 176) [.ptr x 0]] h nx K=.ok True:=by
 refine gE (p:=.of 175) (K:=K) (zN zQ rO 9 λhf => ?_) λ_ _ _ _ q=>q;rw [eD.go];refine gE (p:=.of 245) (K:=λv1 h2 n3=>za .geq .int v1 (I 0) λv4=>K v4 h2 n3) (zN zQ rO 10000000 λhf => ?_) λ_ _ _ _ q=>q;rw [vk.go];simp (disch:=omega) only [jc,kz,fO,dh,fD,ji,rZ,xq,fe,zW,zY,zD,zC,yH,yI,jC,jA,jG,jE,jD,j7,jX,jO,jW,yA,yN,yL,zF,decide_true,decide_false,Zak,Zam,jP];refine vk.L1 (λm z5 h' nx'=>∃ i:Nat,z5=I i/\prev.length-i=m/\i<=prev.length/\h'=h/\nx'=nx/\l∉prev.take i) (m:=prev.length) (by omega) ⟨0,rfl,rfl,by omega,rfl,rfl,by simp⟩ ?_;rintro m z2 z3 z5 z6 z7 _ _ R ⟨i,rfl,rfl,hi,rfl,rfl,htk⟩ hR;simp (disch:=omega) only [jc,kz,fO,dh,fD,ji,rZ,xq,fe,zW,zY,zD,zC,yH,yI,jC,jA,jG,jE,jD,j7,jX,jO,jW,yA,yN,yL,zF,decide_true,decide_false,Zak,Zam,jP];by_cases hlt:i<prev.length
 .simp only [show (i:Int)<(prev.length:Int) by omega,decide_true,zD];have hx:prev[i]? = some prev[i]:=List.getElem?_eq_getElem hlt;rw [fE rfl hlt,ldL (getT hx),pY];refine gE (p:=.of 176) (zN zQ rO 9 λhf => ?_) λ_ _ _ _ q=>q;show zR tbl 9 _ (Pa.of 176) [encI prev[i],.ptr x 0] _ _ _=_;rw [eB.go,H.load (k:=k) (i:=0) hk rfl];refine zsm (Zbe (hw _ (Zas hlt)) (by omega)) _ _ _ _ ?_;rintro _ rfl _;by_cases he:prev[i]=l
  .simp only [he,decide_true,zD,fe,show (0:Int)<=(i:Int) by omega];rw [Zab (he ▸ Zas hlt)] at hK;exact hK
  .simp only [he,decide_false,zC];refine hR _ _ _ _ _ _ _ _ (by omega) ⟨i+1,rfl,rfl,by omega,rfl,rfl,λq => ?_⟩;rw [Zar,hx] at q;rcases List.mem_append.1 q with q | q
   .exact htk q
   .simp at q;exact he q.symm
 .simp only [show ¬ (i:Int)<(prev.length:Int) by omega,decide_false,zC];rw [vk.k8];rw [Zaf (by omega)] at htk;rw [Zaa htk] at hK;simp only [fe,show ¬ (0:Int) <= -1 by omega,decide_false];exact hK
def yY (cells:Int):Option Int->List Int->Int
 | _,[]=>0
 | p,c::l=>if c<0\/cells<=c then 10 else if p.any (λq=>decide (c<=q)) then 11 else yY cells (some c) l
def jK (cells:Int) (prev:List (List Int)) (l:List Int):Int:=if l=[] then 12 else if yY cells none l≠0 then yY cells none l else if l∈prev then 9 else 0
def uA (cells:Int):List (List Int)->List (List Int)->Int
 | _,[]=>0
 | prev,l::r=>if jK cells prev l≠0 then jK cells prev l else uA cells (prev++[l]) r
def jI (cells:Int) (lines:List (List Int)):Int:=if cells<1\/256<cells then 3 else if 128<lines.length then 5 else uA cells [] lines
def pv (l:List Int) (k:Nat):Option Int:=if k=0 then none else l[k-1]?
theorem mD {l:List Int} {k:Nat} (h:k<l.length):pv l (k+1)=some l[k]:=by simp [pv,h]
theorem zvf {cells a b:Int} {lines:List (List Int)} (hb:b<=1000000):Pure Tryz.prog B 16 [.agg [I cells,wu lines],I a,I b] (· = .bool (decide ((lines.length:Int)<=b/\∀ l∈lines,(l.length:Int)<=a))):=by
 refine zX λh nx K H0 hK=>zN zQ rO 10000000 λhf => ?_;rw [F16.go];refine H0.box (l:=[I cells,wu lines]) rfl λbx h1 nx1 H1 => ?_;rw [sFx,H1.load (k:=0) (i:=0+1) rfl rfl];simp (disch:=omega) only [jc,kz,fO,dh,fD,ji,rZ,xq,fe,zW,zY,zD,zC,yH,yI,jC,jA,jG,jE,jD,j7,jX,jO,jW,yA,yN,yL,zF,decide_true,decide_false,Zak,Zam,jP];have ret:∀ v:Bool,v=decide ((lines.length:Int)<=b/\∀ l∈lines,(l.length:Int)<=a)->K (.bool v) h1 nx1=.ok True:=λv hv=>by rw [hv];exact hK _ _ _ _ _ H1 (zT rfl) rfl
 by_cases hlen:b<(lines.length:Int)
 .simp only [hlen,decide_true,zD];refine ret _ ?_;rw [Zaa];rintro ⟨q,_⟩;omega
 simp only [hlen,decide_false,zC];refine F16.L2 (λm z5 h' nx'=>∃ i:Nat,z5=I i/\lines.length-i=m/\i<=lines.length/\h'=h1/\nx'=nx1/\∀ l∈lines.take i,(l.length:Int)<=a) (m:=lines.length) (by omega) ⟨0,rfl,rfl,by omega,rfl,rfl,by simp⟩ ?_;rintro m z4 z5 z7 z8 _ _ R ⟨i,rfl,rfl,hi,rfl,rfl,htk⟩ hR;rw [sFx,H1.load (k:=0) (i:=0+1) rfl rfl];simp (disch:=omega) only [jc,kz,fO,dh,fD,ji,rZ,xq,fe,zW,zY,zD,zC,yH,yI,jC,jA,jG,jE,jD,j7,jX,jO,jW,yA,yN,yL,zF,decide_true,decide_false,Zak,Zam,jP];by_cases hlt:i<lines.length
 .simp only [show (i:Int)<(lines.length:Int) by omega,decide_true,zD];have hx:lines[i]? = some lines[i]:=List.getElem?_eq_getElem hlt;rw [sFx,H1.load (k:=0) (i:=0+1) rfl rfl,fE rfl hlt,ldL (getT hx)];simp (disch:=omega) only [jc,kz,fO,dh,fD,ji,rZ,xq,fe,zW,zY,zD,zC,yH,yI,jC,jA,jG,jE,jD,j7,jX,jO,jW,yA,yN,yL,zF,decide_true,decide_false,Zak,Zam,jP];by_cases hw:a<(lines[i].length:Int)
  .simp only [hw,decide_true,zD];refine ret _ ?_;rw [Zaa];rintro ⟨_,q⟩;have:=q _ (Zas hlt);omega
  .simp only [hw,decide_false,zC];refine hR _ _ _ _ _ _ _ (by omega) ⟨i+1,rfl,rfl,by omega,rfl,rfl,λl hl => ?_⟩;rw [Zar,hx] at hl;rcases List.mem_append.1 hl with q | q
   .exact htk l q
   .simp at q;rw [q];omega
 .simp only [show ¬ (i:Int)<(lines.length:Int) by omega,decide_false,zC];rw [F16.k9];rw [Zaf (by omega)] at htk;refine ret _ ?_;rw [Zab ⟨by omega,htk⟩]
theorem zms {prev:List (List Int)} {l:List Int} (hp:prev.length<=1000000) (hw:∀ q∈prev,q.length<=1000000000):Pure Tryz.prog B 90 [wu prev,encI l] (· = .bool (decide (l∈prev))):=by
 intro p h nx K hK;refine zN zQ rO 10000000 λhf => ?_;rw [F90.go];refine F90.L1 (λm z3 h' nx'=>∃ i:Nat,z3=I i/\prev.length-i=m/\i<=prev.length/\h'=h/\nx'=nx/\l∉prev.take i) (m:=prev.length) (by omega) ⟨0,rfl,rfl,by omega,rfl,rfl,by simp⟩ ?_;rintro m z2 z3 z4 z5 _ _ R ⟨i,rfl,rfl,hi,rfl,rfl,htk⟩ hR;simp (disch:=omega) only [jc,kz,fO,dh,fD,ji,rZ,xq,fe,zW,zY,zD,zC,yH,yI,jC,jA,jG,jE,jD,j7,jX,jO,jW,yA,yN,yL,zF,decide_true,decide_false,Zak,Zam,jP];by_cases hlt:i<prev.length
 .simp only [show (i:Int)<(prev.length:Int) by omega,decide_true,zD];have hx:prev[i]? = some prev[i]:=List.getElem?_eq_getElem hlt;rw [fE rfl hlt,ldL (getT hx)];refine zjt (hw _ (Zas hlt)) _ _ _ _ ?_;rintro _ rfl _;by_cases he:prev[i]=l
  .simp only [he,decide_true,zD];refine hK _ ?_ hf;rw [Zab (he ▸ Zas hlt)]
  .simp only [he,decide_false,zC];refine hR _ _ _ _ _ _ _ (by omega) ⟨i+1,rfl,rfl,by omega,rfl,rfl,λq => ?_⟩;rw [Zar,hx] at q;rcases List.mem_append.1 q with q | q
   .exact htk q
   .simp at q;exact he q.symm
 .simp only [show ¬ (i:Int)<(prev.length:Int) by omega,decide_false,zC];rw [F90.k8];rw [Zaf (by omega)] at htk;refine hK _ ?_ hf;rw [Zaa htk]
theorem zle {n i:Nat} {l:List AV} {op:AV->OP} (hn:1<=n) (hi:i<=n):vJ 1 (.lst 1 n l) none (some (I (i:Int))) none op=op (.lst 1 i (l.take i)):=by
 show (bif Nat.beq 1 1&&Nat.ble 1 n then (match bnd (some (I (i:Int))) n n with | none=>Out.no 17 | some h=>match bnd none h 0 with | none=>.no 17 | some q=>op (.lst 1 (h-q) ((l.drop (q*1)).take ((h-q)*1)))) else .no 17)=_;rw [Zae hn];have:bnd (some (I (i:Int))) n n=some i:=by
  show (bif Nat.ble i n then some i else none)=_;rw [Zae hi];rfl
 rw [this];show op (.lst 1 (i-0) ((l.drop (0*1)).take ((i-0)*1)))=_;simp
theorem zsn {cells:Int} {lines:List (List Int)} (hw:∀ q∈lines,q.length<=1000000):Pure Tryz.prog B 19 [.agg [I cells,wu lines]] (· = I (jI cells lines)):=by
 refine zX λh nx K H0 hK=>zN zQ rO 10000000 λhf => ?_;rw [F19.go];refine H0.box (l:=[I cells,wu lines]) rfl λbx h1 nx1 H1 => ?_;rw [sFx,H1.load (k:=0) (i:=0) rfl rfl];have ret:∀ v:Int,v=jI cells lines->K (I v) h1 nx1=.ok True:=λv hv=>by rw [hv];exact hK _ _ _ _ _ H1 (zT rfl) rfl
 by_cases hc:cells<1\/256<cells
 .have hv:(3:Int)=jI cells lines:=by rw [jI,if_pos hc]
  by_cases c1:cells<1
  .simp only [ji,c1,decide_true,jC,zW,zD];exact ret 3 hv
  .simp only [ji,c1,decide_false,yI];rw [sFx,H1.load (k:=0) (i:=0) rfl rfl];simp only [xq,show (256:Int)<cells by omega,decide_true,zY,zD];exact ret 3 hv
 simp only [ji,show ¬ cells<1 by omega,decide_false,yI];rw [sFx,H1.load (k:=0) (i:=0) rfl rfl];simp only [xq,show ¬ (256:Int)<cells by omega,decide_false,zY,zC];rw [sFx,H1.load (k:=0) (i:=0+1) rfl rfl];simp (disch:=omega) only [jc,kz,fO,dh,fD,ji,rZ,xq,fe,zW,zY,zD,zC,yH,yI,jC,jA,jG,jE,jD,j7,jX,jO,jW,yA,yN,yL,zF,decide_true,decide_false,Zak,Zam,jP];by_cases hm:128<lines.length
 .simp only [show (128:Int)<(lines.length:Int) by omega,decide_true,zD];exact ret 5 (by rw [jI,if_neg hc,if_pos hm])
 simp only [show ¬ (128:Int)<(lines.length:Int) by omega,decide_false,zC];have hs:jI cells lines=uA cells [] lines:=by rw [jI,if_neg hc,if_neg hm]
 refine F19.L3 (λm z3 h' nx'=>∃ i:Nat,z3=I i/\lines.length-i=m/\i<=lines.length/\h'=h1/\nx'=nx1/\jI cells lines=uA cells (lines.take i) (lines.drop i)) (m:=lines.length) (by omega) ⟨0,rfl,rfl,by omega,rfl,rfl,by simpa using hs⟩ ?_;rintro m z2 z3 z4 z5 z8 z9 z10 z11 z12 z13 h1 nx1 R ⟨i,rfl,rfl,hi,rfl,rfl,he⟩ hR;rw [sFx,H1.load (k:=0) (i:=0+1) rfl rfl];simp (disch:=omega) only [jc,kz,fO,dh,fD,ji,rZ,xq,fe,zW,zY,zD,zC,yH,yI,jC,jA,jG,jE,jD,j7,jX,jO,jW,yA,yN,yL,zF,decide_true,decide_false,Zak,Zam,jP];by_cases hlt:i<lines.length
 case neg =>
  simp only [show ¬ (i:Int)<(lines.length:Int) by omega,decide_false,zC];rw [F19.k20];exact ret 0 (by rw [he,Zbn (by omega)];rfl)
 simp only [show (i:Int)<(lines.length:Int) by omega,decide_true,zD];obtain ⟨l,hx⟩:∃ l,lines[i]? = some l:=⟨_,List.getElem?_eq_getElem hlt⟩;have hmem:=Zad hx;have hd:lines.drop i=l::lines.drop (i+1):=by
  rw [Zaw hlt];rw [List.getElem?_eq_getElem hlt] at hx;rw [Option.some.inj hx]
 have htake:lines.take (i+1)=lines.take i++[l]:=by rw [Zar,hx];rfl
 rw [sFx,H1.load (k:=0) (i:=0+1) rfl rfl,fE rfl hlt,ldL (getT hx)];simp (disch:=omega) only [jc,kz,fO,dh,fD,ji,rZ,xq,fe,zW,zY,zD,zC,yH,yI,jC,jA,jG,jE,jD,j7,jX,jO,jW,yA,yN,yL,zF,decide_true,decide_false,Zak,Zam,jP];have hlw:=hw l hmem;have zso:jK cells (lines.take i) l≠0->jI cells lines=jK cells (lines.take i) l:=λh=>by rw [he,hd,uA,if_pos h]
 by_cases h0:l.length=0
 .simp only [show (l.length:Int)=0 by omega,decide_true,zD];have hl0:l=[]:=Zcy h0;have e12:jK cells (lines.take i) l=12:=by rw [jK,if_pos hl0]
  exact ret 12 (by rw [zso (by rw [e12];decide),e12])
 simp only [show ¬ (l.length:Int)=0 by omega,decide_false,zC];have hl0:l≠[]:=λq=>h0 (by rw [q];rfl);have hcell:yY cells none l≠0->jI cells lines=yY cells none l:=λh=>by
  have e:jK cells (lines.take i) l=yY cells none l:=by rw [jK,if_neg hl0,if_pos h]
  rw [zso (by rw [e];exact h),e]
 refine F19.L10 (λm z5 h' nx'=>∃ k:Nat,z5=I k/\l.length-k=m/\k<=l.length/\h'=h1/\nx'=nx1/\yY cells none l=yY cells (pv l k) (l.drop k)) (m:=l.length) (by omega) ⟨0,rfl,rfl,by omega,rfl,rfl,rfl⟩ ?_;rintro m y2 y5 y10 y11 y12 h1 nx1 R2 ⟨k,rfl,rfl,hk,rfl,rfl,hce⟩ hR2;simp (disch:=omega) only [jc,kz,fO,dh,fD,ji,rZ,xq,fe,zW,zY,zD,zC,yH,yI,jC,jA,jG,jE,jD,j7,jX,jO,jW,yA,yN,yL,zF,decide_true,decide_false,Zak,Zam,jP];by_cases hkt:k<l.length
 case neg =>
  simp only [show ¬ (k:Int)<(l.length:Int) by omega,decide_false,zC];have hz:yY cells none l=0:=by rw [hce,Zbn (by omega)];rfl
  rw [F19.k18,sFx,H1.load (k:=0) (i:=0+1) rfl rfl,zle (by omega) (by omega)];have ep:AV.lst 1 i ((lines.map encI).take i)=wu (lines.take i):=by
   rw [<- Zev];simp [wu,Zbu (Nat.le_of_lt hlt)]
  rw [ep];refine zms (by rw [Zan];omega) (λq hq=>Zbe (hw q (Zcl hq)) (by omega)) _ _ _ _ ?_;rintro _ rfl _;by_cases hin:l∈lines.take i
  .simp only [hin,decide_true,zD];have e9:jK cells (lines.take i) l=9:=by rw [jK,if_neg hl0,if_neg (by rw [hz];simp),if_pos hin]
   exact ret 9 (by rw [zso (by rw [e9];decide),e9])
  .simp only [hin,decide_false,zC];rw [F19.k19,jc (by omega)];have e0:jK cells (lines.take i) l=0:=by rw [jK,if_neg hl0,if_neg (by rw [hz];simp),if_neg hin]
   refine hR _ _ _ _ _ _ _ _ _ _ _ _ _ (by omega) ⟨i+1,rfl,rfl,by omega,rfl,rfl,?_⟩;rw [he,hd,uA,if_neg (by rw [e0];simp),htake]
 simp only [show (k:Int)<(l.length:Int) by omega,decide_true,zD];have hxk:l[k]? = some l[k]:=List.getElem?_eq_getElem hkt;have hdk:l.drop k=l[k]::l.drop (k+1):=Zaw hkt;rw [fE rfl hkt,ldL (tO hxk)];by_cases hbad:l[k]<0\/cells<=l[k]
 .have e10:yY cells none l=10:=by rw [hce,hdk,yY,if_pos hbad]
  have fin:=ret 10 (by rw [hcell (by rw [e10];decide),e10]);by_cases hneg:l[k]<0
  .simp only [ji,hneg,decide_true,jC,zW,zD];exact fin
  .simp only [ji,hneg,decide_false,yI];rw [fE rfl hkt,ldL (tO hxk),sFx,H1.load (k:=0) (i:=0) rfl rfl];simp only [fe,show cells<=l[k] by omega,decide_true,zY,zD];exact fin
 simp only [ji,show ¬ l[k]<0 by omega,decide_false,yI];rw [fE rfl hkt,ldL (tO hxk),sFx,H1.load (k:=0) (i:=0) rfl rfl];simp only [fe,show ¬ cells<=l[k] by omega,decide_false,zY,zC];rw [F19.k16];have next:∀ z12,(pv l k).any (λq=>decide (l[k]<=q))=false->R2 (F19.fr (.agg [I cells,wu lines]) (.ptr bx 0) y2 (I i) (encI l) (I ((k:Int)+1)) (.bool false) (.bool false) (.bool true) (.bool false) (.bool true) (.bool false) z12 z13) h1 nx1=.ok True:=λz12 hany=>by
  refine hR2 _ _ _ _ _ _ _ _ (by omega) ⟨k+1,rfl,rfl,by omega,rfl,rfl,?_⟩;rw [hce,hdk,yY,if_neg hbad,hany];simp [mD hkt]
 by_cases hk0:0<k
 .obtain ⟨k,rfl⟩:∃ j,k=j+1:=⟨k-1,by omega⟩;have hk1:k<l.length:=by omega
  have hxk1:l[k]? = some l[k]:=List.getElem?_eq_getElem hk1;simp only [xq,show (0:Int)<((k+1:Nat):Int) by omega,decide_true,yH];rw [fE rfl hkt,ldL (tO hxk),kz (by omega),fE (i:=k) (by omega) hk1,ldL (tO hxk1)];rw [mD hk1] at next;by_cases hle:l[k+1]<=l[k]
  .simp only [rZ,hle,decide_true,zW,zD];have e11:yY cells none l=11:=by rw [hce,hdk,yY,if_neg hbad,mD hk1,if_pos (by simp [hle])]
   exact ret 11 (by rw [hcell (by rw [e11];decide),e11])
  .simp only [rZ,hle,decide_false,zW,zC];rw [F19.k17,jc (by omega)];exact next _ (by simp [hle])
 .obtain rfl:k=0:=by omega
  simp only [xq,show ¬ (0:Int)<((0:Nat):Int) by omega,decide_false,jA,zY,zC];rw [F19.k17,jc (by omega)];exact next _ (by simp [pv])
theorem bF {P:Program} {f:Nat} {p id:Pa} {h0 h:T Blk} {nx:Pa} {L:List Ob} {k:Nat} {l:List Int} {K:Kw Prop} {Q:AV->Prop} (H:Hp h0 h nx L) (hk:L[k]? = some (.arr id (l.map I))) (hq:∀ B,Pure P B f [encI l] Q) (hpl:∀ v,Q v->Plain v)
  (hK:∀ v,Q v->K v h nx=.ok True):(CS P B).fn f p [.sl id 0 l.length (some l.length) 1] h nx K=.ok True :=
 zgu (.cons (qj.frz (H.own _ (Zad hk)) (T.sH _ id) (Zag _) (by simp) λv hv=>by obtain ⟨x,_,rfl⟩:=List.mem_map.1 hv;rfl) .nil) (by
  have:=zc5 l;simp only [nns,rU.nn this,Bool.and_self]) hq hpl λv hv _=>hK v hv
theorem zsp {h:T Blk} {nx:Pa} {l:List Int} {g:Nat} {p q:Pa} {cap:List AV} {pr:Int->Bool} {K:Kw Prop} (hl:l.length<=1000000) (hcl:∀ x∈l,∀ K:Kw Prop,K (.bool (pr x)) h nx=.ok True->(CS Tryz.prog B).fn g q (I x::cap) h nx K=.ok True)
  (hK:K (.bool (l.any pr)) h nx=.ok True):(CS Tryz.prog B).fn 173 p [encI l,.fn g q cap] h nx K=.ok True:=by
 refine gE (p:=.of 173) (K:=K) (zN zQ rO 9 λhf => ?_) λ_ _ _ _ q=>q;rw [eG.go];refine gE (p:=.of 184) (K:=λv1 h2 n3=>za .geq .int v1 (I 0) λv4=>K v4 h2 n3) (zN zQ rO 10000000 λhf => ?_) λ_ _ _ _ q=>q;rw [xu.go];simp (disch:=omega) only [jc,kz,fO,dh,fD,ji,rZ,xq,fe,zW,zY,zD,zC,yH,yI,jC,jA,jG,jE,jD,j7,jX,jO,jW,yA,yN,yL,zF,decide_true,decide_false,Zak,Zam,jP];refine xu.L1 (λm z5 h' nx'=>∃ i:Nat,z5=I i/\l.length-i=m/\i<=l.length/\h'=h/\nx'=nx/\(l.take i).any pr=false) (m:=l.length) (by omega) ⟨0,rfl,rfl,by omega,rfl,rfl,by simp⟩ ?_;rintro m z2 z3 z5 z6 z7 _ _ R ⟨i,rfl,rfl,hi,rfl,rfl,htk⟩ hR;simp (disch:=omega) only [jc,kz,fO,dh,fD,ji,rZ,xq,fe,zW,zY,zD,zC,yH,yI,jC,jA,jG,jE,jD,j7,jX,jO,jW,yA,yN,yL,zF,decide_true,decide_false,Zak,Zam,jP];by_cases hlt:i<l.length
 .simp only [show (i:Int)<(l.length:Int) by omega,decide_true,zD];have hx:l[i]? = some l[i]:=List.getElem?_eq_getElem hlt;rw [fE rfl hlt,ldL (tO hx),pY];refine hcl _ (Zas hlt) _ ?_;cases he:pr l[i] with
  | true =>
   simp only [zD,fe,show (0:Int)<=(i:Int) by omega,decide_true];rw [List.any_eq_true.2 ⟨_,Zas hlt,he⟩] at hK;exact hK
  | false =>
   simp only [zC];refine hR _ _ _ _ _ _ _ _ (by omega) ⟨i+1,rfl,rfl,by omega,rfl,rfl,?_⟩;rw [Zar,hx,List.any_append,htk];simp [he]
 .simp only [show ¬ (i:Int)<(l.length:Int) by omega,decide_false,zC];rw [xu.k8];rw [Zaf (by omega)] at htk;rw [htk] at hK;simp only [fe,show ¬ (0:Int) <= -1 by omega,decide_false];exact hK
theorem zlf {a b:Int} {l:List Int} (hl:l.length<=1000000):Pure Tryz.prog B 87 [I a,I b,encI l] (· = I (if l.any (λx=>decide (x<a)||decide (b<x)) then 3 else 0)):=by
 refine zX λh nx K H0 hK=>zN zQ rO 1000 λhf => ?_;rw [F87.go];refine H0.box (l:=[I a]) rfl λx1 h1 nx1 H1 => ?_;refine H1.box (l:=[I b]) rfl λx2 h2 nx2 H2 => ?_;refine zsp (pr:=λx=>decide (x<a)||decide (b<x)) hl (λx _ K hK => ?_) ?_
 .refine gE (p:=.of 174) (K:=K) (zN zQ rO 9 λhf => ?_) λ_ _ _ _ q=>q;show zR tbl 9 _ (Pa.of 174) [I x,.ptr x1 0,.ptr x2 0] _ _ _=_;rw [eF.go,H2.load (k:=1) (i:=0) rfl rfl];by_cases c:x<a
  .simp only [ji,c,decide_true,jC,zW];simpa [c] using hK
  .simp only [ji,c,decide_false,yI];rw [H2.load (k:=0) (i:=0) rfl rfl];simp only [xq,zY];simpa [c] using hK
 .refine dF _ _ _ _ _ _ ?_;rintro _ rfl _;exact hK _ _ _ _ _ H2 (zT rfl) rfl
theorem zvg {cells:Int} {lines:List (List Int)} {i:Nat} {l:List Int} (hi:lines[i]? = some l) (hn:lines.length<=1000000) (hw:∀ q∈lines,q.length<=1000000):Pure Tryz.prog B 89 [.agg [I cells,wu lines],I i] (· = I (jK cells (lines.take i) l)):=by
 refine zX λh nx K H0 hK=>zN zQ rO 10000000 λhf => ?_;have hlt:i<lines.length:=(List.getElem?_eq_some_iff.1 hi).1;have hlw:=hw l (Zad hi);rw [F89.go];refine H0.box (l:=[I cells,wu lines]) rfl λbx h1 nx1 H1 => ?_;rw [sFx,H1.load (k:=0) (i:=0+1) rfl rfl,fE rfl hlt,ldL (getT hi)];refine H1.alloc λx h2 nx2 H2 => ?_;refine H2.store (k:=0) rfl (by decide) rfl λh3 H3 => ?_;rw [H3.load (k:=0) (i:=0) rfl rfl];simp (disch:=omega) only [jc,kz,fO,dh,fD,ji,rZ,xq,fe,zW,zY,zD,zC,yH,yI,jC,jA,jG,jE,jD,j7,jX,jO,jW,yA,yN,yL,zF,decide_true,decide_false,Zak,Zam,jP];have ret:∀ (v:Int) h' nx' L,v=jK cells (lines.take i) l->Hp h h' nx' L->K (I v) h' nx'=.ok True:=λv h' nx' L hv H'=>by rw [hv];exact hK _ _ _ _ _ H' (zT rfl) rfl
 by_cases h0:l.length=0
 .simp only [show (l.length:Int)=0 by omega,decide_true,zD];have hl0:l=[]:=Zcy h0;exact ret 12 _ _ _ (by rw [jK,if_pos hl0]) H3
 simp only [show ¬ (l.length:Int)=0 by omega,decide_false,zC];have hl0:l≠[]:=λq=>h0 (by rw [q];rfl);have hcell:yY cells none l≠0->yY cells none l=jK cells (lines.take i) l:=λh=>by rw [jK,if_neg hl0,if_pos h]
 rw [H3.load (k:=0) (i:=0) rfl rfl];simp (disch:=omega) only [jc,kz,fO,dh,fD,ji,rZ,xq,fe,zW,zY,zD,zC,yH,yI,jC,jA,jG,jE,jD,j7,jX,jO,jW,yA,yN,yL,zF,decide_true,decide_false,Zak,Zam,jP];refine F89.L2 (λm z11 h' nx'=>∃ k:Nat,z11=I k/\l.length-k=m/\k<=l.length/\Hp h h' nx' [.arr x [encI l],.arr bx [I cells,wu lines]]/\yY cells none l=yY cells (pv l k) (l.drop k)) (m:=l.length) (by omega) ⟨0,rfl,rfl,by omega,H3,rfl⟩ ?_;rintro m z3 z5 z6 z7 z11 z12 z13 h1 nx1 R ⟨k,rfl,rfl,hk,H1,hce⟩ hR;simp (disch:=omega) only [jc,kz,fO,dh,fD,ji,rZ,xq,fe,zW,zY,zD,zC,yH,yI,jC,jA,jG,jE,jD,j7,jX,jO,jW,yA,yN,yL,zF,decide_true,decide_false,Zak,Zam,jP];by_cases hkt:k<l.length
 case neg =>
  simp only [show ¬ (k:Int)<(l.length:Int) by omega,decide_false,zC];have hz:yY cells none l=0:=by rw [hce,Zbn (by omega)];rfl
  rw [F89.k9,sFx,H1.load (k:=1) (i:=0+1) rfl rfl,zle (by omega) (by omega)];have ep:AV.lst 1 i ((lines.map encI).take i)=wu (lines.take i):=by
   rw [<- Zev];simp [wu,Zbu (Nat.le_of_lt hlt)]
  rw [ep];refine zht H1 (k:=0) rfl (by rw [Zan];omega) (λq hq=>hw q (Zcl hq)) ?_;refine dF _ _ _ _ _ _ ?_;rintro _ rfl _;refine ret _ _ _ _ ?_ H1;have e9:jK cells (lines.take i) l=if l∈lines.take i then 9 else 0:=by rw [jK,if_neg hl0,if_neg (by rw [hz];simp)]
  rw [e9];by_cases hin:l∈lines.take i <;> simp [hin]
 simp only [show (k:Int)<(l.length:Int) by omega,decide_true,zD];have hxk:l[k]? = some l[k]:=List.getElem?_eq_getElem hkt;have hdk:l.drop k=l[k]::l.drop (k+1):=Zaw hkt;rw [fE rfl hkt,ldL (tO hxk)]
 have tail:∀ (b1 b2:Bool) (z:AV) (z':AV) (Z:AV->T Blk->Pa->Out Prop),b1=(decide (l[k]<0\/cells<=l[k]))->b2=(pv l k).any (λq=>decide (l[k]<=q)) ->
   (∀ (e:Int) h' nx',e=(if l[k]<0\/cells<=l[k] then 10 else if (pv l k).any (λq=>decide (l[k]<=q)) then 11 else 0)->Hp h h' nx' [.arr x [encI l],.arr bx [I cells,wu lines]]->Z (I e) h' nx'=.ok True) ->
   (CS Tryz.prog B).fn 88 (.of 88) [.bool b2,I 11] h1 nx1 (λv22 h23 n24=>yZ 1 2 [(I 0)] [(0,1,I (if b1 then 10 else 0)),(1,1,v22)] h23 n24 λv25 h26 n27=>(CS Tryz.prog B).fn 86 (.of 86) [v25] h26 n27 Z)=.ok True:=by
  intro b1 b2 z z' Z e1 e2 hZ;refine dF _ _ _ _ _ _ ?_;rintro _ rfl _;refine H1.mq (l:=[I (if b1 then 10 else 0),I (if b2 then 11 else 0)]) rfl λid h4 nx4 H4 => ?_;refine bF (l:=[if b1 then 10 else 0,if b2 then 11 else 0]) H4 (k:=0) rfl (λB=>zck (by simp)) (λv hv=>by rw [hv];exact .int _ _) ?_;rintro _ rfl;refine hZ _ _ _ ?_ H4.drop;subst e1 e2;by_cases c1:l[k]<0\/cells<=l[k]
  .simp [c1,kG]
  .cases c2:(pv l k).any (λq=>decide (l[k]<=q)) <;> simp [c1,kG]
 have fin:∀ (e:Int) h' nx',e=(if l[k]<0\/cells<=l[k] then 10 else if (pv l k).any (λq=>decide (l[k]<=q)) then 11 else 0)->Hp h h' nx' [.arr x [encI l],.arr bx [I cells,wu lines]] ->
   (za .neq .int (I e) (I 0) λv31=>yM v31 (K (I e) h' nx') (R (F89.fr (.agg [I cells,wu lines]) (I i) (.ptr bx 0) z3 (.ptr x 0) (I k) (I l[k]) (I e) (.bool false) (encI l) (I l.length) (I ((k:Int)+1)) (.bool true) v31) h' nx'))=.ok True:=by
  intro e h' nx' he H';have hstep:yY cells none l=if e≠0 then e else yY cells (some l[k]) (l.drop (k+1)):=by
   rw [hce,hdk,yY,he];by_cases c1:l[k]<0\/cells<=l[k]
   .simp [c1]
   .cases c2:(pv l k).any (λq=>decide (l[k]<=q)) <;> simp [c1]
  simp (disch:=omega) only [jc,kz,fO,dh,fD,ji,rZ,xq,fe,zW,zY,zD,zC,yH,yI,jC,jA,jG,jE,jD,j7,jX,jO,jW,yA,yN,yL,zF,decide_true,decide_false,Zak,Zam,jP];by_cases c:e=0
  .simp only [c,decide_true,Zak,zC];refine hR _ _ _ _ _ _ _ _ _ _ (by omega) ⟨k+1,rfl,rfl,by omega,H',?_⟩;rw [hstep,if_neg (by simp [c]),mD hkt]
  .simp only [c,decide_false,Zam,zD];rw [if_pos c] at hstep;exact ret _ _ _ _ (by rw [<- hcell (by rw [hstep];exact c),hstep]) H'
 have mid:∀ b1:Bool,b1=decide (l[k]<0\/cells<=l[k]) ->
   (CS Tryz.prog B).fn 88 (.of 88) [.bool b1,I 10] h1 nx1 (λv10 h11 n12 =>
    sG (.bool (decide (0<(k:Int)))) true (λk=>zE (.ptr x 0) h11 k) λv14=>sG (.bool (decide (0<(k:Int)))) true (λq=>q (I (k:Int))) λv15=>sG (.bool (decide (0<(k:Int)))) true (λk=>za .sub .int v15 (I 1) k) λv16=>sG (.bool (decide (0<(k:Int)))) true (λk=>zH 1 v14 v16 k) λv17=>sG (.bool (decide (0<(k:Int)))) true (λk=>zE v17 h11 k) λv18 =>
    sG (.bool (decide (0<(k:Int)))) true (λq=>q (I l[k])) λv19=>sG (.bool (decide (0<(k:Int)))) true (λk=>za .geq .int v18 v19 k) λv20=>yF (.bool (decide (0<(k:Int)))) v20 (.bool false) λv21 =>
    (CS Tryz.prog B).fn 88 (.of 88) [v21,I 11] h11 n12 λv22 h23 n24=>yZ 1 2 [(I 0)] [(0,1,v10),(1,1,v22)] h23 n24 λv25 h26 n27=>(CS Tryz.prog B).fn 86 (.of 86) [v25] h26 n27 λv28 h29 n30 =>
    za .neq .int v28 (I 0) λv31=>yM v31 (K v28 h29 n30) (R (F89.fr (.agg [I cells,wu lines]) (I i) (.ptr bx 0) z3 (.ptr x 0) (I k) (I l[k]) v28 (.bool false) (encI l) (I l.length) (I ((k:Int)+1)) (.bool true) v31) h29 n30))=.ok True:=by
  intro b1 e1;refine dF _ _ _ _ _ _ ?_;rintro _ rfl _;by_cases ck:0<k
  .obtain ⟨k,rfl⟩:∃ j,k=j+1:=⟨k-1,by omega⟩;have hk1:k<l.length:=by omega
   have hxk1:l[k]? = some l[k]:=List.getElem?_eq_getElem hk1;simp only [show (0:Int)<((k+1:Nat):Int) by omega,decide_true,yH,zW];rw [H1.load (k:=0) (i:=0) rfl rfl,kz (by omega),fE (i:=k) (by omega) hk1,ldL (tO hxk1)];simp only [fe];exact tail _ _ .u .u _ e1 (by rw [mD hk1];rfl) fin
  .obtain rfl:k=0:=by omega
   simp only [show ¬ (0:Int)<((0:Nat):Int) by omega,decide_false,jA,zY];exact tail _ _ .u .u _ e1 rfl fin
 by_cases c:l[k]<0
 .simp only [ji,c,decide_true,jC,zW];exact mid true (by simp [c])
 .simp only [ji,c,decide_false,yI,sFx];rw [H1.load (k:=1) (i:=0) rfl rfl];simp only [fe,zY];exact mid _ (by simp [c])
theorem zxs {cells:Int} {lines:List (List Int)} (hw:∀ q∈lines,q.length<=1000000):Pure Tryz.prog B 18 [.agg [I cells,wu lines]] (· = I (jI cells lines)):=by
 refine zX λh nx K H0 hK=>zN zQ rO 10000000 λhf => ?_;rw [F18.go];refine H0.box (l:=[I cells,wu lines]) rfl λbx h1 nx1 H1 => ?_;rw [sFx,H1.load (k:=0) (i:=0) rfl rfl,sFx,H1.load (k:=0) (i:=0+1) rfl rfl];simp only [yA,xq];refine H1.mq (l:=[I cells]) rfl λid h2 nx2 H2 => ?_;simp only [zF,yA];rw [H2.load (k:=1) (i:=0+1) rfl rfl];simp only [zF,sFx];refine zgu (args':=[I 1,I 256,encI [cells]]) (.cons (.int _ _) (.cons (.int _ _) (.cons (qj.frz (H2.own (.arr id [I cells]) (by simp)) (T.sH _ id) (Zag _) rfl (λv hv=>by simp at hv;subst hv;rfl)) .nil))) rfl (λB=>zlf (l:=[cells]) (by simp)) (λv hv=>by rw [hv];exact .int _ _) ?_;rintro _ rfl _;rw [H2.load (k:=1) (i:=0+1) rfl rfl];simp only [zF,yA];refine dF _ _ _ _ _ _ ?_;rintro _ rfl _;refine H2.mq (l:=[I (if [cells].any (λx=>decide (x<1)||decide (256<x)) then 3 else 0),I (if decide (128<(lines.length:Int)) then 5 else 0)]) rfl λid3 h3 nx3 H3 => ?_;refine bF (l:=[if [cells].any (λx=>decide (x<1)||decide (256<x)) then 3 else 0,if decide (128<(lines.length:Int)) then 5 else 0]) H3 (k:=0) rfl (λB=>zck (by simp)) (λv hv=>by rw [hv];exact .int _ _) ?_;rintro _ rfl;have ret:∀ (v:Int) h' nx' L,v=jI cells lines->Hp h h' nx' L->K (I v) h' nx'=.ok True:=λv h' nx' L hv H'=>by rw [hv];exact hK _ _ _ _ _ H' (zT rfl) rfl
 have ef:kG [if [cells].any (λx=>decide (x<1)||decide (256<x)) then 3 else 0,if decide (128<(lines.length:Int)) then 5 else 0]=if cells<1\/256<cells then 3 else if 128<lines.length then 5 else 0:=by
  by_cases c:cells<1\/256<cells
  .simp [kG,c]
  .by_cases c2:128<lines.length
   .have:(128:Int)<(lines.length:Int):=by omega
    simp [kG,c,c2,this]
   .have:¬ (128:Int)<(lines.length:Int):=by omega
    simp [kG,c,c2,this]
 rw [ef];simp only [fD];by_cases hc:cells<1\/256<cells
 .simp only [hc,if_true];simp only [show ¬ (3:Int)=0 by omega,decide_false,Zam,zD];exact ret 3 _ _ _ (by rw [jI,if_pos hc]) H3
 simp only [hc,if_false];by_cases hm:128<lines.length
 .simp only [hm,if_true];simp only [show ¬ (5:Int)=0 by omega,decide_false,Zam,zD];exact ret 5 _ _ _ (by rw [jI,if_neg hc,if_pos hm]) H3
 simp only [hm,if_false,decide_true,Zak,zC];rw [H3.load (k:=2) (i:=0+1) rfl rfl];simp only [yA];have hs:jI cells lines=uA cells [] lines:=by rw [jI,if_neg hc,if_neg hm]
 refine F18.L2 (λm z8 h' nx'=>∃ i:Nat,z8=I i/\lines.length-i=m/\i<=lines.length/\Hp h h' nx' [.arr bx [I cells,wu lines]]/\jI cells lines=uA cells (lines.take i) (lines.drop i)) (m:=lines.length) (by omega) ⟨0,rfl,rfl,by omega,H3.drop.drop,by simpa using hs⟩ ?_;rintro m z2 z4 z5 z8 z9 z10 h4 nx4 R ⟨i,rfl,rfl,hi,H4,he⟩ hR;simp (disch:=omega) only [jc,kz,fO,dh,fD,ji,rZ,xq,fe,zW,zY,zD,zC,yH,yI,jC,jA,jG,jE,jD,j7,jX,jO,jW,yA,yN,yL,zF,decide_true,decide_false,Zak,Zam,jP];by_cases hlt:i<lines.length
 case neg =>
  simp only [show ¬ (i:Int)<(lines.length:Int) by omega,decide_false,zC];rw [F18.k9];exact ret 0 _ _ _ (by rw [he,Zbn (by omega)];rfl) H4
 simp only [show (i:Int)<(lines.length:Int) by omega,decide_true,zD];obtain ⟨l,hx⟩:∃ l,lines[i]? = some l:=⟨_,List.getElem?_eq_getElem hlt⟩;have hd:lines.drop i=l::lines.drop (i+1):=by
  rw [Zaw hlt];rw [List.getElem?_eq_getElem hlt] at hx;rw [Option.some.inj hx]
 have htake:lines.take (i+1)=lines.take i++[l]:=by rw [Zar,hx];rfl
 rw [H4.zw (k:=0) (n:=2) rfl rfl];refine zvg hx (by omega) hw _ _ _ _ ?_;rintro _ rfl _;simp only [fD];by_cases c:jK cells (lines.take i) l=0
 .simp only [c,decide_true,Zak,zC];refine hR _ _ _ _ _ _ _ _ _ (by omega) ⟨i+1,rfl,rfl,by omega,H4,?_⟩;rw [he,hd,uA,if_neg (by rw [c];simp),htake]
 .simp only [c,decide_false,Zam,zD];exact ret _ _ _ _ (by rw [he,hd,uA,if_pos c]) H4
end Go.Ev
namespace Go.Ev
def AscL (cells:Nat) (l:List Int):Prop:=l≠[]/\l.Pairwise (· < ·)/\∀ c∈l,0<=c/\c<(cells:Int)
end Go.Ev
namespace Go.Ev
open Go Go.Proofs
variable {B:Nat}
theorem cells_ok {cells:Int}:∀ {l:List Int} {p:Option Int},yY cells p l=0->(∀ c∈l,0<=c/\c<cells)/\l.Pairwise (· < ·)/\∀ q,p=some q->∀ c∈l,q<c
 | [],_,_=>⟨by simp,.nil,by simp⟩
 | c::l,p,h=>by
  rw [yY] at h;by_cases c1:c<0\/cells<=c
  .rw [if_pos c1] at h;cases h
  rw [if_neg c1] at h;cases c2:p.any (λq=>decide (c<=q)) with
  | true=>rw [c2,if_pos rfl] at h;cases h
  | false =>
   rw [c2,if_neg (by simp)] at h;obtain ⟨h1,h2,h3⟩:=cells_ok h;have h4:=h3 c rfl;refine ⟨λx hx => ?_,List.pairwise_cons.2 ⟨h4,h2⟩,λq hq x hx => ?_⟩
   .rcases List.mem_cons.1 hx with rfl | hx
    .omega
    .exact h1 x hx
   .subst hq;simp at c2;rcases List.mem_cons.1 hx with rfl | hx
    .exact c2
    .have:=h4 x hx;omega
theorem zhu {cells:Int}:∀ {ls prev:List (List Int)},uA cells prev ls=0->∀ l∈ls,l≠[]/\yY cells none l=0
 | [],_,_,l,h=>by simp at h
 | a::ls,prev,h,l,hl=>by
  rw [uA] at h;by_cases c:jK cells prev a≠0
  .rw [if_pos c] at h;exact absurd h c
  rw [if_neg c] at h;rcases List.mem_cons.1 hl with rfl | hl
  .have c:jK cells prev l=0:=by simpa using c
   rw [jK] at c;by_cases c0:l=[]
   .rw [if_pos c0] at c;cases c
   rw [if_neg c0] at c;refine ⟨c0,?_⟩;by_cases c1:yY cells none l≠0
   .rw [if_pos c1] at c;exact c
   .simpa using c1
  .exact zhu h l hl
theorem zju {cells:Int} {lines:List (List Int)} (h:jI cells lines=0):∃ n:Nat,cells=n/\1<=n/\n<=256/\lines.length<=128/\∀ l∈lines,AscL n l:=by
 rw [jI] at h;by_cases c1:cells<1\/256<cells
 .rw [if_pos c1] at h;cases h
 rw [if_neg c1] at h;by_cases c2:128<lines.length
 .rw [if_pos c2] at h;cases h
 rw [if_neg c2] at h;refine ⟨cells.toNat,by omega,by omega,by omega,by omega,λl hl => ?_⟩;obtain ⟨h1,h2⟩:=zhu h l hl;obtain ⟨h3,h4,_⟩:=cells_ok h2;exact ⟨h1,h4,λc hc=>by have:=h3 c hc;omega⟩
end Go.Ev
namespace Go.Ev
abbrev srt (l:List Int):List Int:=l.mergeSort λx y=>decide (x<=y)
theorem zhv (l:List Int):(srt l).Perm l:=List.mergeSort_perm l _
structure Ins (l out:List Int) (i k:Nat):Prop where
 perm:out.Perm l
 ex:∃ (A:List Int) (x:Int) (B R:List Int),out=A++x::(B++R)/\A.length=k/\A.length+B.length=i/\(A++B).Pairwise (· <= ·)/\∀ b∈B,x<b
theorem Ins.swap {l out:List Int} {i k:Nat} (H:Ins l out i (k+1)) {a x:Int} (ha:out[k]? = some a) (hx:out[k+1]? = some x) (hlt:x<a):Ins l ((out.set (k+1) a).set k x) i k:=by
 obtain ⟨hp,A,x',B,R,rfl,hA,hi,hs,hb⟩:=H;obtain ⟨A,a',rfl⟩:∃ A' a',A=A'++[a']:=⟨A.dropLast,A.getLast (by intro q;rw [q] at hA;simp at hA),(List.dropLast_concat_getLast _).symm⟩;have hA':A.length=k:=by simpa using hA
 have e1:a'=a:=by
  rw [Zbl,List.getElem?_append_right (by omega),hA',Zct] at ha;simpa using ha
 have e2:x'=x:=by
  rw [List.getElem?_append_right (by simp;omega)] at hx;simp [hA'] at hx;exact hx
 subst e1 e2;have e3:((A++[a']++x'::(B++R)).set (k+1) a').set k x'=A++x'::((a'::B)++R):=by
  have h1:(A++[a']++x'::(B++R)).set (k+1) a'=A++a'::a'::(B++R):=by
   rw [Zbl,Zeq _ _ (by omega),hA',show k+1-k=1 by omega];rfl
  rw [h1,Zeq _ _ (by omega),hA',Zct];rfl
 rw [e3];refine ⟨List.Perm.trans ?_ hp,A,x',a'::B,R,rfl,hA',by simp at hi ⊢;omega,by simpa [Zbl] using hs,?_⟩
 .rw [Zbl];refine List.Perm.append_left A ?_;exact List.Perm.swap _ _ _
 .intro b hb';rcases List.mem_cons.1 hb' with rfl | q
  .exact hlt
  .exact hb b q
theorem Ins.done {l out:List Int} {i k:Nat} (H:Ins l out i k) (h:k=0\/∃ j a x,k=j+1/\out[j]? = some a/\out[k]? = some x/\¬ x<a):out.Perm l/\(out.take (i+1)).Pairwise (· <= ·):=by
 obtain ⟨hp,A,x,B,R,rfl,hA,hi,hs,hb⟩:=H;refine ⟨hp,?_⟩;have e:(A++x::(B++R)).take (i+1)=A++x::B:=by
  rw [show A++x::(B++R)=(A++x::B)++R by simp];exact Zfx (by simp;omega)
 rw [e];have hs':=List.pairwise_append.1 hs;refine List.pairwise_append.2 ⟨hs'.1,List.pairwise_cons.2 ⟨λb hb'=>by have:=hb b hb';omega,hs'.2.1⟩,?_⟩;have key:∀ a∈A,a<=x:=by
  rcases h with rfl | ⟨j,a0,x0,rfl,h1,h2,h3⟩
  .obtain rfl:A=[]:=Zcy hA;simp
  .obtain ⟨A,a',rfl⟩:∃ A' a',A=A'++[a']:=⟨A.dropLast,A.getLast (by intro q;rw [q] at hA;simp at hA),(List.dropLast_concat_getLast _).symm⟩;have hA':A.length=j:=by simpa using hA
   have e1:a'=a0:=by
    rw [Zbl,List.getElem?_append_right (by omega),hA',Zct] at h1;simpa using h1
   have e2:x=x0:=by
    rw [List.getElem?_append_right (by simp;omega)] at h2;simp [hA'] at h2;exact h2
   subst e1 e2;intro a ha;rcases List.mem_append.1 ha with q | q
   .have:=(List.pairwise_append.1 hs'.1).2.2 a q a' (by simp);omega
   .simp at q;omega
 intro a ha b hb';rcases List.mem_cons.1 hb' with rfl | q
 .exact key a ha
 .exact hs'.2.2 a ha b q
def incr (d:List Int) (c:Int):List Int:=d.set c.toNat (d.getD c.toNat 0+1)
@[simp] theorem zxt (d:List Int) (c:Int):(incr d c).length=d.length:=by simp [incr]
def Bd (d:List Int) (M:Nat):Prop:=∀ v∈d,0<=v/\v<=(M:Int)
theorem Bd.incr {d:List Int} {M:Nat} (h:Bd d M) {c:Int} (hc:c.toNat<d.length):Bd (incr d c) (M+1):=by
 intro v hv;rcases List.mem_or_eq_of_mem_set hv with q | rfl
 .have:=h v q;omega
 .rw [Zac,List.getElem?_eq_getElem hc];have:=h _ (Zas hc);simp only [Option.getD_some];omega
theorem Bd.mono {d:List Int} {M N:Nat} (h:Bd d M) (hm:M<=N):Bd d N:=λv hv=>by have:=h v hv;omega
theorem Bd.srt {d:List Int} {M:Nat} (h:Bd d M):Bd (Ev.srt d) M:=λv hv=>h v ((zhv d).mem_iff.1 hv)
@[simp] theorem zzw (d:List Int):(Ev.srt d).length=d.length:=(zhv d).length_eq
end Go.Ev
namespace Go.Ev
open Go Go.Proofs
variable {B:Nat}
set_option maxRecDepth 100000
theorem Hp.zaa {h0 h:T Blk} {nx:Pa} {L:List Ob} (H:Hp h0 h nx L) (e:Nat):Hp h0 h nx (.gro none e 0 []::L) :=
  ⟨H.keep,fun x hx=>by rcases List.mem_cons.1 hx with rfl | q;· exact ⟨rfl,rfl⟩
                       . exact H.own x q,λn hn=>H.off n (by simpa [Ob.names] using hn),by have:=H.nd;simpa [Ob.names] using this,H.fr⟩
end Go.Ev
namespace Go.Ev
open Go Go.Proofs
variable {B:Nat}
theorem zvh {h0 h:T Blk} {nx:Pa} {L:List Ob} {o:Option Pa} {n k:Nat} {l l':List AV} (H:Hp h0 h nx L) (hk:L[k]? = some (.gro o 1 n l)) (hl:l'.length=l.length) (hs:l'.all qf=true) (hf:∀ (i:Nat) (v v':AV),l[i]? = some v->l'[i]? = some v'->tQ h0 h v v'):tQ h0 h (xg o 1 n) (.lst 1 n l'):=by
 have own:=H.own _ (Zad hk);have hoff:=H.off;cases o with
 | none =>
  obtain ⟨rfl,rfl⟩:=own;obtain rfl:l'=[]:=by simpa using hl
  exact .zc1 1
 | some id =>
  obtain ⟨t,h1,h2,h3⟩:=own;refine .sl _ _ _ _ _ true _ t _ (hoff id (List.mem_flatMap.2 ⟨_,Zad hk,by simp [Ob.names]⟩)) trivial h1 (by omega) (by rw [hl];exact h2) hs λi v hi => ?_;have hil:i<l.length:=by rw [<- hl];exact (List.getElem?_eq_some_iff.1 hi).1
  have:=yR t 0 (n*1) i (by rw [<- h2];exact hil);rw [h3,List.getElem?_eq_getElem hil] at this;rw [<- Option.some.inj this];exact hf i _ _ (List.getElem?_eq_getElem hil) hi
end Go.Ev
namespace Go.Ev
open Go Go.Proofs
variable {B:Nat}
set_option maxRecDepth 100000
theorem Sg.q1 {q:Rat} (h:Sg q):rW 1 q:=(h.dn (Zag 1)).nm (Zag _) (Zag _)
theorem vR {Q:List Rat} {P:Rat->Prop} (h:∀ j,P (at' Q j)):∀ x∈Q,P x:=λx hx=>by
 obtain ⟨j,_,rfl⟩:=at_mem hx;exact h j
theorem sM.fix {c:List AV} {q:List Rat} (h:sM c q):∀ v∈c,rU v=true:=λv hv=>by
 obtain ⟨m,hm⟩:=List.mem_iff_getElem?.1 hv;have hl:=(List.getElem?_eq_some_iff.1 hm).1;rw [h.1] at hl;obtain ⟨s,w,s',w',e,h1,h2⟩:=h.2 (m / 4) _ (kN (by omega));have h3:((c.drop (m / 4*4)).take 4)[m%4]? = some v:=by
  rw [List.getElem?_take_of_lt (Zby _ (by decide)),List.getElem?_drop,show m / 4*4+m%4=m by omega];exact hm
 rw [e] at h3;exact h1.fix4 h2 v (Zad h3)
theorem gp4 {n:Nat} {o4 o5:Option Pa} {rs:List Pa} {cs:List (List AV)} {ps:List Nat} {T:List Ob} (P:List Ob):(P++SL n o4 o5 rs cs ps T)[P.length]? = some (.gro o4 1 rs.length (rs.map (rwV n))):=by
 rw [List.getElem?_append_right (Zag _),Zct];rfl
theorem gp5 {n:Nat} {o4 o5:Option Pa} {rs:List Pa} {cs:List (List AV)} {ps:List Nat} {T:List Ob} (P:List Ob):(P++SL n o4 o5 rs cs ps T)[P.length+1]? = some (.gro o5 1 ps.length (ps.map λp=>I ((p:Nat):Int))):=by
 rw [List.getElem?_append_right (by omega),Zdc];rfl
theorem gpT {n:Nat} {o4 o5:Option Pa} {rs:List Pa} {cs:List (List AV)} {Q:List (List Rat)} {ps:List Nat} {b:Ob} {T:List Ob} (S:SM rs cs Q) (P:List Ob):(P++SL n o4 o5 rs cs ps (b::T))[P.length+(Q.length+2)]? = some b:=by
 rw [List.getElem?_append_right (by omega),Zdc];show (List.zipWith Ob.arr rs cs++b::T)[Q.length]? = _;rw [List.getElem?_append_right (by rw [xQ S];exact Zag _),xQ S,Zct];rfl
theorem zmt {a g6 g7 b:Ob} {Z U:List Ob}:(a::g6::g7::b::(Z++U)).Perm (g6::g7::b::((Z++[a])++U)):=by
 refine (List.Perm.swap ..).trans (List.Perm.cons _ ((List.Perm.swap ..).trans (List.Perm.cons _ ((List.Perm.swap ..).trans (List.Perm.cons _ ?_)))));rw [Zbl];exact List.perm_middle.symm
def frQ (n:Nat) (ps:List Nat):List Nat:=(List.range n).filter λx => !decide (x∈ps)
theorem zsq {c:Nat} {ps:List Nat}:frQ (c+1) ps=frQ c ps++if c∈ps then [] else [c]:=by
 unfold frQ;rw [List.range_succ,List.filter_append]
 congr 1
 by_cases h:c∈ps
 .rw [if_pos h,List.filter_cons_of_neg (by simp [h])];rfl
 .rw [if_neg h,List.filter_cons_of_pos (by simp [h])];rfl
theorem zfd (n:Nat) (ps:List Nat):(frQ n ps).length<=n:=by
 unfold frQ;exact Zbe (List.length_filter_le ..) (by rw [Zfo];exact Zag _)
def SpcV (n:Nat) (fr:List Nat) (Bs:List (List Rat)) (v:AV):Prop:=∃ cb:List (List AV),cb.length=Bs.length/\(∀ a,a<Bs.length->sM (cb.getD a []) (Bs.getD a []))/\v=.agg [.lst 1 fr.length (fr.map λp=>I ((p:Nat):Int)),.lst 1 Bs.length (cb.map λc=>.lst 4 n c)]
def zsr (n:Nat) (lines:List (List Int)) (Q:List (List Rat)) (ps:List Nat):Prop:=(∃ O,Sv n O Q ps)/\Q.length<=min 11 lines.length/\(∀ f,Mgf n lines f->∀ q∈Q,dot q f=0)/\∀ f:List Rat,f.length=n->(∀ q∈Q,dot q f=0)->Mgf n lines f
theorem qdf (n:Nat) (lines:List (List Int)) (f:List Rat):dot (aV n lines 0) f=0:=by
 unfold aV;rw [uY _ _ _ _ rfl];grind
theorem zmu {n i:Nat} {lines:List (List Int)} {f:List Rat} (h:dot (aV n lines i) f=0):dot (tV n (lines.getD i [])) f=dot (tV n (lines.getD 0 [])) f:=by
 unfold aV at h;rw [uY _ _ _ _ (by rw [gA,gA])] at h
 grind
theorem zhw {n:Nat} {lines:List (List Int)} (hr:∀ l∈lines,∀ c∈l,0<=c/\c<(n:Int)) {i:Nat} (hi:i<lines.length):∀ c∈lines.getD i [],0<=c/\c<(n:Int):=hr _ (jQ hi)
theorem zmv {n:Nat} {lines:List (List Int)} (hn:n<=256) (hl:lines.length<=12) (hll:∀ l∈lines,l.length<=256) (hr:∀ l∈lines,∀ c∈l,0<=c/\c<(n:Int)):Pure Tryz.prog B 93 [.agg [I (n:Int),wu lines]] (λv=>∃ Q ps,zsr n lines Q ps/\SpcV n (frQ n ps) ((frQ n ps).map (af n Q ps)) v):=by
 refine zX λh nx K H0 hK=>zN zQ yD 1000 λhf => ?_;rw [F93.go,F93.t113,zA,F93.zy];refine H0.box (l:=[I (n:Int),wu lines]) rfl λb1 h1 nx1 H1 => ?_;refine H1.alloc λb2 h2 nx2 H2 => ?_;rw [zA,F93.zx,sFx,H2.load (k:=1) (i:=0+0) rfl rfl,zA,F93.je,zA,F93.pq,zA,zA,F93.fJ,zK];have H2:=(H2.zaa 1).zaa 1
 refine F93.qam (λm x4 x5 x6 h' nx'=>∃ (i:Nat) (o4 o5:Option Pa) (rs:List Pa) (cs:List (List AV)) (Q:List (List Rat)) (ps:List Nat) (O:List (List Rat)),x4=xg o4 1 rs.length/\x5=xg o5 1 ps.length/\x6=I (i:Int)/\m+i=lines.length+1/\1<=i/\(i<=lines.length\/i=1)/\Q.length+1<=i/\SM rs cs Q/\Sv n O Q ps/\(∀ f,Mgf n lines f->∀ q∈Q,dot q f=0)/\(∀ i',i'<i->∀ f:List Rat,f.length=n->(∀ q∈Q,dot q f=0)->dot (aV n lines i') f=0)/\Hp h h' nx' (SL n o4 o5 rs cs ps [.arr b2 [.ze,.ze],.arr b1 [I (n:Int),wu lines]])) (m:=lines.length) (by omega) ⟨1,none,none,[],[],[],[],[],rfl,rfl,rfl,rfl,by omega,.inr rfl,Zag _,⟨rfl,rfl,λa ha=>by simp at ha⟩,Sv.nil n,by simp,λi' hi f _ _=>by
  obtain rfl:i'=0:=by omega
  exact qdf ..,H2⟩ ?_
 rintro m z4 z5 z6 z7 z8 z9 z10 z11 z17 z18 z19 z20 z21 z22 z23 z24 z25 z26 z27 h3 nx3 R ⟨i,o4,o5,rs,cs,Q,ps,O,rfl,rfl,rfl,hm,hi1,hi2,hQi,S,hS,hdot,hcv,H3⟩ hR;obtain ⟨T,hT⟩:∃ T:List Ob,T=[.arr b2 [.ze,.ze],.arr b1 [I (n:Int),wu lines]]:=⟨_,rfl⟩;rw [<- hT] at H3;have hps:=hS.len;have tl:∀ {X:List Ob} {o4 o5:Option Pa} {rs:List Pa} {cs:List (List AV)} {ps:List Nat},(List.zipWith Ob.arr rs cs).length=Q.length->(X++SL n o4 o5 rs cs ps T)[X.length+2+Q.length+1]? = some (.arr b1 [I (n:Int),wu lines]):=λ{X o4 o5 rs cs ps} hz=>by
  rw [hT,List.getElem?_append_right (by omega),show X.length+2+Q.length+1-X.length=Q.length+1+2 by omega];show (List.zipWith Ob.arr rs cs++[Ob.arr b2 [.ze,.ze],Ob.arr b1 [I (n:Int),wu lines]])[Q.length+1]? = _;rw [List.getElem?_append_right (by omega),hz,Zdc];rfl
 have l1:∀ op:AV->OP,zE (.ptr b1 (0+1)) h3 op=op (wu lines):=λop=>H3.load (i:=0+1) (tl (X:=[]) (xQ S)) rfl;rw [F93.t63,zA,zA,F93.fG,sFx,l1,yA,ji,zB,F93.v17];by_cases ci:i<lines.length
 case neg =>
  rw [Zaa (by omega),zC,zZ,yE,zA,F93.znp];have hpl:ps.length<=33:=by omega
  refine H3.alloc λb3 h4 nx4 H4 => ?_;have H4:=(H4.zaa 1).zaa 1;rw [zA,zA,F93.qan,zK];refine F93.zx1 (λm x29 h' nx'=>∃ (c:Nat) (o6 o7:Option Pa) (rb:List Pa) (cb:List (List AV)),x29=I (c:Int)/\m+c=n/\SM rb cb ((frQ c ps).map (af n Q ps))/\Hp h h' nx' (.gro o6 1 (frQ c ps).length ((frQ c ps).map λp=>I ((p:Nat):Int))::.gro o7 1 rb.length (rb.map (rwV n))::.arr b3 [xg o6 1 (frQ c ps).length,xg o7 1 rb.length]::(List.zipWith Ob.arr rb cb++SL n o4 o5 rs cs ps T))) (m:=n) (by omega) ⟨0,none,none,[],[],rfl,by omega,⟨rfl,rfl,λa ha=>by simp [frQ] at ha⟩,H4⟩ ?_;rintro m2 y13 y14 y15 y16 y29 y30 y31 y32 y33 y34 y35 h5 nx5 R2 ⟨c,o6,o7,rb,cb,rfl,hmc,S2,H5⟩ hR2;have hfl:=zfd c ps;have hrb:rb.length=(frQ c ps).length:=by rw [S2.lr,Zal]
  obtain ⟨P,hP⟩:∃ P:List Ob,P=.gro o6 1 (frQ c ps).length ((frQ c ps).map λp=>I ((p:Nat):Int))::.gro o7 1 rb.length (rb.map (rwV n))::.arr b3 [xg o6 1 (frQ c ps).length,xg o7 1 rb.length]::List.zipWith Ob.arr rb cb:=⟨_,rfl⟩;have eP:(.gro o6 1 (frQ c ps).length ((frQ c ps).map λp=>I ((p:Nat):Int))::.gro o7 1 rb.length (rb.map (rwV n))::.arr b3 [xg o6 1 (frQ c ps).length,xg o7 1 rb.length]::(List.zipWith Ob.arr rb cb++SL n o4 o5 rs cs ps T))=P++SL n o4 o5 rs cs ps T:=by rw [hP];rfl
  have H5p:=H5.cast eP;rw [F93.t101,zA,F93.qao,ji,zA,zB,F93.v30];by_cases cc:c<n
  case neg =>
   obtain rfl:c=n:=by omega
   rw [Zaa (by omega),zC,zZ,yE,zA,F93.zx2,H5.zw (k:=2) (n:=2) rfl rfl];rw [hT] at H5p;refine H5p.jd (l2:=[xg o6 1 (frQ c ps).length,xg o7 1 rb.length]) (gpT S P) rfl rfl λh6 H6 => ?_;simp only [zI,zO];have hb2:((P++SL c o4 o5 rs cs ps [.arr b2 [.ze,.ze],.arr b1 [I (c:Int),wu lines]]).set (P.length+(Q.length+2)) (.arr b2 [xg o6 1 (frQ c ps).length,xg o7 1 rb.length]))[P.length+(Q.length+2)]? = some (.arr b2 [xg o6 1 (frQ c ps).length,xg o7 1 rb.length]):=List.getElem?_set_self (List.getElem?_eq_some_iff.1 (gpT S P)).1;rw [F93.ret,H6.zw (n:=2) hb2 rfl];have hPl:3<=P.length:=by rw [hP];simp
   have old:∀ i,i<P.length->((P++SL c o4 o5 rs cs ps [.arr b2 [.ze,.ze],.arr b1 [I (c:Int),wu lines]]).set (P.length+(Q.length+2)) (.arr b2 [xg o6 1 (frQ c ps).length,xg o7 1 rb.length]))[i]? = P[i]? := λi hi=>by
    rw [List.getElem?_set_ne (by omega),List.getElem?_append_left hi]
   have F6:tQ h h6 (xg o6 1 (frQ c ps).length) (.lst 1 (frQ c ps).length ((frQ c ps).map λp=>I ((p:Nat):Int))):=H6.zbt (k:=0) (by rw [old 0 (by omega),hP];rfl) λv hv=>by
    obtain ⟨x,_,rfl⟩:=List.mem_map.1 hv;rfl
   have hcl:=S2.lc;have F7:tQ h h6 (xg o7 1 rb.length) (.lst 1 rb.length (cb.map λd=>.lst 4 c d)):=zvh H6 (k:=1) (by rw [old 1 (by omega),hP];rfl) (by rw [Zal,Zal,hcl,S2.lr]) (List.all_eq_true.2 λv hv=>by obtain ⟨x,_,rfl⟩:=List.mem_map.1 hv;rfl) λa v v' h1 h2=>by
    rw [List.getElem?_map] at h1 h2;have ha:a<rb.length:=by
     rcases Zda a rb.length with q | q
     .exact q
     .rw [List.getElem?_eq_none q] at h1;cases h1
    have hac:a<cb.length:=by rw [hcl,<- S2.lr];exact ha
    rw [List.getElem?_eq_getElem ha] at h1;rw [kM (d:=[]) hac] at h2;obtain rfl:=Option.some.inj h1;obtain rfl:=Option.some.inj h2;have hrow:=S2.row a (by rw [<- S2.lr];exact ha);refine H6.zja (k:=3+a) ?_ (Zag _) ?_ hrow.fix
    .rw [old (3+a) (by rw [hP];simp only [Zbm];rw [xQ S2,<- S2.lr];omega),hP,Zcz 3 a];show (List.zipWith Ob.arr rb cb)[a]? = _;rw [List.getElem?_zipWith,List.getElem?_eq_getElem ha,kM (d:=[]) hac]
    .rw [hrow.1,Zac,List.getElem?_map,kM (d:=0) (show a<(frQ c ps).length by omega)];show (af _ _ _ _).length*4=_;rw [qA]
   refine hK _ _ _ _ (.agg [.lst 1 (frQ c ps).length ((frQ c ps).map λp=>I ((p:Nat):Int)),.lst 1 rb.length (cb.map λd=>.lst 4 c d)]) H6 (Frz.agg _ _ rfl rfl λj v v' h1 h2 => ?_) ⟨Q,ps,⟨⟨O,hS⟩,by omega,hdot,λf hf hk=>⟨hf,λl hl=>by
    obtain ⟨b,hb⟩:=List.mem_iff_getElem?.1 hl;have hbl:=(List.getElem?_eq_some_iff.1 hb).1;have e:=zmu (hcv b (by omega) f hf hk);rw [Zac,hb] at e;exact e⟩⟩,cb,hcl,S2.row,by rw [S2.lr]⟩
   match j,h1,h2 with
   | 0,h1,h2=>cases h1;cases h2;exact F6
   | 1,h1,h2=>cases h1;cases h2;exact F7
   | j+2,h1,h2=>simp at h1
  rw [Zab (by omega),zD,zG,zA,zK,zA,F93.znq,zA,zA,F93.qap];refine zu9 H5p (gp5 P) (by omega) ?_;rw [zB,F93.v31];have hfs:=zsq (c:=c) (ps:=ps);by_cases hc:c∈ps
  .rw [if_pos hc,Zbj] at hfs;rw [Zab hc,zD,zZ,yE,F93.zv2,jc (by omega)];exact hR2 (m2-1) _ _ _ _ _ _ _ _ _ _ _ _ _ (by omega) ⟨c+1,o6,o7,rb,cb,by congr 1,by omega,by rw [hfs];exact S2,by rw [hfs];exact H5⟩
  rw [if_neg hc] at hfs;rw [Zaa hc,zC,zG,zA,F93.qaq];refine zho H5p (by omega) λib c0 h6 nx6 hc0 H6 => ?_;rw [zA,F93.qar];refine zky (by unfold rV;omega) _ _ _ _ ?_;rintro _ ⟨s,w,s',w',rfl,i1,i2⟩ _;rw [rat1] at i1 i2;have hc0l:=hc0.1;rw [Zay] at hc0l;rw [oZ (j:=c) rfl cc];refine H6.aS (k:=0) (off:=c*4) rfl (by omega) rfl λh7 H7 => ?_;have hc1:sM (gO c0 (c*4) [s,w,s',w']) (qU n c):=hc0.put (by rw [Zay];exact cc) i1 i2;have H7:Hp h h7 nx6 ((.arr ib (gO c0 (c*4) [s,w,s',w'])::P)++SL n o4 o5 rs cs ps T):=H7;rw [zA,zA,F93.znr,H7.zeo (gp5 (_::P)),zK];refine F93.qaw (λm x34 h' nx'=>∃ (k:Nat) (c1:List AV),x34=I (k:Int)/\m+k=Q.length/\sM c1 (ou c ((aH Q ps).take k) (qU n c))/\Hp h h' nx' ((.arr ib c1::P)++SL n o4 o5 rs cs ps T)) (m:=Q.length) (by omega) ⟨0,_,rfl,rfl,hc1,H7⟩ ?_;rintro m3 u15 u16 u34 u35 h8 nx8 R3 ⟨k,c1,rfl,hmk,hc1,H8⟩ hR3;rw [F93.t87,zA,F93.qas,ji,zA,zB,F93.v35];by_cases ck:k<Q.length
  .have hpk:ps[k]? = some (ps.getD k 0):=kM (by omega);have hpn:=hS.rng _ (Zad hpk);obtain ⟨rk,hrk0,hob⟩:=S.ob (n:=n) (o4:=o4) (o5:=o5) (ps:=ps) (T:=T) ck (.arr ib c1::P);obtain ⟨id5,g5,d5⟩:=H8.zda (j:=k) (gp5 (_::P)) (show (ps.map λp=>I ((p:Nat):Int))[k]? = some (I ((ps.getD k 0:Nat):Int)) by rw [List.getElem?_map,hpk];rfl);obtain ⟨id4,g4,d4⟩:=H8.zda (j:=k) (gp4 (_::P)) (show (rs.map (rwV n))[k]? = some (rwV n rk) by rw [List.getElem?_map,hrk0];rfl);have hrow:=S.row k ck;have hok:=hS.row _ (jQ (d:=[]) ck);obtain ⟨cs2,e1,e2,_,fv⟩:=hrow.get (kN (q:=Q.getD k []) (j:=c) (by rw [hok];exact cc));have hcl:=hc1.1;rw [mY,dG] at hcl;rw [Zab (by omega),zD,zG,zA,zK,zA,F93.qat,g5,d5,F93.qau,g4,d4,oZ (j:=c) rfl cc,H8.qd hob e2 e1];refine zdm fv _ _ _ _ ?_;rintro _ ⟨s2,w2,s2',w2',rfl,j1,j2⟩ _;rw [oZ (j:=ps.getD k 0) rfl hpn];refine H8.aS (k:=0) (off:=ps.getD k 0*4) rfl (by omega) rfl λh9 H9 => ?_;rw [F93.qav,jc (by omega)];refine hR3 (m3-1) _ _ _ _ _ _ (by omega) ⟨k+1,_,by congr 1,by omega,?_,H9⟩;rw [kW hS.len ck,zdp];exact hc1.put (by rw [mY,dG];exact hpn) j1 j2
  obtain rfl:k=Q.length:=by omega
  rw [Zaf (by unfold aH;rw [List.length_zip];omega)] at hc1;have H8:=H8;rw [hP] at H8;have H8:Hp h h8 nx8 (.arr ib c1::.gro o6 1 (frQ c ps).length ((frQ c ps).map λp=>I ((p:Nat):Int))::.gro o7 1 rb.length (rb.map (rwV n))::.arr b3 [xg o6 1 (frQ c ps).length,xg o7 1 rb.length]::(List.zipWith Ob.arr rb cb++SL n o4 o5 rs cs ps T)):=H8;have l0:∀ op:AV->OP,zE (.ptr b3 (0+0)) h8 op=op (xg o6 1 (frQ c ps).length):=λop=>H8.load (k:=3) (i:=0+0) rfl rfl;have l1:∀ op:AV->OP,zE (.ptr b3 (0+1)) h8 op=op (xg o7 1 rb.length):=λop=>H8.load (k:=3) (i:=0+1) rfl rfl;have k1:((gB (fM 1 [(I 0)]) [(0,1,I (c:Int))]).isSome&&true)=true:=rfl;have k2:((gB (fM 1 [.ze]) [(0,1,rwV n ib)]).isSome&&true)=true:=rfl;rw [Zaa (by omega),zC,zZ,yE,F93.zob];simp only [sFx,l0,l1,k1,k2,jP];refine H8.mq (l:=[I (c:Int)]) rfl λta h9 nx9 H9 => ?_;have l0:∀ op:AV->OP,zE (.ptr b3 (0+0)) h9 op=op (xg o6 1 (frQ c ps).length):=λop=>H9.load (k:=4) (i:=0+0) rfl rfl;have l1:∀ op:AV->OP,zE (.ptr b3 (0+1)) h9 op=op (xg o7 1 rb.length):=λop=>H9.load (k:=4) (i:=0+1) rfl rfl;simp only [l0,l1,zF];refine H9.appN (k:=2) (o:=o6) (c:=1) (new:=[I (c:Int)]) rfl (qj.rd (l:=[I (c:Int)]) (n:=1) (H9.own _ (Zaj ..)) rfl) rfl rfl (by decide) (by decide) (by omega) λo6' h10 nx10 _ H10 => ?_;have l0:∀ op:AV->OP,zE (.ptr b3 (0+0)) h10 op=op (xg o6 1 (frQ c ps).length):=λop=>H10.load (k:=4) (i:=0+0) rfl rfl;have l1:∀ op:AV->OP,zE (.ptr b3 (0+1)) h10 op=op (xg o7 1 rb.length):=λop=>H10.load (k:=4) (i:=0+1) rfl rfl;simp only [l0,l1,zF];refine H10.mq (l:=[rwV n ib]) rfl λtb h11 nx11 H11 => ?_;have l0:∀ op:AV->OP,zE (.ptr b3 (0+0)) h11 op=op (xg o6 1 (frQ c ps).length):=λop=>H11.load (k:=5) (i:=0+0) rfl rfl;have l1:∀ op:AV->OP,zE (.ptr b3 (0+1)) h11 op=op (xg o7 1 rb.length):=λop=>H11.load (k:=5) (i:=0+1) rfl rfl;simp only [l0,l1,zF];refine H11.appN (k:=4) (o:=o7) (c:=1) (new:=[rwV n ib]) rfl (qj.rd (l:=[rwV n ib]) (n:=1) (H11.own _ (Zaj ..)) rfl) rfl rfl (by decide) (by decide) (by omega) λo7' h12 nx12 _ H12 => ?_;refine H12.store (k:=5) rfl (by simp) (zbu _ _ _) λh13 H13 => ?_;refine H13.store (k:=5) rfl (by simp) (zbu _ _ _) λh14 H14 => ?_;have H15:Hp h h14 nx12 (.arr ib c1::.gro o6' 1 ((frQ c ps).length+1) (((frQ c ps).map λp=>I ((p:Nat):Int))++[I (c:Int)])::.gro o7' 1 (rb.length+1) (rb.map (rwV n)++[rwV n ib])::.arr b3 [xg o6' 1 ((frQ c ps).length+1),xg o7' 1 (rb.length+1)]::(List.zipWith Ob.arr rb cb++SL n o4 o5 rs cs ps T)):=H14.drop.drop;have H16:=H15.perm zmt;rw [F93.zv2,jc (by omega)];refine hR2 (m2-1) _ _ _ _ _ _ _ _ _ _ _ _ _ (by omega) ⟨c+1,o6',o7',rb++[ib],cb++[c1],by congr 1,by omega,?_,H16.cast ?_⟩
  .rw [hfs,Zbb];exact S2.add hc1
  .rw [hfs,zk3 (by rw [S2.lr,S2.lc])];simp only [Zah,Zbb,Zcx,Zcs,List.map_nil]
 have hx0:lines[0]? = some (lines.getD 0 []):=kM (by omega);have hxi:lines[i]? = some (lines.getD i []):=kM ci;have hm1:=hll _ (jQ (d:=[]) (show 0<lines.length by omega));have hmi:=hll _ (jQ (d:=[]) ci);obtain ⟨t,ht,hd⟩:=hS.den (by omega);obtain ⟨M,hMe⟩:∃ M,M=HB:=⟨_,rfl⟩;rw [<- hMe] at ht hd;have hMS:M<=861979:=by rw [hMe];exact Zag _
 obtain ⟨N,hNe⟩:∃ N,N=M+Q.length*M:=⟨_,rfl⟩;have hNS:N<=10343748:=by
  have h1:=Zbh (show Q.length<=11 by omega) hMS;omega
 have hMN:M<=N:=by rw [hNe];exact Nat.le_add_right _ _
 have hA2:2*(N*M)<=9223372036854775807:=by have:=Zbh hNS hMS;omega
 have hA3:N*N<=9223372036854775807:=by have:=Zbh hNS hNS;omega
 have hA4:M*M<=9223372036854775807:=by have:=Zbh hMS hMS;omega
 have hA5:2*(M*(M*M))<=9223372036854775807:=by have:=Zbh hMS (Zbh hMS hMS);omega
 rw [Zab (by omega),zD,zG,zA,zK,zA,F93.fH,sFx,l1,fE (i:=i) rfl ci,ldL (getT hxi)];refine mI H3 (by omega) (by omega) (zhw hr ci) λr cr h4 nx4 hcr H4 => ?_;have l1':∀ op:AV->OP,zE (.ptr b1 (0+1)) h4 op=op (wu lines):=λop=>H4.load (i:=0+1) (tl (X:=[Ob.arr r cr]) (xQ S)) rfl;rw [zA,F93.fK,sFx,l1',fE (j:=0) (i:=0) rfl (by omega),ldL (getT hx0)];refine zky (by unfold rV;omega) _ _ _ _ ?_;rintro v1 f1 _;rw [rat1] at f1;rw [ldL (getT hx0)];simp only [zF,l1',sFx];rw [fE (j:=0) (i:=0) rfl (by omega)];simp only [zF];refine mI H4 (by omega) (by omega) (zhw hr (by omega)) λr0 cr0 h5 nx5 hcr0 H5 => ?_;have d01:∀ (l:List Int) (j:Nat),rW 1 (at' (tV n l) j):=λl j=>Sg.q1 (by rcases ze6 n l j with e | e <;> rw [e];exact .inr (.inl rfl);exact .inr (.inr rfl));have q7:∀ {j:Nat} {q:Rat},Dn (t j) M q->rW M q:=λ{j q} hq=>hq.nm (ht j).1 (ht j).2
 refine ze5 (kr:=1) (ko:=0) (M:=1) (N:=1) (P:=1) (R:=1) H5 rfl rfl (by omega) hcr hcr0 (gA _ _) (gA _ _) (by omega) f1 (Sg.q1 (.inr (.inr rfl))) (vR λj=>d01 _ j) (vR λj=>d01 _ j) (λx hx=>by
  obtain ⟨j,_,rfl⟩:=at_mem hx;rw [Rat.one_mul];exact d01 _ j) (by decide) (by decide) λc1 h6 nx6 hc1 H6 => ?_
 have H6:=H6.drop;rw [zA,zA,F93.fT,H6.zeo (k:=2) rfl,zK];refine F93.zn7 (λm x20 h' nx'=>∃ (k:Nat) (c:List AV) (q:List Rat),x20=I (k:Int)/\m+k=Q.length/\sM c q/\Rvq n t M Q ps (aV n lines i) k q/\Hp h h' nx' ([.arr r c]++SL n o4 o5 rs cs ps T)) (m:=Q.length) (by omega) ⟨0,c1,_,rfl,rfl,hc1,Rvq.zero (λj=>(ht j).2) (vL ..) (p5 n lines i),H6⟩ ?_;rintro m2 y8 y9 y20 y21 h7 nx7 R2 ⟨k,c,q,rfl,hmk,hcq,hrk,H7⟩ hR2;rw [F93.t20,zA,F93.di,ji,zA,zB,F93.v21];by_cases ck:k<Q.length
 .have hpk:ps[k]? = some (ps.getD k 0):=kM (by omega);have hpn:=hS.rng _ (Zad hpk);obtain ⟨rk,hrk0,hob⟩:=S.ob (n:=n) (o4:=o4) (o5:=o5) (ps:=ps) (T:=T) ck [.arr r c];obtain ⟨id5,g5,d5⟩:=H7.zda (k:=2) (j:=k) rfl (show (ps.map λp=>I ((p:Nat):Int))[k]? = some (I ((ps.getD k 0:Nat):Int)) by rw [List.getElem?_map,hpk];rfl);obtain ⟨id4,g4,d4⟩:=H7.zda (k:=1) (j:=k) rfl (show (rs.map (rwV n))[k]? = some (rwV n rk) by rw [List.getElem?_map,hrk0];rfl);obtain ⟨cs2,e1,e2,_,fv⟩:=hcq.get (kN (q:=q) (j:=ps.getD k 0) (by rw [hrk.len];exact hpn));have hkN:M+k*M<=N:=by rw [hNe];have:=Zao M (show k<=Q.length by omega);omega
  have hb:Sg (at' q (ps.getD k 0)):=by rw [hrk.late k (Zag _) ck];exact p5 ..
  rw [Zab (by omega),zD,zG,zA,zK,zA,F93.fU,g5,d5,F93.sD,oZ (j:=ps.getD k 0) rfl hpn,H7.qd (k:=0) rfl e2 e1,g4,d4]
  refine ze5 (kr:=0) (ko:=[Ob.arr r c].length+(k+2)) (M:=1) (N:=M) (P:=N) (R:=M) H7 rfl hob (by show 1+(k+2)≠0;omega) hcq (S.row k ck) hrk.len (hS.row _ (jQ ck)) (by omega) fv hb.q1 (vR λj=>((hrk.den j).mono hkN).nm (ht j).1 (Zbe (ht j).2 hMN)) (vR λj=>q7 (hd _ (jQ ck) j)) (λx hx=>by
   obtain ⟨j,_,rfl⟩:=at_mem hx;exact q7 (hb.mul (hd _ (jQ ck) j))) (by omega) hA2 λc' h8 nx8 hc' H8 => ?_
  rw [F93.rX,jc (by omega)];exact hR2 (m2-1) _ _ _ _ _ _ (by omega) ⟨k+1,c',_,by congr 1,by omega,hc',hrk.next hS hd (p5 n lines i) ck,H8⟩
 obtain rfl:k=Q.length:=by omega
 rw [Zaa (by omega),zC,zZ,yE,zA,F93.oD,kz (by omega),zA,zK];have hq0:∀ f,Mgf n lines f->dot q f=0:=λf hfm=>by
  rw [hrk.eq,zcf (n:=n) _ _ (λx hx => ?_) (vL ..),zr8 hfm ci];have hz:=Zem (Zcl hx);exact ⟨hS.row _ hz.1,hdot f hfm _ hz.1⟩
 have hqr:∀ f:List Rat,(∀ q∈Q,dot q f=0)->dot q f=dot (aV n lines i) f:=λf hf=>by
  rw [hrk.eq,zcf (n:=n) _ _ (λx hx => ?_) (vL ..)];have hz:=Zem (Zcl hx);exact ⟨hS.row _ hz.1,hf _ hz.1⟩
 refine F93.zm4 (λm x10 h' nx'=>∃ z:Int,x10=I z /\ -1<=z/\z<(n:Int)/\(m:Int)=z+1/\(∀ b:Nat,z<(b:Int)->at' q b=0)/\h'=h7/\nx'=nx7) (m:=n) (by omega) ⟨(n:Int)-1,rfl,by omega,by omega,by omega,λb hb=>gF (by rw [hrk.len];omega),rfl,rfl⟩ ?_;rintro m3 w10 w22 h8 nx8 R3 ⟨z,rfl,hz1,hz2,hmz,hzb,rfl,rfl⟩ hR3;rw [F93.t30,zA,zA,F93.zaj,F93.zn8,F93.zta,fe];by_cases cz:0<=z
 case neg =>
  rw [Zaa (by omega)];simp only [jA,uF,uGWf];rw [F93.zqu,F93.zj2];simp only [jA,zY];rw [zB,F93.v22,zC,zZ,yE,zA,zA,F93.zad,ji,Zab (by omega),zB,F93.v23,zD,zZ,yE,F93.zj0,jc (by omega)];rw [hT] at H7
  exact hR (m-1) _ _ _ _ _ _ _ _ _ _ _ _ _ _ _ _ _ _ _ _ _ (by omega) ⟨i+1,o4,o5,rs,cs,Q,ps,O,rfl,rfl,by congr 1,by omega,by omega,by omega,by omega,S,hS,hdot,λi' hi f hf hk=>by
   by_cases e:i'=i
   .rw [e,<- hqr f hk];exact mR _ _ λb=>hzb b (by omega)
   .exact hcv i' (by omega) f hf hk,H7.drop⟩
 obtain ⟨j,rfl⟩:∃ j:Nat,z=(j:Int):=⟨z.toNat,by omega⟩;have hjn:j<n:=by omega
 obtain ⟨cs2,e1,e2,_,fv⟩:=hcq.get (kN (q:=q) (j:=j) (by rw [hrk.len];exact hjn));rw [Zab (by omega)];simp only [yH,uGWt];rw [oZ (j:=j) rfl hjn,H7.qd (k:=0) rfl e2 e1];refine bK fv _ _ _ _ ?_;rintro _ rfl _;rw [F93.zqu,F93.zj2];simp only [yH,zW,dh];rw [zB,F93.v22];by_cases hv:at' q j=0
 .rw [Zab (sU.2 (Rat.num_eq_zero.2 hv)),zD,zG,zK,F93.zfj,kz (by omega)]
  exact hR3 (m3-1) _ _ _ _ (by omega) ⟨(j:Int)-1,rfl,by omega,by omega,by omega,λb hb=>by
   by_cases e:b=j
   .rw [e];exact hv
   .exact hzb b (by omega),rfl,rfl⟩
 rw [Zaa (λw=>hv (Rat.num_eq_zero.1 (sU.1 w))),zC,zZ,yE,zA,zA,F93.zad,ji,Zaa (by omega),zB,F93.v23,zC,zG,zA,F93.zfu,oZ (j:=j) rfl hjn,H7.qd (k:=0) rfl e2 e1];have hrd:∀ b,Dn (t b) N (at' q b):=λb=>by rw [hNe];exact hrk.den b
 obtain ⟨s,s1,sN,dinv,dmul⟩:=zve (ht j).1 hv (hrd j);have hqs:∀ b,rW N (at' q b):=λb=>(hrd b).nm (ht b).1 (Zbe (ht b).2 hMN);refine zmn fv hv _ _ _ _ ?_;rintro v2 f2 _;refine zr5 (kr:=0) (M:=N) (N:=N) H7 rfl hcq hrk.len (by omega) f2 ((dinv.mono (Zbe (ht j).2 hMN)).nm s1 sN) (vR hqs) hA3 λc2 h9 nx9 hc2 H9 => ?_;have H9:Hp h h9 nx9 ([.arr r c2]++SL n o4 o5 rs cs ps T):=H9;have hNw:Nv n Q ps j (gS (at' q j)⁻¹ q):=by
  refine ⟨by rw [pG];exact hrk.len,by rw [bB];grind,λb hb=>by rw [bB,hrk.done b hb hb,Zer],hjn,λb hb=>by rw [bB,hzb b (by omega),Zer]⟩
 have hqk:∀ f:List Rat,f.length=n->(∀ q∈Q,dot q f=0)->dot (aV n lines i) f=0->dot (gS (at' q j)⁻¹ q) f=0:=λf _ hf h0=>by
  rw [dX,hqr f hf,h0,Zci]
 have hqb:∀ f:List Rat,(∀ q∈Q,dot q f=0)->dot (gS (at' q j)⁻¹ q) f=0->dot (aV n lines i) f=0:=λf hf h0=>by
  rw [dX] at h0;rw [<- hqr f hf];grind
 have hq2:∀ f,Mgf n lines f->dot (gS (at' q j)⁻¹ q) f=0:=λf hfm=>by rw [dX,hq0 f hfm,Zci]
 obtain ⟨q2,hq2e⟩:∃ q2,q2=gS (at' q j)⁻¹ q:=⟨_,rfl⟩;rw [<- hq2e] at hc2 hNw hq2 hqk hqb;have hnl:(uR Q j q2).length=Q.length:=by unfold uR;rw [Zal]
 obtain ⟨t2,ht2,hd2⟩:=(hS.next hNw (vL ..) (p5 n lines i) hqk).den (by rw [Zah,hnl,Zcx];omega);rw [<- hMe] at ht2 hd2;have hd3:∀ b,Dn (t2 b) M (at' q2 b):=λb=>hd2 q2 (by simp) b;rw [zA,zA,F93.znb,H9.zeo (k:=1) rfl,zK];refine F93.qal (λm x26 h' nx'=>∃ (k:Nat) (cs':List (List AV)),x26=I (k:Int)/\m+k=Q.length/\SM rs cs' ((uR Q j q2).take k++Q.drop k)/\Hp h h' nx' ([.arr r c2]++SL n o4 o5 rs cs' ps T)) (m:=Q.length) (by omega) ⟨0,cs,rfl,rfl,by rw [Zdj,Zbq,Zdb];exact S,H9⟩ ?_;rintro m4 u11 u26 u27 h10 nx10 R4 ⟨k,cs',rfl,hmk4,S',H10⟩ hR4;have hml:((uR Q j q2).take k++Q.drop k).length=Q.length:=by rw [Zah,Zan,Zcb];omega
 have hrl:=S.lr;rw [F93.t47,zA,F93.znc,ji,zA,zB,F93.v27];by_cases ck:k<Q.length
 .have hQk:Q[k]? = some (Q.getD k []):=kM ck;have hmk:((uR Q j q2).take k++Q.drop k)[k]? = some (Q.getD k []):=qde hnl hQk;have hmg:((uR Q j q2).take k++Q.drop k).getD k []=Q.getD k []:=by rw [Zac,hmk];rfl
  have hnk:(uR Q j q2)[k]? = some (j4 (at' (Q.getD k []) j) (Q.getD k []) q2):=by unfold uR;rw [List.getElem?_map,hQk];rfl
  obtain ⟨rk,hrk0,hob⟩:=S'.ob (n:=n) (o4:=o4) (o5:=o5) (ps:=ps) (T:=T) (by rw [hml];exact ck) [.arr r c2];have hrow:=S'.row k (by rw [hml];exact ck);rw [hmg] at hrow;obtain ⟨id4,g4,d4⟩:=H10.zda (k:=1) (j:=k) rfl (show (rs.map (rwV n))[k]? = some (rwV n rk) by rw [List.getElem?_map,hrk0];rfl);have hok:=hS.row _ (jQ (d:=[]) ck);obtain ⟨cs3,e3,e4,_,fo⟩:=hrow.get (kN (q:=Q.getD k []) (j:=j) (by rw [hok];exact hjn));rw [Zab (by omega),zD,zG,zA,zK,zA,F93.zfv,g4,d4,F93.zfw,oZ (j:=j) rfl hjn,H10.qd hob e4 e3]
  refine ze5 (kr:=[Ob.arr r c2].length+(k+2)) (ko:=0) (M:=M) (N:=M) (P:=M) (R:=M*M) H10 hob rfl (by show 0≠1+(k+2);omega) hrow hc2 hok hNw.len (by omega) fo (q7 (hd _ (jQ ck) j)) (vR λb=>q7 (hd _ (jQ ck) b)) (vR λb=>(hd3 b).nm (ht2 b).1 (ht2 b).2) (λx hx=>by
   obtain ⟨b,_,rfl⟩:=at_mem hx;exact ((hd _ (jQ ck) j).mul (hd3 b)).nm (Nat.mul_pos (ht j).1 (ht2 b).1) (Zbh (ht j).2 (ht2 b).2)) hA4 hA5 λc' h11 nx11 hc' H11 => ?_
  obtain ⟨S2,eL⟩:=S'.put (n:=n) (o4:=o4) (o5:=o5) (ps:=ps) (T:=T) (by rw [hml];exact ck) hrk0 hc' [.arr r c2];rw [F93.zfz,jc (by omega)];exact hR4 (m4-1) _ _ _ _ _ (by omega) ⟨k+1,cs'.set k c',by congr 1,by omega,by rw [<- zr7 hnl hnk];exact S2,H11.cast eL⟩
 obtain rfl:k=Q.length:=by omega
 rw [Zaf (by omega),Zbn (by omega),Zbj] at S';rw [Zaa (by omega),zC,zZ,yE,F93.zne];refine H10.mq (l:=[rwV n r]) rfl λtb h11 nx11 H11 => ?_;refine H11.appN (k:=2) (o:=o4) (c:=1) (new:=[rwV n r]) rfl (qj.rd (l:=[rwV n r]) (n:=1) (H11.own _ (Zaj ..)) rfl) rfl rfl (by decide) (by decide) (by omega) λo4' h12 nx12 _ H12 => ?_;refine H12.mq (l:=[I (j:Int)]) rfl λtb2 h13 nx13 H13 => ?_;refine H13.appN (k:=4) (o:=o5) (c:=1) (new:=[I (j:Int)]) rfl (qj.rd (l:=[I (j:Int)]) (n:=1) (H13.own _ (Zaj ..)) rfl) rfl rfl (by decide) (by decide) (by omega) λo5' h14 nx14 _ H14 => ?_;have H15:Hp h h14 nx14 (.arr r c2::.gro o4' 1 (rs.length+1) (rs.map (rwV n)++[rwV n r])::.gro o5' 1 (ps.length+1) ((ps.map λp=>I ((p:Nat):Int))++[I (j:Int)])::(List.zipWith Ob.arr rs cs'++T)):=H14.drop.drop;have H16:=H15.perm zr6;have eL:(.gro o4' 1 (rs.length+1) (rs.map (rwV n)++[rwV n r])::.gro o5' 1 (ps.length+1) ((ps.map λp=>I ((p:Nat):Int))++[I (j:Int)])::((List.zipWith Ob.arr rs cs'++[Ob.arr r c2])++T))=SL n o4' o5' (rs++[r]) (cs'++[c2]) (ps++[j]) T:=by
  unfold SL;rw [zk3 (by rw [S'.lr,S'.lc]),Zah,Zah,Zbb,Zbb];rfl
 have H17:=H16.cast eL;rw [hT] at H17;rw [F93.zj0,jc (by omega)];refine hR (m-1) _ _ _ _ _ _ _ _ _ _ _ _ _ _ _ _ _ _ _ _ _ (by omega) ⟨i+1,o4',o5',rs++[r],cs'++[c2],uR Q j q2++[q2],ps++[j],O++[aV n lines i],by rw [Zah];rfl,by rw [Zah];rfl,by congr 1,by omega,by omega,by omega,by rw [Zah,hnl,Zcx];omega,S'.add hc2,hS.next hNw (vL ..) (p5 n lines i) hqk,λf hfm q' hq' => ?_,λi' hi f hf hk => ?_,H17⟩
 .rcases List.mem_append.1 hq' with hq' | hq'
  .obtain ⟨o,ho,rfl⟩:=List.mem_map.1 hq';rw [uY _ _ _ _ (by rw [hS.row o ho,hNw.len]),hdot f hfm o ho,hq2 f hfm,Zci];grind
  .obtain rfl:=List.mem_singleton.1 hq';exact hq2 f hfm
 .have h2:=hk q2 (by simp);have h3:∀ o∈Q,dot o f=0:=λo ho=>by
   have:=hk _ (Zdn _ (List.mem_map_of_mem (f:=λo=>j4 (at' o j) o q2) ho));rw [uY _ _ _ _ (by rw [hS.row o ho,hNw.len]),h2,Zci] at this
   grind
  by_cases e:i'=i
  .rw [e];exact hqb f h3 h2
  .exact hcv i' (by omega) f hf h3
end Go.Ev
namespace Go.Ev
open Go Go.Proofs
theorem Sv.nodup {n:Nat} {O Q:List (List Rat)} {ps:List Nat} (hS:Sv n O Q ps):ps.Nodup:=by
 rw [Zdu,Zdy];intro a b ha hb hab e;have ha':a<Q.length:=by have:=hS.len;omega
 have hb':b<Q.length:=by have:=hS.len;omega
 have h1:=hS.one a a ha' ha';have h2:=hS.one a b ha' hb';have e1:ps.getD a 0=ps[a]:=by rw [Zac,List.getElem?_eq_getElem ha];rfl
 have e2:ps.getD b 0=ps[b]:=by rw [Zac,List.getElem?_eq_getElem hb];rfl
 rw [if_pos rfl,e1] at h1;rw [if_neg (by omega),e2,<- e,h1] at h2;exact absurd h2 (by decide)
theorem zdq {n c i:Nat} {O Q:List (List Rat)} {ps:List Nat} (hS:Sv n O Q ps) (hi:i<Q.length):∀ k,k<=Q.length->sumA c (Q.getD i []) ((aH Q ps).take k)=if i<k then at' (Q.getD i []) c else 0
 | 0,_=>by rw [Zdj,if_neg (by omega)];rfl
 | k+1,hk=>by
  rw [kW hS.len (by omega),bA,zdq hS hi k (by omega),hS.one i k hi (by omega)];by_cases e:i=k
  .subst e;rw [if_neg (by omega),if_pos rfl,if_pos (by omega)];grind
  .rw [if_neg e];by_cases c:i<k
   .rw [if_pos c,if_pos (by omega)];grind
   .rw [if_neg c,if_neg (by omega)];grind
theorem zfe {n c:Nat} {O Q:List (List Rat)} {ps:List Nat} (hS:Sv n O Q ps) (hc:c<n) (hcp:c∉ps):∀ q∈Q,dot q (af n Q ps c)=0:=λq hq=>by
 obtain ⟨i,hi⟩:=List.mem_iff_getElem?.1 hq;have hil:=(List.getElem?_eq_some_iff.1 hi).1;have hqi:Q.getD i []=q:=by rw [Zac,hi];rfl
 have hg:=hS.row q hq
 have h2:=zhp (c:=c) hg (aH Q ps) (qU n c) (dG n c) (by rw [zva hS.len];exact hS.nodup) (λx hx=>by
  have hx2:=(Zem hx).2;exact ⟨hS.rng _ hx2,ze8 λe=>hcp (e ▸ hx2)⟩)
 have h3:=zdq (c:=c) hS hil Q.length (Zag _);have hlz:(aH Q ps).length=Q.length:=by unfold aH;rw [List.length_zip,hS.len,Nat.min_self]
 rw [Zaf (by omega),hqi,if_pos hil] at h3;rw [zsb hg hc,h3] at h2;rw [kZ];unfold af
 grind
theorem zss {n:Nat} {O Q:List (List Rat)} {ps:List Nat} (hS:Sv n O Q ps) (hQ:Q.length<=11) (c:Nat):∃ t,1<=t/\t<=HB/\∀ j,Dn t (HB) (at' (af n Q ps c) j):=by
 obtain ⟨t,h1,h2,h3⟩:=hS.col hQ c;refine ⟨t,h1,h2,λj => ?_⟩;unfold af;refine zk4 (P:=Dn t (HB)) c j _ _ (λx hx => ?_) ?_
 .exact (h3 _ (Zem hx).1).neg
 .rcases zsa n c j with e | e <;> rw [e]
  .exact Dn.zero _ _
  .exact Sg.dn (.inr (.inr rfl)) h2
theorem zvi {b:List Rat} {p:Nat} {x:Rat}:at' (b.set p x) p=x\/at' (b.set p x) p=at' b p:=by
 by_cases h:p<b.length
 .left;rw [at',Zac,List.getElem?_set_self h];rfl
 .right;rw [gF (by rw [Zbk];omega),gF (by omega)]
theorem mX (c j:Nat) {P:Rat->Prop}:∀ (l:List (List Rat×Nat)) (b:List Rat),(∀ x∈l,x.2=j->P (-at' x.1 c))->P (at' b j)->P (at' (ou c l b) j)
 | [],b,_,h=>h
 |(q,p)::l,b,hl,h=>by
  refine mX c j l _ (λx hx=>hl x (Zaq _ hx)) ?_;by_cases e:p=j
  .subst e;rcases zvi (b:=b) (p:=p) (x := -at' q c) with e2 | e2 <;> rw [e2]
   .exact hl (q,p) (Zaj ..) rfl
   .exact h
  .rw [ze7 e];exact h
theorem zst {n c:Nat} (h:c<n):at' (qU n c) c=1:=by
 unfold qU;rw [at',Zac,List.getElem?_set_self (by rw [Zay];exact h)];rfl
theorem zdr {n c:Nat} {O Q:List (List Rat)} {ps:List Nat} (hS:Sv n O Q ps) (hc:c<n) (hcp:c∉ps):at' (af n Q ps c) c=1/\∀ b,b<c->at' (af n Q ps c) b=0:=by
 have hz:∀ x∈aH Q ps,∃ a,a<Q.length/\x.1=Q.getD a []/\x.2=ps.getD a 0:=λx hx=>by
  obtain ⟨a,ha⟩:=List.mem_iff_getElem?.1 hx;obtain ⟨h1,h2⟩:=List.getElem?_zip_eq_some.1 ha;have hl:=(List.getElem?_eq_some_iff.1 h1).1;exact ⟨a,hl,by rw [Zac,h1];rfl,by rw [Zac,h2];rfl⟩
 unfold af;refine ⟨mX (P:=(· = 1)) c c _ _ (λx hx e => ?_) (zst hc),λb hb=>mX (P:=(· = 0)) c b _ _ (λx hx e => ?_) (ze8 (by omega))⟩
 .exact absurd (e ▸ (Zem hx).2) hcp
 .obtain ⟨a,ha,e1,e2⟩:=hz x hx;show -at' x.1 c=0;rw [e1,hS.tri a ha c (by rw [<- e2,e];exact hb)];grind
theorem zsu {n c b:Nat} {O Q:List (List Rat)} {ps:List Nat} (hS:Sv n O Q ps) (hb:b∉ps) (hne:b≠c):at' (af n Q ps c) b=0:=by
 unfold af;exact mX (P:=(· = 0)) c b _ _ (λx hx e=>absurd (e ▸ (Zem hx).2) hb) (ze8 hne)
theorem zhx:∀ (r f:List Rat) (p:Nat),(∀ j,j≠p->at' r j*at' f j=0)->r.length=f.length->dot r f=at' r p*at' f p
 | [],[],p,_,_=>by rw [gF (q:=[]) (by simp)];show (0:Rat)=_;grind
 | x::r,y::f,0,h,hl=>by
  have hz:dot r f=0:=by
   have hall:∀ j,at' r j*at' f j=0:=λj=>h (j+1) (by omega);have:∀ (r f:List Rat),(∀ j,at' r j*at' f j=0)->dot r f=0:=by
    intro r
    induction r with
    | nil=>intro f _;cases f <;> rfl
    | cons a r ih =>
     intro f hf;cases f with
     | nil=>rfl
     | cons b f =>
      have h0:a*b=0:=hf 0;rw [dot,h0,ih f λj=>hf (j+1)];grind
   exact this r f hall
  rw [dot,hz];show x*y+0=x*y;grind
 | x::r,y::f,p+1,h,hl=>by
  have h0:x*y=0:=h 0 (by omega);rw [dot,zhx r f p (λj hj=>h (j+1) (by omega)) (by simpa using hl),h0];show 0+at' r p*at' f p=at' r p*at' f p
  grind
 | [],_::_,_,_,hl=>by simp at hl
 | _::_,[],_,_,hl=>by simp at hl
theorem qdg {n:Nat} {O Q:List (List Rat)} {ps:List Nat} {f:List Rat} (hS:Sv n O Q ps) (hf:f.length=n) (hk:∀ q∈Q,dot q f=0) (h0:∀ c,c<n->c∉ps->at' f c=0):∀ j,at' f j=0:=λj=>by
 by_cases hj:j<n
 .by_cases hp:j∈ps
  .obtain ⟨a,ha,hx⟩:=Zez hp;have ha':a<Q.length:=by have:=hS.len;omega
   have ea:ps.getD a 0=j:=by rw [Zac,List.getElem?_eq_getElem ha];exact hx
   have hm:=jQ (l:=Q) (d:=[]) ha';have h1:=zhx (Q.getD a []) f j (λb hb => ?_) (by rw [hS.row _ hm,hf])
   .rw [hk _ hm,<- ea,hS.one a a ha' ha',if_pos rfl,Rat.one_mul,ea] at h1;exact h1.symm
   .by_cases hbn:b<n
    .by_cases hbp:b∈ps
     .obtain ⟨d,hd,hy⟩:=Zez hbp;have hd':d<Q.length:=by have:=hS.len;omega
      have ed:ps.getD d 0=b:=by rw [Zac,List.getElem?_eq_getElem hd];exact hy
      have h2:=hS.one a d ha' hd';rw [ed,if_neg (λe=>hb (by rw [<- ed,<- ea,e]))] at h2;rw [h2,Zer]
     .rw [h0 b hbn hbp,Zci]
    .rw [gF (q:=f) (by omega),Zci]
  .exact h0 j hj hp
 .exact gF (by omega)
end Go.Ev
