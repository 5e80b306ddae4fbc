import Derived.Test.YtbghckepkajplabGreatDoorWordsb
import Derived.Test.YtbghckepkajplabGreatDoorWordsa
import Derived.Test.YtbghckepkajplabGreatDoorCodeb
import Derived.Test.YtbghckepkajplabGreatDoorCodea
import Derived.IntWalk
import Derived.Test.YtbghckepkajplabGreatDoorIrT
import Derived.Test.YtbghckepkajplabGreatDoorEvD
import Derived.KernelRfl
import Derived.Test.YtbghckepkajplabGreatDoorLaws
import Derived.Shelf.SlSortCmp.Whole1
import Derived.Deep.Slices
set_option linter.unusedSimpArgs false
set_option linter.unusedVariables false
namespace Go.Ev
open Go Go.Proofs
variable {B:Nat}
set_option maxRecDepth 100000
theorem Sg.q1 {q:Rat} (h:Sg q):dh 1 q:=(h.dn (Zaf 1)).nm (Zaf _) (Zaf _)
theorem mP {Q:List Rat} {P:Rat->Prop} (h:∀ j,P (at' Q j)):∀ x∈Q,P x:=λx hx=>by
 obtain ⟨j,_,rfl⟩:=mT hx;exact h j
theorem sF.fix {c:List AV} {q:List Rat} (h:sF c q):∀ v∈c,rD v=true:=λv hv=>by
 obtain ⟨m,hm⟩:=Zau.1 hv;have hl:=(Zgv.1 hm).1;rw [h.1] at hl;obtain ⟨s,w,s',w',e,h1,h2⟩:=h.2 (m / 4) _ (uU (by omega));have h3:((c.drop (m / 4*4)).take 4)[m%4]? = some v:=by
  rw [Zhb (Zdr _ (by decide)),Zhe,show m / 4*4+m%4=m by omega];exact hm
 rw [e] at h3;exact h1.fix4 h2 v (Zad h3)
theorem gp4 {n:Nat} {o4 o5:Option Pa} {rs:List Pa} {cs:List (List AV)} {ps:List Nat} {T:List Ob} (P:List Ob):(P++SL n o4 o5 rs cs ps T)[P.length]? = some (.gro o4 1 rs.length (rs.map (rwV n))):=by
 rw [Zgx (Zaf _),Zcv];rfl
theorem gp5 {n:Nat} {o4 o5:Option Pa} {rs:List Pa} {cs:List (List AV)} {ps:List Nat} {T:List Ob} (P:List Ob):(P++SL n o4 o5 rs cs ps T)[P.length+1]? = some (.gro o5 1 ps.length (ps.map λp=>I ((p:Nat):Int))):=by
 rw [Zgx (by omega),Zch];rfl
theorem gpT {n:Nat} {o4 o5:Option Pa} {rs:List Pa} {cs:List (List AV)} {Q:List (List Rat)} {ps:List Nat} {b:Ob} {T:List Ob} (S:SM rs cs Q) (P:List Ob):(P++SL n o4 o5 rs cs ps (b::T))[P.length+(Q.length+2)]? = some b:=by
 rw [Zgx (by omega),Zch];show (List.zipWith Ob.arr rs cs++b::T)[Q.length]? = _;rw [Zgx (by rw [vO S];exact Zaf _),vO S,Zcv];rfl
theorem zoc {a g6 g7 b:Ob} {Z U:List Ob}:(a::g6::g7::b::(Z++U)).Perm (g6::g7::b::((Z++[a])++U)):=by
 refine (List.Perm.swap ..).trans (List.Perm.cons _ ((List.Perm.swap ..).trans (List.Perm.cons _ ((List.Perm.swap ..).trans (List.Perm.cons _ ?_)))));rw [Zcg];exact List.perm_middle.symm
def frQ (n:Nat) (ps:List Nat):List Nat:=(List.range n).filter λx => !decide (x∈ps)
theorem zsx {c:Nat} {ps:List Nat}:frQ (c+1) ps=frQ c ps++if c∈ps then [] else [c]:=by
 unfold frQ;rw [Zga,List.filter_append]
 congr 1
 by_cases h:c∈ps
 .rw [if_pos h,List.filter_cons_of_neg (by simp [h])];rfl
 .rw [if_neg h,List.filter_cons_of_pos (by simp [h])];rfl
theorem zf8 (n:Nat) (ps:List Nat):(frQ n ps).length<=n:=by
 unfold frQ;exact Zbe (List.length_filter_le ..) (by rw [Zdf];exact Zaf _)
def SpcV (n:Nat) (fr:List Nat) (Bs:List (List Rat)) (v:AV):Prop:=∃ cb:List (List AV),cb.length=Bs.length/\(∀ a,a<Bs.length->sF (cb.getD a []) (Bs.getD a []))/\v=.agg [.lst 1 fr.length (fr.map λp=>I ((p:Nat):Int)),.lst 1 Bs.length (cb.map λc=>.lst 4 n c)]
def zee (n:Nat) (lines:List (List Int)) (Q:List (List Rat)) (ps:List Nat):Prop:=(∃ O,Sv n O Q ps)/\Q.length<=min 11 lines.length/\(∀ f,Mgf n lines f->∀ q∈Q,dot q f=0)/\∀ f:List Rat,f.length=n->(∀ q∈Q,dot q f=0)->Mgf n lines f
theorem qdr (n:Nat) (lines:List (List Int)) (f:List Rat):dot (aS n lines 0) f=0:=by
 unfold aS;rw [gZ _ _ _ _ rfl];grind
theorem zod {n i:Nat} {lines:List (List Int)} {f:List Rat} (h:dot (aS n lines i) f=0):dot (sD n (lines.getD i [])) f=dot (sD n (lines.getD 0 [])) f:=by
 unfold aS at h;rw [gZ _ _ _ _ (by rw [jH,jH])] at h
 grind
theorem ziu {n:Nat} {lines:List (List Int)} (hr:∀ l∈lines,∀ c∈l,0<=c/\c<(n:Int)) {i:Nat} (hi:i<lines.length):∀ c∈lines.getD i [],0<=c/\c<(n:Int):=hr _ (yI hi)
theorem zoe {n:Nat} {lines:List (List Int)} (hn:n<=256) (hl:lines.length<=12) (hll:∀ l∈lines,l.length<=256) (hr:∀ l∈lines,∀ c∈l,0<=c/\c<(n:Int)):Pure Tryz.prog B 38 [.agg [I (n:Int),uz lines]] (λv=>∃ Q ps,zee n lines Q ps/\SpcV n (frQ n ps) ((frQ n ps).map (oo n Q ps)) v):=by
 refine zV λh A K H0 hK=>zL zR yK 1000 λhf => ?_;rw [F38.go,F38.t113,zA,F38.zu];refine H0.box (l:=[I (n:Int),uz lines]) rfl λb1 h1 A1 H1 => ?_;refine H1.alloc λb2 h2 A2 H2 => ?_;rw [zA,F38.zo,sFx,H2.load (k:=1) (i:=0+0) rfl rfl,zA,F38.yt,zA,F38.vk,zA,zA,F38.nY,zJ];have H2:=(H2.ax 1).ax 1
 refine F38.qa4 (λm x4 x5 x6 h' A'=>∃ (i:Nat) (o4 o5:Option Pa) (rs:List Pa) (cs:List (List AV)) (Q:List (List Rat)) (ps:List Nat) (O:List (List Rat)),x4=uf o4 1 rs.length/\x5=uf o5 1 ps.length/\x6=I (i:Int)/\m+i=lines.length+1/\1<=i/\(i<=lines.length\/i=1)/\Q.length+1<=i/\SM rs cs Q/\Sv n O Q ps/\(∀ f,Mgf n lines f->∀ q∈Q,dot q f=0)/\(∀ i',i'<i->∀ f:List Rat,f.length=n->(∀ q∈Q,dot q f=0)->dot (aS n lines i') f=0)/\Hp h h' A' (SL n o4 o5 rs cs ps [.arr b2 [.zb,.zb],.arr b1 [I (n:Int),uz lines]])) (m:=lines.length) (by omega) ⟨1,none,none,[],[],[],[],[],rfl,rfl,rfl,rfl,by omega,.inr rfl,Zaf _,⟨rfl,rfl,λa ha=>by simp at ha⟩,Sv.nil n,by simp,λi' hi f _ _=>by
  obtain rfl:i'=0:=by omega
  exact qdr ..,H2⟩ ?_
 rintro m z4 z5 z6 z7 z8 z9 z10 z11 z17 z18 z19 z20 z21 z22 z23 z24 z25 z26 z27 h3 A3 R ⟨i,o4,o5,rs,cs,Q,ps,O,rfl,rfl,rfl,hm,hi1,hi2,hQi,S,hS,hdot,hcv,H3⟩ hR;obtain ⟨T,hT⟩:∃ T:List Ob,T=[.arr b2 [.zb,.zb],.arr b1 [I (n:Int),uz lines]]:=⟨_,rfl⟩;rw [<- hT] at H3;have hps:=hS.len;have tl:∀ {X:List Ob} {o4 o5:Option Pa} {rs:List Pa} {cs:List (List AV)} {ps:List Nat},(List.zipWith Ob.arr rs cs).length=Q.length->(X++SL n o4 o5 rs cs ps T)[X.length+2+Q.length+1]? = some (.arr b1 [I (n:Int),uz lines]):=λ{X o4 o5 rs cs ps} hz=>by
  rw [hT,Zgx (by omega),show X.length+2+Q.length+1-X.length=Q.length+1+2 by omega];show (List.zipWith Ob.arr rs cs++[Ob.arr b2 [.zb,.zb],Ob.arr b1 [I (n:Int),uz lines]])[Q.length+1]? = _;rw [Zgx (by omega),hz,Zch];rfl
 have l1:∀ op:AV->OP,zH (.ptr b1 (0+1)) h3 op=op (uz lines):=λop=>H3.load (i:=0+1) (tl (X:=[]) (vO S)) rfl;rw [F38.t63,zA,zA,F38.dz,sFx,l1,zS,yu,zB,F38.v17];by_cases ci:i<lines.length
 case neg =>
  rw [Zab (by omega),zC,zY,yD,zA,F38.qa5];have hpl:ps.length<=33:=by omega
  refine H3.alloc λb3 h4 A4 H4 => ?_;have H4:=(H4.ax 1).ax 1;rw [zA,zA,F38.qa6,zJ];refine F38.zyc (λm x29 h' A'=>∃ (c:Nat) (o6 o7:Option Pa) (rb:List Pa) (cb:List (List AV)),x29=I (c:Int)/\m+c=n/\SM rb cb ((frQ c ps).map (oo n Q ps))/\Hp h h' A' (.gro o6 1 (frQ c ps).length ((frQ c ps).map λp=>I ((p:Nat):Int))::.gro o7 1 rb.length (rb.map (rwV n))::.arr b3 [uf o6 1 (frQ c ps).length,uf o7 1 rb.length]::(List.zipWith Ob.arr rb cb++SL n o4 o5 rs cs ps T))) (m:=n) (by omega) ⟨0,none,none,[],[],rfl,by omega,⟨rfl,rfl,λa ha=>by simp [frQ] at ha⟩,H4⟩ ?_;rintro m2 y13 y14 y15 y16 y29 y30 y31 y32 y33 y34 y35 h5 A5 R2 ⟨c,o6,o7,rb,cb,rfl,hmc,S2,H5⟩ hR2;have hfl:=zf8 c ps;have hrb:rb.length=(frQ c ps).length:=by rw [S2.lr,Zae]
  obtain ⟨P,hP⟩:∃ P:List Ob,P=.gro o6 1 (frQ c ps).length ((frQ c ps).map λp=>I ((p:Nat):Int))::.gro o7 1 rb.length (rb.map (rwV n))::.arr b3 [uf o6 1 (frQ c ps).length,uf o7 1 rb.length]::List.zipWith Ob.arr rb cb:=⟨_,rfl⟩;have eP:(.gro o6 1 (frQ c ps).length ((frQ c ps).map λp=>I ((p:Nat):Int))::.gro o7 1 rb.length (rb.map (rwV n))::.arr b3 [uf o6 1 (frQ c ps).length,uf o7 1 rb.length]::(List.zipWith Ob.arr rb cb++SL n o4 o5 rs cs ps T))=P++SL n o4 o5 rs cs ps T:=by rw [hP];rfl
  have H5p:=H5.cast eP;rw [F38.t101,zA,F38.qa7,yu,zA,zB,F38.v30];by_cases cc:c<n
  case neg =>
   obtain rfl:c=n:=by omega
   rw [Zab (by omega),zC,zY,yD,zA,F38.zyd,H5.zi (k:=2) (n:=2) rfl rfl];rw [hT] at H5p;refine H5p.jc (l2:=[uf o6 1 (frQ c ps).length,uf o7 1 rb.length]) (gpT S P) rfl rfl λh6 H6 => ?_;simp only [zG,zQ];have hb2:((P++SL c o4 o5 rs cs ps [.arr b2 [.zb,.zb],.arr b1 [I (c:Int),uz lines]]).set (P.length+(Q.length+2)) (.arr b2 [uf o6 1 (frQ c ps).length,uf o7 1 rb.length]))[P.length+(Q.length+2)]? = some (.arr b2 [uf o6 1 (frQ c ps).length,uf o7 1 rb.length]):=Zhc (Zgv.1 (gpT S P)).1;rw [F38.ret,H6.zi (n:=2) hb2 rfl];have hPl:3<=P.length:=by rw [hP];simp
   have old:∀ i,i<P.length->((P++SL c o4 o5 rs cs ps [.arr b2 [.zb,.zb],.arr b1 [I (c:Int),uz lines]]).set (P.length+(Q.length+2)) (.arr b2 [uf o6 1 (frQ c ps).length,uf o7 1 rb.length]))[i]? = P[i]? := λi hi=>by
    rw [Zhf (by omega),Zha hi]
   have F6:sj h h6 (uf o6 1 (frQ c ps).length) (.lst 1 (frQ c ps).length ((frQ c ps).map λp=>I ((p:Nat):Int))):=H6.zbo (k:=0) (by rw [old 0 (by omega),hP];rfl) λv hv=>by
    obtain ⟨x,_,rfl⟩:=Zao.1 hv;rfl
   have hcl:=S2.lc;have F7:sj h h6 (uf o7 1 rb.length) (.lst 1 rb.length (cb.map λd=>.lst 4 c d)):=zva H6 (k:=1) (by rw [old 1 (by omega),hP];rfl) (by rw [Zae,Zae,hcl,S2.lr]) (Zaw.2 λv hv=>by obtain ⟨x,_,rfl⟩:=Zao.1 hv;rfl) λa v v' h1 h2=>by
    rw [Zgw] at h1 h2;have ha:a<rb.length:=by
     rcases Zdv a rb.length with q | q
     .exact q
     .rw [Zgz q] at h1;cases h1
    have hac:a<cb.length:=by rw [hcl,<- S2.lr];exact ha
    rw [Zgu ha] at h1;rw [uA (d:=[]) hac] at h2;obtain rfl:=Option.some.inj h1;obtain rfl:=Option.some.inj h2;have hrow:=S2.row a (by rw [<- S2.lr];exact ha);refine H6.zbm (k:=3+a) ?_ (Zaf _) ?_ hrow.fix
    .rw [old (3+a) (by rw [hP];simp only [Zbc];rw [vO S2,<- S2.lr];omega),hP,Zdt 3 a];show (List.zipWith Ob.arr rb cb)[a]? = _;rw [Zhh,Zgu ha,uA (d:=[]) hac]
    .rw [hrow.1,Zaa,Zgw,uA (d:=0) (show a<(frQ c ps).length by omega)];show (oo _ _ _ _).length*4=_;rw [bY]
   refine hK _ _ _ _ (.agg [.lst 1 (frQ c ps).length ((frQ c ps).map λp=>I ((p:Nat):Int)),.lst 1 rb.length (cb.map λd=>.lst 4 c d)]) H6 (Frz.agg _ _ rfl rfl λj v v' h1 h2 => ?_) ⟨Q,ps,⟨⟨O,hS⟩,by omega,hdot,λf hf hk=>⟨hf,λl hl=>by
    obtain ⟨b,hb⟩:=Zau.1 hl;have hbl:=(Zgv.1 hb).1;have e:=zod (hcv b (by omega) f hf hk);rw [Zaa,hb] at e;exact e⟩⟩,cb,hcl,S2.row,by rw [S2.lr]⟩
   match j,h1,h2 with
   | 0,h1,h2=>cases h1;cases h2;exact F6
   | 1,h1,h2=>cases h1;cases h2;exact F7
   | j+2,h1,h2=>simp at h1
  rw [Zac (by omega),zD,zE,zA,zJ,zA,F38.qa8,zA,zA,F38.qa9];refine zvs H5p (gp5 P) (by omega) ?_;rw [zB,F38.v31];have hfs:=zsx (c:=c) (ps:=ps);by_cases hc:c∈ps
  .rw [if_pos hc,Zbh] at hfs;rw [Zac hc,zD,zY,yD,F38.zwx,jg (by omega)];exact hR2 (m2-1) _ _ _ _ _ _ _ _ _ _ _ _ _ (by omega) ⟨c+1,o6,o7,rb,cb,by congr 1,by omega,by rw [hfs];exact S2,by rw [hfs];exact H5⟩
  rw [if_neg hc] at hfs;rw [Zab hc,zC,zE,zA,F38.qba];refine ziq H5p (by omega) λib c0 h6 A6 hc0 H6 => ?_;rw [zA,F38.qbb];refine zl3 (by unfold ru;omega) _ _ _ _ ?_;rintro _ ⟨s,w,s',w',rfl,i1,i2⟩ _;rw [rat1] at i1 i2;have hc0l:=hc0.1;rw [Zaz] at hc0l;rw [oL (j:=c) rfl cc];refine H6.aR (k:=0) (off:=c*4) rfl (by omega) rfl λh7 H7 => ?_;have hc1:sF (gN c0 (c*4) [s,w,s',w']) (kL n c):=hc0.put (by rw [Zaz];exact cc) i1 i2;have H7:Hp h h7 A6 ((.arr ib (gN c0 (c*4) [s,w,s',w'])::P)++SL n o4 o5 rs cs ps T):=H7;rw [zA,zA,F38.qbc,H7.oH (gp5 (_::P)),zJ];refine F38.qbh (λm x34 h' A'=>∃ (k:Nat) (c1:List AV),x34=I (k:Int)/\m+k=Q.length/\sF c1 (oN c ((oM Q ps).take k) (kL n c))/\Hp h h' A' ((.arr ib c1::P)++SL n o4 o5 rs cs ps T)) (m:=Q.length) (by omega) ⟨0,_,rfl,rfl,hc1,H7⟩ ?_;rintro m3 u15 u16 u34 u35 h8 A8 R3 ⟨k,c1,rfl,hmk,hc1,H8⟩ hR3;rw [F38.t87,zA,F38.qbd,yu,zA,zB,F38.v35];by_cases ck:k<Q.length
  .have hpk:ps[k]? = some (ps.getD k 0):=uA (by omega);have hpn:=hS.rng _ (Zad hpk);obtain ⟨rk,hrk0,hob⟩:=S.ob (n:=n) (o4:=o4) (o5:=o5) (ps:=ps) (T:=T) ck (.arr ib c1::P);obtain ⟨id5,g5,d5⟩:=H8.zdj (j:=k) (gp5 (_::P)) (show (ps.map λp=>I ((p:Nat):Int))[k]? = some (I ((ps.getD k 0:Nat):Int)) by rw [Zgw,hpk];rfl);obtain ⟨id4,g4,d4⟩:=H8.zdj (j:=k) (gp4 (_::P)) (show (rs.map (rwV n))[k]? = some (rwV n rk) by rw [Zgw,hrk0];rfl);have hrow:=S.row k ck;have hok:=hS.row _ (yI (d:=[]) ck);obtain ⟨cs2,e1,e2,_,fv⟩:=hrow.get (uU (q:=Q.getD k []) (j:=c) (by rw [hok];exact cc));have hcl:=hc1.1;rw [cA,gT] at hcl;rw [Zac (by omega),zD,zE,zA,zJ,zA,F38.qbe,g5,d5,F38.qbf,g4,d4,oL (j:=c) rfl cc,H8.um hob e2 e1];refine zd8 fv _ _ _ _ ?_;rintro _ ⟨s2,w2,s2',w2',rfl,j1,j2⟩ _;rw [oL (j:=ps.getD k 0) rfl hpn];refine H8.aR (k:=0) (off:=ps.getD k 0*4) rfl (by omega) rfl λh9 H9 => ?_;rw [F38.qbg,jg (by omega)];refine hR3 (m3-1) _ _ _ _ _ _ (by omega) ⟨k+1,_,by congr 1,by omega,?_,H9⟩;rw [cG hS.len ck,zec];exact hc1.put (by rw [cA,gT];exact hpn) j1 j2
  obtain rfl:k=Q.length:=by omega
  rw [Zan (by unfold oM;rw [List.length_zip];omega)] at hc1;have H8:=H8;rw [hP] at H8;have H8:Hp h h8 A8 (.arr ib c1::.gro o6 1 (frQ c ps).length ((frQ c ps).map λp=>I ((p:Nat):Int))::.gro o7 1 rb.length (rb.map (rwV n))::.arr b3 [uf o6 1 (frQ c ps).length,uf o7 1 rb.length]::(List.zipWith Ob.arr rb cb++SL n o4 o5 rs cs ps T)):=H8;have l0:∀ op:AV->OP,zH (.ptr b3 (0+0)) h8 op=op (uf o6 1 (frQ c ps).length):=λop=>H8.load (k:=3) (i:=0+0) rfl rfl;have l1:∀ op:AV->OP,zH (.ptr b3 (0+1)) h8 op=op (uf o7 1 rb.length):=λop=>H8.load (k:=3) (i:=0+1) rfl rfl;have k1:((gL (fe 1 [(I 0)]) [(0,1,I (c:Int))]).isSome&&true)=true:=rfl;have k2:((gL (fe 1 [.zb]) [(0,1,rwV n ib)]).isSome&&true)=true:=rfl;rw [Zab (by omega),zC,zY,yD,F38.qbi];simp only [sFx,l0,l1,k1,k2,jL];refine H8.qw (l:=[I (c:Int)]) rfl λta h9 A9 H9 => ?_;have l0:∀ op:AV->OP,zH (.ptr b3 (0+0)) h9 op=op (uf o6 1 (frQ c ps).length):=λop=>H9.load (k:=4) (i:=0+0) rfl rfl;have l1:∀ op:AV->OP,zH (.ptr b3 (0+1)) h9 op=op (uf o7 1 rb.length):=λop=>H9.load (k:=4) (i:=0+1) rfl rfl;simp only [l0,l1,zF];refine H9.appN (k:=2) (o:=o6) (c:=1) (new:=[I (c:Int)]) rfl (jr.rd (l:=[I (c:Int)]) (n:=1) (H9.own _ (Zai ..)) rfl) rfl rfl (by decide) (by decide) (by omega) λo6' h10 A10 _ H10 => ?_;have l0:∀ op:AV->OP,zH (.ptr b3 (0+0)) h10 op=op (uf o6 1 (frQ c ps).length):=λop=>H10.load (k:=4) (i:=0+0) rfl rfl;have l1:∀ op:AV->OP,zH (.ptr b3 (0+1)) h10 op=op (uf o7 1 rb.length):=λop=>H10.load (k:=4) (i:=0+1) rfl rfl;simp only [l0,l1,zF];refine H10.qw (l:=[rwV n ib]) rfl λtb h11 A11 H11 => ?_;have l0:∀ op:AV->OP,zH (.ptr b3 (0+0)) h11 op=op (uf o6 1 (frQ c ps).length):=λop=>H11.load (k:=5) (i:=0+0) rfl rfl;have l1:∀ op:AV->OP,zH (.ptr b3 (0+1)) h11 op=op (uf o7 1 rb.length):=λop=>H11.load (k:=5) (i:=0+1) rfl rfl;simp only [l0,l1,zF];refine H11.appN (k:=4) (o:=o7) (c:=1) (new:=[rwV n ib]) rfl (jr.rd (l:=[rwV n ib]) (n:=1) (H11.own _ (Zai ..)) rfl) rfl rfl (by decide) (by decide) (by omega) λo7' h12 A12 _ H12 => ?_;refine H12.store (k:=5) rfl (by simp) (zbp _ _ _) λh13 H13 => ?_;refine H13.store (k:=5) rfl (by simp) (zbp _ _ _) λh14 H14 => ?_;have H15:Hp h h14 A12 (.arr ib c1::.gro o6' 1 ((frQ c ps).length+1) (((frQ c ps).map λp=>I ((p:Nat):Int))++[I (c:Int)])::.gro o7' 1 (rb.length+1) (rb.map (rwV n)++[rwV n ib])::.arr b3 [uf o6' 1 ((frQ c ps).length+1),uf o7' 1 (rb.length+1)]::(List.zipWith Ob.arr rb cb++SL n o4 o5 rs cs ps T)):=H14.drop.drop;have H16:=H15.perm zoc;rw [F38.zwx,jg (by omega)];refine hR2 (m2-1) _ _ _ _ _ _ _ _ _ _ _ _ _ (by omega) ⟨c+1,o6',o7',rb++[ib],cb++[c1],by congr 1,by omega,?_,H16.cast ?_⟩
  .rw [hfs,Zbi];exact S2.add hc1
  .rw [hfs,zl8 (by rw [S2.lr,S2.lc])];simp only [Zag,Zbi,Zbw,Zdh,List.map_nil]
 have hx0:lines[0]? = some (lines.getD 0 []):=uA (by omega);have hxi:lines[i]? = some (lines.getD i []):=uA ci;have hm1:=hll _ (yI (d:=[]) (show 0<lines.length by omega));have hmi:=hll _ (yI (d:=[]) ci);obtain ⟨t,ht,hd⟩:=hS.den (by omega);obtain ⟨M,hMe⟩:∃ M,M=HB:=⟨_,rfl⟩;rw [<- hMe] at ht hd;have hMS:M<=861979:=by rw [hMe];exact Zaf _
 obtain ⟨N,hNe⟩:∃ N,N=M+Q.length*M:=⟨_,rfl⟩;have hNS:N<=10343748:=by
  have h1:=Zbl (show Q.length<=11 by omega) hMS;omega
 have hMN:M<=N:=by rw [hNe];exact Nat.le_add_right _ _
 have hA2:2*(N*M)<=9223372036854775807:=by have:=Zbl hNS hMS;omega
 have hA3:N*N<=9223372036854775807:=by have:=Zbl hNS hNS;omega
 have hA4:M*M<=9223372036854775807:=by have:=Zbl hMS hMS;omega
 have hA5:2*(M*(M*M))<=9223372036854775807:=by have:=Zbl hMS (Zbl hMS hMS);omega
 rw [Zac (by omega),zD,zE,zA,zJ,zA,F38.rE,sFx,l1,xu (i:=i) rfl ci,ldL (getT hxi)];refine bJ H3 (by omega) (by omega) (ziu hr ci) λr cr h4 A4 hcr H4 => ?_;have l1':∀ op:AV->OP,zH (.ptr b1 (0+1)) h4 op=op (uz lines):=λop=>H4.load (i:=0+1) (tl (X:=[Ob.arr r cr]) (vO S)) rfl;rw [zA,F38.rF,sFx,l1',xu (j:=0) (i:=0) rfl (by omega),ldL (getT hx0)];refine zl3 (by unfold ru;omega) _ _ _ _ ?_;rintro v1 f1 _;rw [rat1] at f1;rw [ldL (getT hx0)];simp only [zF,l1',sFx];rw [xu (j:=0) (i:=0) rfl (by omega)];simp only [zF];refine bJ H4 (by omega) (by omega) (ziu hr (by omega)) λr0 cr0 h5 A5 hcr0 H5 => ?_;have d01:∀ (l:List Int) (j:Nat),dh 1 (at' (sD n l) j):=λl j=>Sg.q1 (by rcases pY n l j with e | e <;> rw [e];exact .inr (.inl rfl);exact .inr (.inr rfl));have q7:∀ {j:Nat} {q:Rat},Dn (t j) M q->dh M q:=λ{j q} hq=>hq.nm (ht j).1 (ht j).2
 refine zf0 (kr:=1) (ko:=0) (M:=1) (N:=1) (P:=1) (R:=1) H5 rfl rfl (by omega) hcr hcr0 (jH _ _) (jH _ _) (by omega) f1 (Sg.q1 (.inr (.inr rfl))) (mP λj=>d01 _ j) (mP λj=>d01 _ j) (λx hx=>by
  obtain ⟨j,_,rfl⟩:=mT hx;rw [Rat.one_mul];exact d01 _ j) (by decide) (by decide) λc1 h6 A6 hc1 H6 => ?_
 have H6:=H6.drop;rw [zA,zA,F38.rC,H6.oH (k:=2) rfl,zJ];refine F38.qa3 (λm x20 h' A'=>∃ (k:Nat) (c:List AV) (q:List Rat),x20=I (k:Int)/\m+k=Q.length/\sF c q/\Rvq n t M Q ps (aS n lines i) k q/\Hp h h' A' ([.arr r c]++SL n o4 o5 rs cs ps T)) (m:=Q.length) (by omega) ⟨0,c1,_,rfl,rfl,hc1,Rvq.zero (λj=>(ht j).2) (dP ..) (m7 n lines i),H6⟩ ?_;rintro m2 y8 y9 y20 y21 h7 A7 R2 ⟨k,c,q,rfl,hmk,hcq,hrk,H7⟩ hR2;rw [F38.t20,zA,F38.qz,yu,zA,zB,F38.v21];by_cases ck:k<Q.length
 .have hpk:ps[k]? = some (ps.getD k 0):=uA (by omega);have hpn:=hS.rng _ (Zad hpk);obtain ⟨rk,hrk0,hob⟩:=S.ob (n:=n) (o4:=o4) (o5:=o5) (ps:=ps) (T:=T) ck [.arr r c];obtain ⟨id5,g5,d5⟩:=H7.zdj (k:=2) (j:=k) rfl (show (ps.map λp=>I ((p:Nat):Int))[k]? = some (I ((ps.getD k 0:Nat):Int)) by rw [Zgw,hpk];rfl);obtain ⟨id4,g4,d4⟩:=H7.zdj (k:=1) (j:=k) rfl (show (rs.map (rwV n))[k]? = some (rwV n rk) by rw [Zgw,hrk0];rfl);obtain ⟨cs2,e1,e2,_,fv⟩:=hcq.get (uU (q:=q) (j:=ps.getD k 0) (by rw [hrk.len];exact hpn));have hkN:M+k*M<=N:=by rw [hNe];have:=Zbk M (show k<=Q.length by omega);omega
  have hb:Sg (at' q (ps.getD k 0)):=by rw [hrk.late k (Zaf _) ck];exact m7 ..
  rw [Zac (by omega),zD,zE,zA,zJ,zA,F38.rX,g5,d5,F38.tF,oL (j:=ps.getD k 0) rfl hpn,H7.um (k:=0) rfl e2 e1,g4,d4]
  refine zf0 (kr:=0) (ko:=[Ob.arr r c].length+(k+2)) (M:=1) (N:=M) (P:=N) (R:=M) H7 rfl hob (by show 1+(k+2)≠0;omega) hcq (S.row k ck) hrk.len (hS.row _ (yI ck)) (by omega) fv hb.q1 (mP λj=>((hrk.den j).mono hkN).nm (ht j).1 (Zbe (ht j).2 hMN)) (mP λj=>q7 (hd _ (yI ck) j)) (λx hx=>by
   obtain ⟨j,_,rfl⟩:=mT hx;exact q7 (hb.mul (hd _ (yI ck) j))) (by omega) hA2 λc' h8 A8 hc' H8 => ?_
  rw [F38.rG,jg (by omega)];exact hR2 (m2-1) _ _ _ _ _ _ (by omega) ⟨k+1,c',_,by congr 1,by omega,hc',hrk.next hS hd (m7 n lines i) ck,H8⟩
 obtain rfl:k=Q.length:=by omega
 rw [Zab (by omega),zC,zY,yD,zA,F38.zad,xg (by omega),zA,zJ];have hq0:∀ f,Mgf n lines f->dot q f=0:=λf hfm=>by
  rw [hrk.eq,zcg (n:=n) _ _ (λx hx => ?_) (dP ..),zsq hfm ci];have hz:=Zfc (Zbn hx);exact ⟨hS.row _ hz.1,hdot f hfm _ hz.1⟩
 have hqr:∀ f:List Rat,(∀ q∈Q,dot q f=0)->dot q f=dot (aS n lines i) f:=λf hf=>by
  rw [hrk.eq,zcg (n:=n) _ _ (λx hx => ?_) (dP ..)];have hz:=Zfc (Zbn hx);exact ⟨hS.row _ hz.1,hf _ hz.1⟩
 refine F38.zgf (λm x10 h' A'=>∃ z:Int,x10=I z /\ -1<=z/\z<(n:Int)/\(m:Int)=z+1/\(∀ b:Nat,z<(b:Int)->at' q b=0)/\h'=h7/\A'=A7) (m:=n) (by omega) ⟨(n:Int)-1,rfl,by omega,by omega,by omega,λb hb=>gG (by rw [hrk.len];omega),rfl,rfl⟩ ?_;rintro m3 w10 w22 h8 A8 R3 ⟨z,rfl,hz1,hz2,hmz,hzb,rfl,rfl⟩ hR3;rw [F38.t30,zA,zA,F38.zoy,F38.zaf,F38.zeu,bq];by_cases cz:0<=z
 case neg =>
  rw [Zab (by omega)];simp only [yY,zbs,cJ];rw [F38.zdo,F38.zaa];simp only [yY,zW];rw [zB,F38.v22,zC,zY,yD,zA,zA,F38.zwv,yu,Zac (by omega),zB,F38.v23,zD,zY,yD,F38.zww,jg (by omega)];rw [hT] at H7
  exact hR (m-1) _ _ _ _ _ _ _ _ _ _ _ _ _ _ _ _ _ _ _ _ _ (by omega) ⟨i+1,o4,o5,rs,cs,Q,ps,O,rfl,rfl,by congr 1,by omega,by omega,by omega,by omega,S,hS,hdot,λi' hi f hf hk=>by
   by_cases e:i'=i
   .rw [e,<- hqr f hk];exact d7 _ _ λb=>hzb b (by omega)
   .exact hcv i' (by omega) f hf hk,H7.drop⟩
 obtain ⟨j,rfl⟩:∃ j:Nat,z=(j:Int):=⟨z.toNat,by omega⟩;have hjn:j<n:=by omega
 obtain ⟨cs2,e1,e2,_,fv⟩:=hcq.get (uU (q:=q) (j:=j) (by rw [hrk.len];exact hjn));rw [Zac (by omega)];simp only [yN,zfx];rw [oL (j:=j) rfl hjn,H7.um (k:=0) rfl e2 e1];refine cY fv _ _ _ _ ?_;rintro _ rfl _;rw [F38.zdo,F38.zaa];simp only [yN,zT,qf];rw [zB,F38.v22];by_cases hv:at' q j=0
 .rw [Zac (sP.2 (Zcp.2 hv)),zD,zE,zJ,F38.zac,xg (by omega)]
  exact hR3 (m3-1) _ _ _ _ (by omega) ⟨(j:Int)-1,rfl,by omega,by omega,by omega,λb hb=>by
   by_cases e:b=j
   .rw [e];exact hv
   .exact hzb b (by omega),rfl,rfl⟩
 rw [Zab (λw=>hv (Zcp.1 (sP.1 w))),zC,zY,yD,zA,zA,F38.zwv,yu,Zab (by omega),zB,F38.v23,zC,zE,zA,F38.zoz,oL (j:=j) rfl hjn,H7.um (k:=0) rfl e2 e1];have hrd:∀ b,Dn (t b) N (at' q b):=λb=>by rw [hNe];exact hrk.den b
 obtain ⟨s,s1,sN,dinv,dmul⟩:=zvv (ht j).1 hv (hrd j);have hqs:∀ b,dh N (at' q b):=λb=>(hrd b).nm (ht b).1 (Zbe (ht b).2 hMN);refine zn6 fv hv _ _ _ _ ?_;rintro v2 f2 _;refine zsn (kr:=0) (M:=N) (N:=N) H7 rfl hcq hrk.len (by omega) f2 ((dinv.mono (Zbe (ht j).2 hMN)).nm s1 sN) (mP hqs) hA3 λc2 h9 A9 hc2 H9 => ?_;have H9:Hp h h9 A9 ([.arr r c2]++SL n o4 o5 rs cs ps T):=H9;have hNw:Nv n Q ps j (jE (at' q j)⁻¹ q):=by
  refine ⟨by rw [wH];exact hrk.len,by rw [xU];grind,λb hb=>by rw [xU,hrk.done b hb hb,Zce],hjn,λb hb=>by rw [xU,hzb b (by omega),Zce]⟩
 have hqk:∀ f:List Rat,f.length=n->(∀ q∈Q,dot q f=0)->dot (aS n lines i) f=0->dot (jE (at' q j)⁻¹ q) f=0:=λf _ hf h0=>by
  rw [qB,hqr f hf,h0,Zbo]
 have hqb:∀ f:List Rat,(∀ q∈Q,dot q f=0)->dot (jE (at' q j)⁻¹ q) f=0->dot (aS n lines i) f=0:=λf hf h0=>by
  rw [qB] at h0;rw [<- hqr f hf];grind
 have hq2:∀ f,Mgf n lines f->dot (jE (at' q j)⁻¹ q) f=0:=λf hfm=>by rw [qB,hq0 f hfm,Zbo]
 obtain ⟨q2,hq2e⟩:∃ q2,q2=jE (at' q j)⁻¹ q:=⟨_,rfl⟩;rw [<- hq2e] at hc2 hNw hq2 hqk hqb;have hnl:(qI Q j q2).length=Q.length:=by unfold qI;rw [Zae]
 obtain ⟨t2,ht2,hd2⟩:=(hS.next hNw (dP ..) (m7 n lines i) hqk).den (by rw [Zag,hnl,Zbw];omega);rw [<- hMe] at ht2 hd2;have hd3:∀ b,Dn (t2 b) M (at' q2 b):=λb=>hd2 q2 (by simp) b;rw [zA,zA,F38.zo0,H9.oH (k:=1) rfl,zJ];refine F38.zo4 (λm x26 h' A'=>∃ (k:Nat) (cs':List (List AV)),x26=I (k:Int)/\m+k=Q.length/\SM rs cs' ((qI Q j q2).take k++Q.drop k)/\Hp h h' A' ([.arr r c2]++SL n o4 o5 rs cs' ps T)) (m:=Q.length) (by omega) ⟨0,cs,rfl,rfl,by rw [Zdj,Zbf,Zcw];exact S,H9⟩ ?_;rintro m4 u11 u26 u27 h10 A10 R4 ⟨k,cs',rfl,hmk4,S',H10⟩ hR4;have hml:((qI Q j q2).take k++Q.drop k).length=Q.length:=by rw [Zag,Zaj,Zcl];omega
 have hrl:=S.lr;rw [F38.t47,zA,F38.zgo,yu,zA,zB,F38.v27];by_cases ck:k<Q.length
 .have hQk:Q[k]? = some (Q.getD k []):=uA ck;have hmk:((qI Q j q2).take k++Q.drop k)[k]? = some (Q.getD k []):=qdq hnl hQk;have hmg:((qI Q j q2).take k++Q.drop k).getD k []=Q.getD k []:=by rw [Zaa,hmk];rfl
  have hnk:(qI Q j q2)[k]? = some (jZ (at' (Q.getD k []) j) (Q.getD k []) q2):=by unfold qI;rw [Zgw,hQk];rfl
  obtain ⟨rk,hrk0,hob⟩:=S'.ob (n:=n) (o4:=o4) (o5:=o5) (ps:=ps) (T:=T) (by rw [hml];exact ck) [.arr r c2];have hrow:=S'.row k (by rw [hml];exact ck);rw [hmg] at hrow;obtain ⟨id4,g4,d4⟩:=H10.zdj (k:=1) (j:=k) rfl (show (rs.map (rwV n))[k]? = some (rwV n rk) by rw [Zgw,hrk0];rfl);have hok:=hS.row _ (yI (d:=[]) ck);obtain ⟨cs3,e3,e4,_,fo⟩:=hrow.get (uU (q:=Q.getD k []) (j:=j) (by rw [hok];exact hjn));rw [Zac (by omega),zD,zE,zA,zJ,zA,F38.zo1,g4,d4,F38.zo2,oL (j:=j) rfl hjn,H10.um hob e4 e3]
  refine zf0 (kr:=[Ob.arr r c2].length+(k+2)) (ko:=0) (M:=M) (N:=M) (P:=M) (R:=M*M) H10 hob rfl (by show 0≠1+(k+2);omega) hrow hc2 hok hNw.len (by omega) fo (q7 (hd _ (yI ck) j)) (mP λb=>q7 (hd _ (yI ck) b)) (mP λb=>(hd3 b).nm (ht2 b).1 (ht2 b).2) (λx hx=>by
   obtain ⟨b,_,rfl⟩:=mT hx;exact ((hd _ (yI ck) j).mul (hd3 b)).nm (Nat.mul_pos (ht j).1 (ht2 b).1) (Zbl (ht j).2 (ht2 b).2)) hA4 hA5 λc' h11 A11 hc' H11 => ?_
  obtain ⟨S2,eL⟩:=S'.put (n:=n) (o4:=o4) (o5:=o5) (ps:=ps) (T:=T) (by rw [hml];exact ck) hrk0 hc' [.arr r c2];rw [F38.zo3,jg (by omega)];exact hR4 (m4-1) _ _ _ _ _ (by omega) ⟨k+1,cs'.set k c',by congr 1,by omega,by rw [<- zsp hnl hnk];exact S2,H11.cast eL⟩
 obtain rfl:k=Q.length:=by omega
 rw [Zan (by omega),Zbg (by omega),Zbh] at S';rw [Zab (by omega),zC,zY,yD,F38.zo5];refine H10.qw (l:=[rwV n r]) rfl λtb h11 A11 H11 => ?_;refine H11.appN (k:=2) (o:=o4) (c:=1) (new:=[rwV n r]) rfl (jr.rd (l:=[rwV n r]) (n:=1) (H11.own _ (Zai ..)) rfl) rfl rfl (by decide) (by decide) (by omega) λo4' h12 A12 _ H12 => ?_;refine H12.qw (l:=[I (j:Int)]) rfl λtb2 h13 A13 H13 => ?_;refine H13.appN (k:=4) (o:=o5) (c:=1) (new:=[I (j:Int)]) rfl (jr.rd (l:=[I (j:Int)]) (n:=1) (H13.own _ (Zai ..)) rfl) rfl rfl (by decide) (by decide) (by omega) λo5' h14 A14 _ H14 => ?_;have H15:Hp h h14 A14 (.arr r c2::.gro o4' 1 (rs.length+1) (rs.map (rwV n)++[rwV n r])::.gro o5' 1 (ps.length+1) ((ps.map λp=>I ((p:Nat):Int))++[I (j:Int)])::(List.zipWith Ob.arr rs cs'++T)):=H14.drop.drop;have H16:=H15.perm zso;have eL:(.gro o4' 1 (rs.length+1) (rs.map (rwV n)++[rwV n r])::.gro o5' 1 (ps.length+1) ((ps.map λp=>I ((p:Nat):Int))++[I (j:Int)])::((List.zipWith Ob.arr rs cs'++[Ob.arr r c2])++T))=SL n o4' o5' (rs++[r]) (cs'++[c2]) (ps++[j]) T:=by
  unfold SL;rw [zl8 (by rw [S'.lr,S'.lc]),Zag,Zag,Zbi,Zbi];rfl
 have H17:=H16.cast eL;rw [hT] at H17;rw [F38.zww,jg (by omega)];refine hR (m-1) _ _ _ _ _ _ _ _ _ _ _ _ _ _ _ _ _ _ _ _ _ (by omega) ⟨i+1,o4',o5',rs++[r],cs'++[c2],qI Q j q2++[q2],ps++[j],O++[aS n lines i],by rw [Zag];rfl,by rw [Zag];rfl,by congr 1,by omega,by omega,by omega,by rw [Zag,hnl,Zbw];omega,S'.add hc2,hS.next hNw (dP ..) (m7 n lines i) hqk,λf hfm q' hq' => ?_,λi' hi f hf hk => ?_,H17⟩
 .rcases Zbb.1 hq' with hq' | hq'
  .obtain ⟨o,ho,rfl⟩:=Zao.1 hq';rw [gZ _ _ _ _ (by rw [hS.row o ho,hNw.len]),hdot f hfm o ho,hq2 f hfm,Zbo];grind
  .obtain rfl:=Zba.1 hq';exact hq2 f hfm
 .have h2:=hk q2 (by simp);have h3:∀ o∈Q,dot o f=0:=λo ho=>by
   have:=hk _ (Zcr _ (Zgh (f:=λo=>jZ (at' o j) o q2) ho));rw [gZ _ _ _ _ (by rw [hS.row o ho,hNw.len]),h2,Zbo] at this
   grind
  by_cases e:i'=i
  .rw [e];exact hqb f h3 h2
  .exact hcv i' (by omega) f hf h3
end Go.Ev
namespace Go.Ev
open Go Go.Proofs
theorem Sv.nodup {n:Nat} {O Q:List (List Rat)} {ps:List Nat} (hS:Sv n O Q ps):ps.Nodup:=by
 rw [List.nodup_iff_pairwise_ne,Zca];intro a b ha hb hab e;have ha':a<Q.length:=by have:=hS.len;omega
 have hb':b<Q.length:=by have:=hS.len;omega
 have h1:=hS.one a a ha' ha';have h2:=hS.one a b ha' hb';have e1:ps.getD a 0=ps[a]:=by rw [Zaa,Zgu ha];rfl
 have e2:ps.getD b 0=ps[b]:=by rw [Zaa,Zgu hb];rfl
 rw [if_pos rfl,e1] at h1;rw [if_neg (by omega),e2,<- e,h1] at h2;exact absurd h2 (by decide)
theorem zef {n c i:Nat} {O Q:List (List Rat)} {ps:List Nat} (hS:Sv n O Q ps) (hi:i<Q.length):∀ k,k<=Q.length->sumA c (Q.getD i []) ((oM Q ps).take k)=if i<k then at' (Q.getD i []) c else 0
 | 0,_=>by rw [Zdj,if_neg (by omega)];rfl
 | k+1,hk=>by
  rw [cG hS.len (by omega),zed,zef hS hi k (by omega),hS.one i k hi (by omega)];by_cases e:i=k
  .subst e;rw [if_neg (by omega),if_pos rfl,if_pos (by omega)];grind
  .rw [if_neg e];by_cases c:i<k
   .rw [if_pos c,if_pos (by omega)];grind
   .rw [if_neg c,if_neg (by omega)];grind
theorem zvw {n c:Nat} {O Q:List (List Rat)} {ps:List Nat} (hS:Sv n O Q ps) (hc:c<n) (hcp:c∉ps):∀ q∈Q,dot q (oo n Q ps c)=0:=λq hq=>by
 obtain ⟨i,hi⟩:=Zau.1 hq;have hil:=(Zgv.1 hi).1;have hqi:Q.getD i []=q:=by rw [Zaa,hi];rfl
 have hg:=hS.row q hq
 have h2:=zir (c:=c) hg (oM Q ps) (kL n c) (gT n c) (by rw [zvt hS.len];exact hS.nodup) (λx hx=>by
  have hx2:=(Zfc hx).2;exact ⟨hS.rng _ hx2,zf2 λe=>hcp (e ▸ hx2)⟩)
 have h3:=zef (c:=c) hS hil Q.length (Zaf _);have hlz:(oM Q ps).length=Q.length:=by unfold oM;rw [List.length_zip,hS.len,Nat.min_self]
 rw [Zan (by omega),hqi,if_pos hil] at h3;rw [zss hg hc,h3] at h2;rw [gE];unfold oo
 grind
theorem zvx {R Bd r:Nat} (hr:r<=R) (hB:(R+1) ^ R<(Bd+1)*(Bd+1)) (a:Nat->Nat->Int) (ha:∀ i j,a i j = -1\/a i j=0\/a i j=1):∃ x:Nat->Int,(∃ j,j<=r/\x j≠0)/\(∀ j,(x j).natAbs<=Bd)/\∀ i,i<r->sI (r+1) (λj=>a i j*x j)=0:=by
 obtain ⟨x,hx,⟨j,hj⟩,hs,hk⟩:=hada (n:=r+1) (B:=((r+1:Nat):Int)) (by omega) ((List.range r).map λi=>(List.range (r+1)).map (a i)) (λb hb=>by
  obtain ⟨i,_,rfl⟩:=Zao.1 hb;refine ⟨by simp,?_⟩;have:=zsw ((List.range (r+1)).map (a i)) λy hy=>by
   obtain ⟨j,_,rfl⟩:=Zao.1 hy;exact ha i j
  simpa using this) (by simp)
 have hxe:x=(List.range (r+1)).map λj=>x.getD j 0:=by
  refine Zef (by simp [hx]) λi h1 h2 => ?_;simp [Zaa,h1]
 refine ⟨λj=>x.getD j 0,⟨j,?_,hj⟩,λj => ?_,λi hi => ?_⟩
 .refine Classical.byContradiction λc=>hj ?_;rw [Zaa,Zgz (by omega)];rfl
 .have h1:=zf5 x j;rw [Zae,Zdf] at hs;have h2:(r+1) ^ r<=(R+1) ^ R:=Zbe (Nat.pow_le_pow_left (show r+1<=R+1 by omega) r) (Zec (by omega) hr);have h3:(((r+1:Nat):Int)) ^ r=(((r+1) ^ r:Nat):Int):=by simp
  rw [h3] at hs;show (x.getD j 0).natAbs<=Bd;refine Zfs λc => ?_;have h5:=Zbl (show Bd+1<=(x.getD j 0).natAbs from c) (show Bd+1<=(x.getD j 0).natAbs from c);have h6:=Zgg (a:=x.getD j 0);omega
 .have:=hk _ (Zao.2 ⟨i,Zay.2 hi,rfl⟩);rw [hxe,bR] at this;exact this
abbrev colF (k:Nat) (ps:List Nat) (j i:Nat):Nat:=if i<k then ps.getD i 0 else j
theorem qR {k i:Nat} {F x:Nat->Rat} (h:∀ b,b<k->F b=(if i=b then 1 else 0)*x b):sR k F=if i<k then x i else 0:=by
 rw [jF h,zf7]
theorem wV {k:Nat} {F:Nat->Rat} (h:∀ b,b<k->F b=0):sR k F=0:=by
 rw [qR (i:=k) (x:=F) λb hb=>by rw [h b hb,if_neg (by omega),Zce],if_neg (Zct _)]
theorem qds {z w:Int} {q:Rat} {M:Nat} (e:q*(w:Rat)=(z:Rat)) (hz:z.natAbs<=M):Dn w.natAbs M q:=by
 by_cases s:0<w
 .exact ⟨z,by rw [show ((w.natAbs:Nat):Int)=w by omega];exact e,hz⟩
 .exact ⟨-z,by rw [show ((w.natAbs:Nat):Int) = -w by omega,Zcz,Zcz];grind,by omega⟩
end Go.Ev
namespace Go.Ev
section
variable {σ α:Type}
end
end Go.Ev
namespace Go.Ev
open Go Go.Proofs
noncomputable def nonJ:Nat->List AV->T Blk->Option (AV×T Blk):=λ_ _ _=>none
theorem zvy {P:Program} {B:Nat}:JOk P B nonJ:=λ_ _ hk=>by cases hk
noncomputable def zsy (f:Nat) (args:List AV) (res:AV):Bool:=match (d8 (λ_=>false) nonJ tbl 1000 60).fn f (.of f) args .e .z endK with
 | .ok v=>aX v res
 | .no _=>false
theorem zkz {f:Nat} {args:List AV} {res:AV} {B:Nat} (ha:nns args=true) (h:zsy f args res=true):Pure Tryz.prog B f args (· = res):=by
 unfold zsy at h;cases hq:(d8 (λ_=>false) nonJ tbl 1000 60).fn f (.of f) args .e .z endK with
 | no n=>rw [hq] at h;cases h
 | ok v =>
  rw [hq] at h;have e:=dF h;subst e;exact vZ zR mixed (λ_=>zvy) ha hq
end Go.Ev
namespace Go.Ev
open Go Go.Proofs
variable {B:Nat}
set_option maxRecDepth 100000
def IsNd (u d:Nat):Prop:=1<=d/\d<=20/\u<10 ^ d/\10 ^ (d-1)<=u
def decN (d u:Nat):List UInt8:=(List.range d).map λi=>UInt8.ofNat (48+u / 10 ^ (d-1-i)%10)
def NdOk (u d:Nat):Prop:=IsNd u d\/u=0/\d=1
theorem qaf:∀ x<10,UInt8.ofNat (48+x)=dch x:=by decide +kernel
theorem zof (d u:Nat):decN (d+1) u=decN d (u / 10)++[dch (u%10)]:=by
 unfold decN;rw [Zga,Zbi]
 congr 1
 .refine Zdg λi hi => ?_;have:=Zay.1 hi;rw [show d+1-1-i=d-1-i+1 by omega,Zdu,Zdb,<- Nat.div_div_eq_div_mul]
 .rw [List.map_singleton,show d+1-1-d=0 by omega,Nat.pow_zero,Nat.div_one,qaf _ (Zdr _ (by decide))]
theorem zsz:∀ (d u:Nat),u<10 ^ d->(d=0\/10 ^ (d-1)<=u)->decN d u=gq u 0
 | 0,u,h,_=>by
  obtain rfl:u=0:=by simpa using h
  unfold gq;rw [zd4];rfl
 | d+1,u,h,h2=>by
  have h3:10 ^ d<=u:=by rcases h2 with q | q;omega;simpa using q
  have h4:0<10 ^ d:=Zgj (by decide);rw [Zdu] at h
  rw [zof,zsz d (u / 10) (Nat.div_lt_of_lt_mul (by rw [Zdb];exact h)) (by
   cases d with
   | zero=>exact .inl rfl
   | succ d =>
    right
    rw [Zdu] at h3;exact (Nat.le_div_iff_mul_le (by decide)).2 h3)]
  unfold gq;rw [zd3 (y:=u) (.inl (by omega)),Zfn,Zbi];rfl
theorem zs1 {u d:Nat} (h:NdOk u d):decN d u=gq u 1:=by
 rcases h with ⟨h1,h2,h3,h4⟩ | ⟨rfl,rfl⟩
 .have hu:u≠0:=λe=>by
   have:0<10 ^ (d-1):=Zgj (by decide);omega
  rw [zsz d u h3 (.inr h4)];unfold gq;rw [xZ hu];unfold rP;rw [Nat.zero_sub,List.replicate_zero,Zbh]
 .rw [vI];rfl
def txS (z:Int):List UInt8:=(if z<0 then [45] else [])++decN (if z.natAbs<10 then 1 else 2) z.natAbs
theorem qag {z:Int} (hz:z.natAbs<100):txS z=dx z:=by
 have h:NdOk z.natAbs (if z.natAbs<10 then 1 else 2):=by
  by_cases c:z.natAbs<10
  .rw [if_pos c];by_cases c0:z.natAbs=0
   .exact .inr ⟨c0,rfl⟩
   .exact .inl ⟨by omega,by omega,by omega,by omega⟩
  .rw [if_neg c];exact .inl ⟨by omega,by omega,by omega,by omega⟩
 rw [txS,zs1 h,dx]
noncomputable def okI:Bool:=(List.range 199).all λk=>zsy 222 [I ((k:Int)-99)] (.str (txS ((k:Int)-99)))
theorem qah:okI=true:=by kernel_rfl
theorem qdt {z:Int} (hz:z.natAbs<100):Pure Tryz.prog B 222 [I z] (· = .str (dx z)):=by
 have:=Zaw.1 qah (z+99).toNat (Zay.2 (by omega));rw [show (((z+99).toNat:Nat):Int)-99=z by omega,qag hz] at this;exact zkz rfl this
theorem zf9 {v:AV} {z:Int} (hv:ql v z) (hz:z.natAbs<100):Pure Tryz.prog B 187 [v] (· = .str (dx z)):=by
 obtain ⟨s,w,rfl,rfl,rfl,hv⟩:=hv;refine zV λh y K H0 hK=>zL zR yK 1000 λhf => ?_;rw [mq.go,mq.t60,zA,mq.zu];refine H0.box (l:=[I z,.zb]) rfl λpa h1 y1 H1 => ?_;rw [zA,zA,mq.zo,sFx,H1.load (k:=0) (i:=0+1) rfl rfl];rw [kO,zB,mq.v12,zD,zA,mq.yt,sFx,H1.load (k:=0) (i:=0+0) rfl rfl];unfold ru at hv;refine qdt (by omega) _ _ _ _ ?_;rintro _ rfl _;simp only [zG,zQ];rw [mq.ret];exact hK _ _ _ _ _ H1 (zK rfl) rfl
theorem zeg {z:Int} (hz:z.natAbs<100):(dx z).length<=100:=by
 have h:=wS (n:=z.natAbs) (k:=3) (by omega);unfold dx;split <;> simp <;> omega
theorem qai {v:AV} {q:Rat} (hv:jR v q) (hn:q.num.natAbs<100) (hd:q.den<100):Pure Tryz.prog B 127 [v] (· = .str (jv q)):=by
 obtain ⟨s,w,s',w',rfl,i1,i2⟩:=hv;refine zV λh y K H0 hK=>zL zR yK 1000 λhf => ?_;rw [vg.go,vg.t9,zA,vg.zu];refine H0.box (l:=[s,w,s',w']) rfl λpa h1 y1 H1 => ?_;have l1:∀ op:AV->OP,zI 2 (.ptr pa (0+0)) h1 op=op (.agg [s,w]):=λop=>H1.um (k:=0) (off:=0+0) rfl (by simp) rfl;have l2:∀ op:AV->OP,zI 2 (.ptr pa (0+2)) h1 op=op (.agg [s',w']):=λop=>H1.um (k:=0) (off:=0+2) rfl (by simp) rfl;rw [zA,zA,vg.zo,H1.zi (k:=0) (n:=4) rfl rfl];refine dY ⟨_,_,_,_,rfl,i1,i2⟩ _ _ _ _ ?_;rintro _ rfl _;rw [zB,vg.v3];by_cases c:q.den=1
 .rw [Zac c,zD,zA,vg.yt,sFx,l1];refine zf9 ⟨_,_,rfl,i1⟩ hn _ _ _ _ ?_;rintro _ rfl _;simp only [zG,zQ];rw [vg.ret];exact hK _ _ _ _ _ H1 (zK rfl) (by unfold jv;rw [if_pos c,Zbh])
 .rw [Zab c,zC,zE,zA,vg.uj,sFx,l1,sFx,l2];refine zf9 ⟨_,_,rfl,i1⟩ hn _ _ _ _ ?_;rintro _ rfl _;have t1:=zeg hn;have t2:=zeg (z:=(q.den:Int)) (by omega);have a1:∀ K:AV->OP,za .add .str (.str (dx q.num)) (.str [47]) K=K (.str (dx q.num++[47])):=λK=>tCat (by simp;omega);simp only [l2,zF,sFx,a1];refine zf9 ⟨_,_,rfl,i2⟩ (by omega) _ _ _ _ ?_;rintro _ rfl _;rw [tCat (by simp;omega)];simp only [zG,zQ];rw [vg.ret];exact hK _ _ _ _ _ H1 (zK rfl) (by unfold jv;rw [if_neg c,Zcg];rfl)
theorem zs2 {n:Nat} {l:List AV} {h:T Blk} {op:AV->OP} (hl:n<=l.length):zI n (.fp l) h op=op (.agg (l.take n)):=by
 show (bif Nat.ble n l.length then op (.agg (l.take n)) else .no 8)=_;rw [Zak hl];rfl
def SmlQ (q:Rat):Prop:=q.num.natAbs<100/\q.den<100
abbrev dK (q:List Rat):List AV:=q.map λx=>.str (jv x)
theorem zs3 {n:Nat} {c:List AV} {q:List Rat} (hc:sF c q) (hn:q.length=n) (hn1:n<=1000) (hs:∀ x∈q,SmlQ x):Pure Tryz.prog B 71 [.lst 4 n c] (· = .lst 1 n (dK q)):=by
 refine zV λh y K H0 hK=>zL zR yK 2000 λhf => ?_;rw [F71.go,F71.t20,zA,F71.zu,zA,F71.zo,zS];refine H0.mkN (n:=n) (c:=n) rfl rfl (Zaf _) (by omega) (by omega) λid h1 y1 H1 => ?_;have hle:(dK q).length=(fe n [AV.str []]).length:=by rw [Zae,m9,hn];simp
 rw [zA,zA,F71.yt,zS,zJ];refine F71.eU (λm x7 h' y'=>∃ k:Nat,x7=I (k:Int)/\m+k=n/\Hp h h' y' [.arr id ((dK q).take k++(fe n [AV.str []]).drop k)]) (m:=n) (by omega) ⟨0,rfl,rfl,by rw [Zdj,Zbf,Zcw];exact H1⟩ ?_;rintro m z3 z4 z7 z8 h3 y3 R ⟨k,rfl,hm,H3⟩ hR;rw [F71.t12,zA,F71.vk,yu,zA,zB,F71.v8];by_cases ck:k<n
 .obtain ⟨cs,e1,e2,_,fv⟩:=hc.get (uU (q:=q) (j:=k) (by omega));have hx:(dK q)[k]? = some (.str (jv (at' q k))):=by rw [Zgw,uU (by omega)];rfl
  have sm:=hs (at' q k) (Zad (uU (q:=q) (j:=k) (by omega)));have hlen:((dK q).take k++(fe n [AV.str []]).drop k).length=n:=by
   rw [Zag,Zaj,Zcl,Zae,m9];simp;omega
  rw [Zac (by omega),zD,zE,zA,zJ,zA,F71.dz,zx1 (j:=k) rfl ck,zs2 (by rw [Zcl];omega),e1];refine H3.alloc λb h4 y4 H4 => ?_;have hcl:∃ a b' c' d',cs=[a,b',c',d']:=by
   obtain ⟨s,w,s',w',e,_⟩:=fv;exact ⟨s,w,s',w',AV.agg.inj e⟩
  obtain ⟨a1,a2,a3,a4,rfl⟩:=hcl;refine H4.jc (l2:=[a1,a2,a3,a4]) (k:=0) rfl rfl rfl λh5 H5 => ?_;rw [F71.uj,H5.zi (k:=0) (n:=4) rfl rfl];refine qai fv sm.1 sm.2 _ _ _ _ ?_;rintro _ rfl _;rw [qZ ck,Zcn];refine H5.store (k:=1) rfl (by rw [Zbd,hlen];exact ck) rfl λh6 H6 => ?_;rw [Zbd] at H6;have H6:Hp h h6 y4 (.arr b [a1,a2,a3,a4]::[.arr id (((dK q).take k++(fe n [AV.str []]).drop k).set k (.str (jv (at' q k))))]):=H6;rw [zsp hle hx] at H6;rw [F71.rF,jg (by omega)];exact hR (m-1) _ _ _ _ _ _ (by omega) ⟨k+1,by congr 1,by omega,H6.drop⟩
 .obtain rfl:k=n:=by omega
  rw [Zan (by rw [Zae];omega),Zbg (by rw [m9];simp),Zbh] at H3;rw [Zab (by omega),zC,zY,yD,zA,F71.rU];simp only [zG,zQ];rw [F71.ret];exact hK _ _ _ _ _ H3 (H3.zbm (k:=0) rfl (Zaf _) (by rw [Zae];omega) (λv hv=>by obtain ⟨x,_,rfl⟩:=Zao.1 hv;rfl)) rfl
theorem zk0 {v:AV} {z:Int} (hv:ql v z):Pure Tryz.prog B 193 [v] (· = .tup [.bool (decide (z<0)),encW (if z=0 then [] else [z.natAbs])]):=by
 obtain ⟨s,w,rfl,rfl,rfl,hv⟩:=hv;unfold ru at hv;refine zV λh y K H0 hK=>zL zR yK 100 λhf => ?_;rw [qh.go,qh.t15,zA,qh.zu];refine H0.box (l:=[I z,.zb]) rfl λpa h1 y1 H1 => ?_;rw [zA,zJ,zA,qh.zo,sFx,H1.load (k:=0) (i:=0+1) rfl rfl,zsf,zB,qh.v4,zC,zA,qh.nY,sFx,H1.load (k:=0) (i:=0+0) rfl rfl,qf,zB,qh.v5];by_cases c:z=0
 .rw [Zac c,zD,zA,qh.dz];simp only [zG,kV,zQ];rw [qh.ret];refine hK _ _ _ _ _ H1 (jI (zK rfl) (.oQ 1)) ?_;subst c;rfl
 rw [Zab c,zC,zE];rw [zA,qh.nZ,sFx,H1.load (k:=0) (i:=0+0) rfl rfl,yu,sFx,H1.load (k:=0) (i:=0+0) rfl rfl];refine zfs (by omega) _ _ _ _ ?_;rintro _ rfl _;simp only [yu,zF,sFx,H1.load (k:=0) (i:=0+0) rfl rfl];refine H1.qw (l:=[U z.natAbs]) rfl λtb h2 y2 H2 => ?_;simp only [yu,zF,sFx,H2.load (k:=1) (i:=0+0) rfl rfl];simp only [zG,kV,zQ];rw [qh.ret];refine hK _ _ _ _ _ H2 (jI (zK rfl) (H2.zbm (k:=0) (cap:=some 1) (n:=1) (e:=1) rfl (Zaf _) rfl (λv hv=>by rw [Zba.1 hv];rfl))) ?_;rw [if_neg c];rfl
theorem zog {v:AV} {z:Int} (hv:ql v z):Pure Tryz.prog B 185 [v] (λv=>∃ n:Nat,v=I (n:Int)/\n<=64):=by
 have hv0:=hv;obtain ⟨s,w,rfl,rfl,rfl,hv⟩:=hv;unfold ru at hv;refine zV λh y K H0 hK=>zL zR yK 100 λhf => ?_;rw [jm.go,jm.t11,zA,jm.zu];refine H0.box (l:=[I z,.zb]) rfl λpa h1 y1 H1 => ?_;rw [zA,jm.zo,H1.zi (k:=0) (n:=2) rfl rfl];refine zk0 hv0 _ _ _ _ ?_;rintro _ rfl _;rw [yZ,jC,zA,zA,jm.yt,uLen,qf,zB,jm.v4];by_cases c:z=0
 .rw [if_pos c,Zac (by rfl),zD,zA,jm.vk];simp only [zG,zQ];rw [jm.ret];exact hK _ _ _ _ _ H1 (zK rfl) ⟨0,rfl,by omega⟩
 .rw [if_neg c,Zab (by simp),zC,zE,zA,jm.ng,jm.r4_0,jm.zes,uLen,xg (by simp),nk (by simp),uLen,xg (by simp),jm.r4_1,jm.zet,uIx (i:=0) (by simp) (by simp),uLd (x:=z.natAbs) rfl];refine zzx (by omega) _ _ _ _ ?_;rintro _ ⟨n,rfl,hn⟩ _;have hn64:n<=64:=hn.1;rw [jm.r4_2,jm.zye,jg (by simp;omega)];simp only [zG,zQ];rw [jm.ret];exact hK _ _ _ _ _ H1 (zK rfl) ⟨n,by congr 1;simp,hn64⟩
theorem zvz (op:KW3->OP) (h:T Blk) (y:Pa) (k:KW3):sGW (.bool false) false op h y k=op k:=nr rfl
theorem zeh {v:AV} {z:Int} (hv:ql v z):Pure Tryz.prog B 126 [v] (· = .bool false):=by
 have hv0:=hv;obtain ⟨s,w,rfl,hv⟩:=hv;refine zV λh y K H0 hK=>zL zR yK 100 λhf => ?_;rw [ul.go,ul.t3,zA,ul.zu];refine H0.box (l:=[s,w]) rfl λpa h1 y1 H1 => ?_;rw [zA,ul.zo,ul.sH,ul.sJ,H1.zi (k:=0) (n:=2) rfl rfl];refine zog hv0 _ _ _ _ ?_;rintro _ ⟨n,rfl,hn⟩ _;rw [ul.tO,ul.rM,kg,Zab (by omega)];simp only [yY];rw [cJ,ul.r1_2,ul.zev,cJ,ul.r1_3,ul.oD];simp only [yY,zW];simp only [zG,zQ];rw [ul.ret];exact hK _ _ _ _ _ H1 (zK rfl) rfl
theorem zk1 {v:AV} {q:Rat} (hv:jR v q):Pure Tryz.prog B 70 [v] (· = .bool false):=by
 obtain ⟨s,w,s',w',rfl,h1,h2⟩:=hv;refine zV λh y K H0 hK=>zL zR yK 100 λhf => ?_;rw [F70.go,F70.t3,zA,F70.zu];refine H0.box (l:=[s,w,s',w']) rfl λpa h1' y1 H1 => ?_;rw [zA,F70.zo,sFx,H1.um (k:=0) (l2:=[s,w]) rfl (by simp) rfl];refine zeh ⟨_,_,rfl,h1⟩ _ _ _ _ ?_;rintro _ rfl _;simp only [yJ];rw [sFx];rw [H1.um (k:=0) (l2:=[s',w']) rfl (by simp) rfl,zvz];refine zeh ⟨_,_,rfl,h2⟩ _ _ _ _ ?_;rintro _ rfl _;simp only [zW];simp only [zG,zQ];rw [F70.ret];exact hK _ _ _ _ _ H1 (zK rfl) rfl
theorem zv0 {n:Nat} {c:List AV} {q:List Rat} (hc:sF c q) (hn:q.length=n) (hn1:n<=1000) (hs:∀ x∈q,SmlQ x):Pure Tryz.prog B 125 [.lst 4 n c,.fn 70 (.of 70) []] (· = I (-1)):=by
 refine zV λh y K H0 hK=>zL zR yK 2000 λhf => ?_;rw [jl.go,jl.t22,zA,jl.zu,zA,zA,jl.zo,zS,zJ];refine jl.eT (λm x5 h' y'=>∃ k:Nat,x5=I (k:Int)/\m+k=n/\Hp h h' y' []) (m:=n) (by omega) ⟨0,rfl,rfl,H0⟩ ?_;rintro m z2 z3 z5 z6 z7 h3 y3 R ⟨k,rfl,hm,H3⟩ hR;rw [jl.t15,zA,jl.yt,yu,zA,zB,jl.v6];by_cases ck:k<n
 .obtain ⟨cs,e1,e2,_,fv⟩:=hc.get (uU (q:=q) (j:=k) (by omega));rw [Zac (by omega),zD,zE,zA,zJ,zA,jl.nY,zA,jl.dz,zx1 (j:=k) rfl ck,zs2 (by rw [Zcl];omega),e1,m5];refine zk1 fv _ _ _ _ ?_;rintro _ rfl _;rw [zB,jl.v7,zC,zE,jl.nZ,jg (by omega)];exact hR (m-1) _ _ _ _ _ _ _ (by omega) ⟨k+1,by congr 1,by omega,H3⟩
 .rw [Zab (by omega),zC,zY,yD,zA,jl.rY];simp only [zG,zQ];rw [jl.ret];exact hK _ _ _ _ _ H3 (zK rfl) rfl
theorem zv1 {n:Nat} {c:List AV} {q:List Rat} (hc:sF c q) (hn:q.length=n) (hn1:n<=1000) (hs:∀ x∈q,SmlQ x):Pure Tryz.prog B 69 [.lst 4 n c,.fn 70 (.of 70) []] (· = .bool false):=by
 intro p h y K hK;refine zL zR yK 10 λhf => ?_;rw [F69.go,F69.t3,zA,F69.zu,zA,F69.zo];refine zv0 hc hn hn1 hs _ _ _ _ ?_;rintro _ rfl hf2;rw [bq,Zab (by decide)];simp only [zG,zQ];rw [F69.ret];exact hK _ rfl hf2
abbrev zei (n:Nat) (Bs:List (List Rat)):List AV:=Bs.map λb=>.lst 1 n (dK b)
theorem zv2 {n:Nat} {cb:List (List AV)} {Bs:List (List Rat)} (hl:cb.length=Bs.length) (hr:∀ a,a<Bs.length->sF (cb.getD a []) (Bs.getD a [])) (hn:∀ b∈Bs,b.length=n) (hn1:n<=1000) (hB:Bs.length<=1000) (hs:∀ b∈Bs,∀ x∈b,SmlQ x):Pure Tryz.prog B 37 [.lst 1 Bs.length (cb.map λc=>.lst 4 n c)] (· = .tup [.lst 1 Bs.length (zei n Bs),I 0]):=by
 refine zV λh y K H0 hK=>zL zR yK 2000 λhf => ?_;have H0:=H0.ax 1;rw [F37.go,F37.t26,zA,F37.zu,zA,F37.zo,zA,zA,F37.yt,zS,zJ];refine F37.zgl (λm x3 x7 h' y'=>∃ (k:Nat) (o:Option Pa),x3=uf o 1 k/\x7=I (k:Int)/\m+k=Bs.length/\Hp h h' y' [.gro o 1 k ((zei n Bs).take k)]) (m:=Bs.length) (by omega) ⟨0,none,rfl,rfl,rfl,H0⟩ ?_;rintro m z1 z2 z3 z4 z7 z8 z9 h3 y3 R ⟨k,o,rfl,rfl,hm,H3⟩ hR;rw [F37.t18,zA,F37.vk,yu,zA,zB,F37.v8];by_cases ck:k<Bs.length
 .have hb:=yI (d:=[]) ck;have hca:cb[k]? = some (cb.getD k []):=uA (by omega);have hba:Bs[k]? = some (Bs.getD k []):=uA ck;have hx:(zei n Bs)[k]? = some (.lst 1 n (dK (Bs.getD k []))):=by rw [Zgw,hba];rfl
  rw [Zac (by omega),zD,zE,zA,zJ,zA,F37.dz,xu (i:=k) rfl ck,ldL (show (cb.map λc=>AV.lst 4 n c)[k]? = some (.lst 4 n (cb.getD k [])) by rw [Zgw,hca];rfl),zA,zA,F37.uj];refine zv1 (hr k ck) (hn _ hb) hn1 (hs _ hb) _ _ _ _ ?_;rintro _ rfl _;rw [zB,F37.v9,zC,zE,F37.qz];refine zs3 (hr k ck) (hn _ hb) hn1 (hs _ hb) _ _ _ _ ?_;rintro _ rfl _;refine H3.qw (l:=[.lst 1 n (dK (Bs.getD k []))]) rfl λtb h4 y4 H4 => ?_;refine H4.appN (k:=1) (o:=o) (c:=1) (new:=[.lst 1 n (dK (Bs.getD k []))]) rfl (jr.rd (l:=[.lst 1 n (dK (Bs.getD k []))]) (n:=1) (H4.own _ (Zai ..)) rfl) rfl rfl (by decide) (by decide) (by omega) λo' h5 y5 _ H5 => ?_;have H6:Hp h h5 y5 [.gro o' 1 (k+1) ((zei n Bs).take k++[.lst 1 n (dK (Bs.getD k []))])]:=H5.drop;rw [F37.zge,jg (by omega)];refine hR (m-1) _ _ _ _ _ _ _ _ _ (by omega) ⟨k+1,o',rfl,by congr 1,by omega,?_⟩;rw [Zar,hx,Zde];exact H6
 .obtain rfl:k=Bs.length:=by omega
  rw [Zan (by rw [Zae];exact Zaf _)] at H3;rw [Zab (by omega),zC,zY,yD,zA,F37.tT];simp only [zG,zQ];rw [F37.ret];refine hK _ _ _ _ _ H3 (jI (H3.zbo (k:=0) rfl λv hv => ?_) (zK rfl)) rfl;obtain ⟨x,_,rfl⟩:=Zao.1 hv;exact qJ λv hv=>by obtain ⟨x,_,rfl⟩:=Zao.1 hv;rfl
theorem jr.zmh {N:Pa->Prop} {O:AV->Prop} {h:T Blk} {id:Pa} {l:List AV} {cap:Option Nat} {n e:Nat} (H:jr h id l) (hid:N id) (hcap:zdf n cap) (hn:n*e<=l.length) (hf:∀ v∈l,rD v=true):Frz True N O h (.sl id 0 n cap e) (.lst e n (l.take (n*e))):=by
 obtain ⟨op,t,h1,h2⟩:=H;refine .sl _ _ _ _ _ op _ t _ hid hcap h1 (by omega) (by rw [Zaj];omega) (Zaw.2 λv hv=>rD.gy (hf v (Zbn hv))) λi v hi => ?_;rw [Zhl] at hi;split at hi
 .have:=yF t 0 l.length i (Zgv.1 hi).1;rw [h2,hi] at this;rw [<- Option.some.inj this];exact zK (hf v (Zad hi))
 .cases hi
theorem zs4 {M:List (List Rat)} {tid p:Pa} {rs:List Pa} {L:List Ob} {w:Nat} {h0 h:T Blk} {g:Pa} {K:Kw Prop} (H:PM h0 h g tid rs w L M) (hM:1<=M.length) (hK:K (I (w:Int)) h g=.ok True):(CS Tryz.prog B).fn 86 p [.sl tid 0 M.length none 1] h g K=.ok True:=by
 refine zL zR yK 100 λhf => ?_;obtain ⟨r,hr,ht⟩:=H.tab (y:=0) (by omega);have ix0:∀ op:AV->OP,zN 1 (.sl tid 0 M.length none 1) (I 0) op=op (.ptr tid 0):=λop=>by
  show zN 1 _ (I ((0:Nat):Int)) op=_;rw [qZ (show 0<M.length by omega)]
 rw [F86.go,F86.t9,zA,F86.zu,zA,zA,F86.zo,yL,qf,Zab (by omega),zB,F86.v2,zC,zE,zA,F86.uj,ix0,ht,rv9,yL];simp only [zG,zQ];rw [F86.ret];exact hK
theorem zv3 {M:List (List Rat)} {tid:Pa} {rs:List Pa} {L:List Ob} {w k:Nat} {h0 h hX:T Blk} {y:Pa} (H:PM h0 h y tid rs w L M) (hk:k<=M.length) (hX1:T.get .no tid hX=.no) (hX2:∀ r∈rs,T.get .no r hX=.no):sj hX h (.sl tid 0 k none 1) (gS (M.take k)):=by
 obtain ⟨h1,h2,h3⟩:=H;obtain ⟨op,t,e1,e2⟩:=h3.own _ (Zai ..);have hl:((M.take k).map uR).length=k:=by rw [Zae,Zaj];omega
 have hrl:(rs.map (rv9 w)).length=M.length:=by rw [Zae];exact h1
 have:gS (M.take k)=.lst 1 k ((M.take k).map uR):=by
  show AV.lst 1 (M.take k).length _=_;rw [Zaj,Zbv hk]
 rw [this];refine .sl _ _ _ _ _ op _ t _ hX1 trivial e1 (by omega) (by omega) (Zaw.2 λv hv=>by obtain ⟨x,_,rfl⟩:=Zao.1 hv;rfl) λi v hi => ?_;have hik:=(Zgv.1 hi).1;have hiM:i<M.length:=by omega
 have hMi:M[i]? = some M[i]:=Zgu hiM;obtain ⟨ri,hri⟩:∃ ri,rs[i]? = some ri:=⟨_,Zgu (show i<rs.length by omega)⟩;rw [Zgw,Zhb (by omega),hMi] at hi;obtain rfl:=Option.some.inj hi;have hc:=yF t 0 (rs.map (rv9 w)).length i (by omega);rw [e2,Zgw,hri] at hc;rw [<- Option.some.inj hc];have hob:=vD (b:=L) (uS hri hMi);have hown:=h3.own _ (Zam _ (Zad hob));have hlw:=h2 _ (Zas hiM);have:=jr.zmh (N:=λid=>T.get .no id hX=.no) (O:=λv=>(∃ id off,v=.ptr id off/\T.get .no id hX≠.no)\/(∃ id,v=.yld id/\T.get .no id hX≠.no)\/(∃ id,v=.map id/\T.get .no id hX≠.no)\/(∃ id off ln cap esz,v=.sl id off ln cap esz/\T.get .no id hX≠.no)) (n:=w) (e:=1) (cap:=none) hown (hX2 _ (Zad hri)) trivial (by rw [Zae];omega) λv hv=>by obtain ⟨x,_,rfl⟩:=Zao.1 hv;rfl
 rw [Zan (by rw [Zae];omega)] at this;show Frz _ _ _ _ (.sl _ 0 w none 1) (.lst 1 M[i].length (M[i].map T9));rw [hlw];exact this
theorem PM.frz {M:List (List Rat)} {tid:Pa} {rs:List Pa} {L:List Ob} {w k:Nat} {h0 h:T Blk} {y:Pa} (H:PM h0 h y tid rs w L M) (hk:k<=M.length):sj h0 h (.sl tid 0 k none 1) (gS (M.take k)) :=
 zv3 H hk (H.2.2.off tid (Zby.2 ⟨_,Zai ..,by simp [Ob.names]⟩)) λr hr=>by
  obtain ⟨i,hi⟩:=Zau.1 hr;have hil:=(Zgv.1 hi).1;have hMi:M[i]? = some (M[i]'(by rw [<- H.1];exact hil)):=Zgu _;exact H.2.2.off r (Zby.2 ⟨Ob.arr r _,Zam _ (Zad (vD (uS hi hMi))),by simp [Ob.names]⟩)
theorem zmi {h0:T Blk} {y:Pa} {L:List Ob}:∀ (rs:List Pa) (M:List (List Rat)) (h:T Blk),rs.length=M.length->Hp h0 h y (jY rs M++L)->∃ h',u7 h' h/\(∀ r∈rs,T.get .no r h'=.no)/\Hp h0 h' y L
 | [],[],h,_,H=>⟨h,λ_ _=>rfl,by simp,H⟩
 | r::rs,l::M,h,hl,H=>by
  have H1:Hp h0 h y (.arr r (l.map T9)::(jY rs M++L)):=H;obtain ⟨h',k1,k2,k3⟩:=zmi rs M _ (by simpa using hl) H1.zr7;have nr:T.get .no r (T.set .no .no r h)=.no:=T.get_set_same _ _ _ _;refine ⟨h',λj hj => ?_,λx hx => ?_,k3⟩
  .have e:=k1 j hj;have hne:j≠r:=λq=>by rw [<- e,q,nr] at hj;exact hj rfl
   rw [<- e,T.zk _ _ _ _ _ hne]
  .rcases Zaq.1 hx with rfl | hx
   .refine Classical.byContradiction λc=>c ?_;rw [<- k1 _ c];exact nr
   .exact k2 x hx
 | [],_::_,_,h,_=>by simp at h
 | _::_,[],_,h,_=>by simp at h
def zx4 (j i:Nat) (li lr:List Rat) (M:List (List Rat)) (r:Nat):Prop :=
 Qd (li.getD j 0)⁻¹/\(∀ q∈li.map (· * (li.getD j 0)⁻¹),Qd q)/\∀ l∈((M.set i lr).set r li).set r (li.map (· * (li.getD j 0)⁻¹)),∀ q∈li.map (· * (li.getD j 0)⁻¹),Qd (l.getD j 0*q)
theorem zoh {M0:List (List Rat)} {w:Nat} (Good:Nat->List (List Rat)->List Nat->Prop) (hw1:1<=w) (hw:w<=1000) (hM1:1<=M0.length) (hM:M0.length<=1000) (hrow:∀ l∈M0,l.length=w) (g0:Good 0 M0 [])
  (sz:∀ j M P,Good j M P->j<w->P.length<M.length->M.length=M0.length->∀ l∈M,∀ q∈l,Qd q)
  (step0:∀ j M P,Good j M P->j<w->P.length<M.length->M.length=M0.length->(∀ i' l,P.length<=i'->M[i']? = some l->l.getD j 0=0)->Good (j+1) M P)
  (step1:∀ j M P i li lr,Good j M P->j<w->P.length<M.length->P.length<=i->M.length=M0.length->M[i]? = some li->M[P.length]? = some lr->li.getD j 0≠0->Good (j+1) (sQ i P.length j li lr M) (P++[j])/\zx4 j i li lr M P.length) :
  Pure Tryz.prog B 41 [gS M0] (λv=>∃ j M P,Good j M P/\M.length=M0.length/\P.length<=M.length/\(j=w\/P.length=M.length)/\v=.tup [gS (M.take P.length),.lst 1 P.length (P.map D)]):=by
 refine zV λh p K H0 hK=>zL zR yK 100010 λhf => ?_;rw [F41.go,F41.t84,zA,F41.zu,zA,F41.zo];refine zsk H0 hw1 (by omega) hrow (by omega) λo rs h1 p1 hrs H1 => ?_;obtain ⟨tid,rfl⟩:∃ id,o=some id:=by
  cases o with
  | none=>obtain ⟨_,hz⟩:=H1.own _ (Zai ..);omega
  | some id=>exact ⟨id,rfl⟩
 have H2:=H1.zkq.om 1;have H3:=H2.perm ((List.Perm.swap _ _ _).trans ((Zdw _ _).symm.cons _));have hP0:PM h h1 p1 tid rs w [.gro none 1 0 []] M0:=⟨hrs,hrow,H3⟩;rw [show uf (some tid) 1 M0.length=.sl tid 0 M0.length none 1 from rfl,zA,F41.yt,zA,zA,F41.vk,zJ];refine F41.zwt (λm x3 x4 h' p'=>∃ (j:Nat) (M:List (List Rat)) (P:List Nat) (o:Option Pa) (rs:List Pa),x3=uf o 1 P.length/\x4=I (j:Int)/\m+j=w/\M.length=M0.length/\P.length<=M.length/\Good j M P/\PM h h' p' tid rs w [.gro o 1 P.length (P.map D)] M) (m:=w) (by omega) ⟨0,M0,[],none,rs,rfl,rfl,rfl,rfl,Zdl _,g0,hP0⟩ ?_;rintro m z3 z4 z5 z6 z7 z8 z9 z10 z11 z12 z13 z14 z15 z16 z17 z18 h3 p3 R ⟨j,M,P,o,rs,rfl,rfl,hm,hMl,hPl,hg,H⟩ hR;have hlen:∀ KK:AV->OP,sLen (uf o 1 P.length) KK=KK (I (P.length:Int)):=λKK=>by
  cases o with
  | some id=>exact yL ..
  | none =>
   obtain ⟨_,e⟩:P.map D=[]/\P.length=0:=H.2.2.own (.gro none 1 P.length (P.map D)) (by simp);rw [e];exact yH ..
 have stop:(j=w\/P.length=M.length)->∀ {y12:AV},y12=.bool false->IR.run F41.t5 (CS Tryz.prog B) 100010 ((fnO F41.res K).blk 0 (IR.run F41.t80 (CS Tryz.prog B) 100010 (fnO F41.res K) (zf F41.res K))) (IR.run F41.t74 (CS Tryz.prog B) 100010 ((fnO F41.res K).blk 0 (IR.run F41.t80 (CS Tryz.prog B) 100010 (fnO F41.res K) (zf F41.res K))) R) (F41.fr (.sl tid 0 M0.length none 1) .zb .zb (uf o 1 P.length) (I (j:Int)) z5 z6 z7 z8 z9 z10 z11 y12 z13 z14 z15 z16 z17 z18) h3 p3=.ok True:=by
  rintro he _ rfl;rw [F41.t5,zB,F41.v12,zC,zY,yD,F41.t80,zA,F41.zwu,hlen,qdj (by omega)];simp only [zG,zQ];rw [F41.ret];refine hK _ _ _ _ _ H.2.2 (jI (H.frz hPl) (H.2.2.zbo (k:=1+M.length) ?_ λv hv=>by obtain ⟨x,_,rfl⟩:=Zao.1 hv;rfl)) ⟨j,M,P,hg,hMl,hPl,he,rfl⟩;have hrl:(jY rs M).length=M.length:=by unfold jY;rw [Zdp,H.1,Nat.min_self]
  rw [Zdt,Zhg,Zgx (by omega),hrl,Zcv];rfl
 rw [F41.t75,zA,zA,F41.nY,F41.r4_0,F41.zes,<- hMl];refine zs4 H (by omega) ?_;rw [F41.r4_1,F41.zet,yu];by_cases cj:j<w
 case neg =>
  rw [Zab (by omega)];simp only [yY];rw [zW,hMl];exact stop (.inl (by omega)) rfl
 rw [Zac (by omega)];simp only [yN];rw [hlen,yL,yu,zT];by_cases cP:P.length<M.length
 case neg =>
  rw [Zab (by omega),hMl];exact stop (.inr (by omega)) rfl
 rw [Zac (by omega),F41.t5,zB,F41.v12,zD,zE,F41.t74,zA,zJ,zA,F41.ng,hlen,zA,zJ];refine zvr H hPl cj (by omega) (Zaf _) λi x13 hri hiM hz hnz => ?_;by_cases ci:i<M.length
 case neg =>
  obtain rfl:i=M.length:=by omega
  rw [F41.t69,zA,zA,F41.rU,yL,qf,Zac rfl,zB,F41.v14,zD,zY,yD,F41.zws,jg (by omega),hMl];exact hR (m-1) _ _ _ _ _ _ _ _ _ _ _ _ _ _ _ _ _ _ (by omega) ⟨j+1,M,P,o,rs,rfl,by congr 1,by omega,hMl,hPl,step0 j M P hg cj cP hMl λi' l h1 h2=>hz i' l h1 (Zgv.1 h2).1 h2,H⟩
 have hli:M[i]? = some M[i]:=Zgu ci;have hlr:M[P.length]? = some M[P.length]:=Zgu cP;obtain ⟨hg2,hs1,hs2,hs3⟩:=step1 j M P i _ _ hg cj cP hri hMl hli hlr (hnz _ hli);refine qac H hli hlr (hnz _ hli) cj (by omega) (by omega) (Zaf _) (sz j M P hg cj cP hMl) hs1 hs2 hs3 (by omega) λo' rs' h4 p4 x5 x6 x7 x8 x9 x10 x11 x12 x13 x14 x15 x16 x17 x18 H4 => ?_;rw [F41.zws,jg (by omega),hMl];have hml:(sQ i P.length j M[i] M[P.length] M).length=M.length:=by unfold sQ ay;rw [Zdk,Zat,Zat,Zat]
 exact hR (m-1) _ _ _ _ _ _ _ _ _ _ _ _ _ _ _ _ _ _ (by omega) ⟨j+1,_,P++[j],o',rs',by rw [Zag];rfl,by congr 1,by omega,by rw [hml,hMl],by rw [Zag,Zbw,hml];exact cP,hg2,by rw [Zag];exact H4⟩
end Go.Ev
namespace Go.Ev
open Go Go.Proofs
def Od (x:Int):Prop:=x = -1\/x=1
def hfI:List Int->List Int->List Int
 | x::a,y::b=>(x-y) / 2::hfI a b
 | _,_=>[]
theorem zcl:∀ (a b:List Int) w s,a.length=b.length->(∀ x∈a,Od x)->(∀ x∈b,Od x)->wdg a w s=2*wdg (hfI a b) w s+wdg b w s
 | [],[],_,_,_,_,_=>by simp only [wdg,hfI];rfl
 | x::a,y::b,_,[],_,_,_=>by simp only [wdg,hfI];rfl
 | x::a,y::b,w,false::s,h,ha,hb=>zcl a b (λt=>w (false::t)) s (by simpa using h) (λz hz=>ha z (Zam _ hz)) λz hz=>hb z (Zam _ hz)
 | x::a,y::b,w,true::s,h,ha,hb=>by
  have ih:=zcl a b (λt=>w (true::t)) s (by simpa using h) (λz hz=>ha z (Zam _ hz)) λz hz=>hb z (Zam _ hz);have e:2*((x-y) / 2)=x-y:=by
   rcases ha x (Zai ..) with rfl | rfl <;> rcases hb y (Zai ..) with rfl | rfl <;> decide
  show x*w (false::s)-wdg a (λt=>w (true::t)) s=2*((x-y) / 2*w (false::s)-wdg (hfI a b) (λt=>w (true::t)) s)+(y*w (false::s)-wdg b (λt=>w (true::t)) s);rw [ih];have e2:2*((x-y) / 2*w (false::s))=(x-y)*w (false::s):=by rw [<- Int.mul_assoc,e]
  grind
 | [],_::_,_,_,h,_,_=>by simp at h
 | _::_,[],_,_,h,_,_=>by simp at h
theorem zga:∀ n (v w:List Bool->Int),(∀ s:List Bool,s.length=n->v s=2*w s)->ipf n v v=4*ipf n w w
 | 0,v,w,h=>by simp only [ipf];rw [h [] rfl];grind
 | n+1,v,w,h=>by
  simp only [ipf];rw [zga n (λt=>v (false::t)) (λt=>w (false::t)) λs hs=>h _ (by simp [hs]),zga n (λt=>v (true::t)) (λt=>w (true::t)) λs hs=>h _ (by simp [hs])]
  grind
theorem zv4 (b:List Int) (v w:List Bool->Int) (s:List Bool) (h:∀ t:List Bool,t.length=s.length->v t=2*w t):wdg b v s=2*wdg b w s:=by
 have e:=mY 2 b w v s;rw [dM b _ s λt ht=>by rw [h t ht];omega] at e;omega
theorem zk2:∀ l:List Int,(∀ x∈l,Od x)->sZ l=(l.length:Int)
 | [],_=>rfl
 | x::l,h=>by
  have:=zk2 l λy hy=>h y (Zam _ hy);rw [sZ,Zbc,this];rcases h x (Zai ..) with rfl | rfl <;> omega
theorem zmj {n:Nat} (hn:4<=n) {b0:List Int} (h0:b0.length=n) (o0:∀ x∈b0,Od x):∀ L:List (List Int),(∀ a∈L,a.length=n/\∀ x∈a,Od x)->∃ w:List Bool->Int,(∃ s:List Bool,s.length=n/\w s≠0)/\(∀ s:List Bool,s.length=n->w s≠0->s.count true<=L.length+1)/\ipf n w w*4 ^ L.length<=(n:Int) ^ (L.length+1)/\∀ a,a=b0\/a∈L->∀ s:List Bool,s.length=n->wdg a w s=0
 | [],_=>by
  obtain ⟨w,h1,h2,h3,h4⟩:=zky (n:=n) (B:=(n:Int)) (by omega) [b0] λa ha=>by
   rw [Zba.1 ha,zk2 b0 o0,h0];exact ⟨rfl,Zgl _⟩
  refine ⟨w,h1,h2,?_,λa ha=>h4 a ?_⟩
  .show ipf n w w*1<=_;rw [Int.mul_one];exact h3
  .rcases ha with rfl | ha
   .exact Zba.2 rfl
   .cases ha
 | a::L,h=>by
  obtain ⟨w,⟨s0,hs0,hw0⟩,hd,hi,hk⟩:=zmj hn h0 o0 L λb hb=>h b (Zam _ hb);obtain ⟨hal,hao⟩:=h a (Zai ..);have hlen:∀ b,b=b0\/b∈L->b.length=n:=λb hb=>hb.elim (λe=>e ▸ h0) λhb=>(h b (Zam _ hb)).1;have p4:(4:Int) ^ (a::L).length=4 ^ L.length*4:=Int.pow_succ ..;have pn:(n:Int) ^ ((a::L).length+1)=(n:Int) ^ (L.length+1)*(n:Int):=Int.pow_succ ..;have pp:0<=(n:Int) ^ (L.length+1):=Zfl (by omega);by_cases c:∀ s:List Bool,s.length=n->wdg a w s=0
  .refine ⟨w,⟨s0,hs0,hw0⟩,λs hs e=>Zgt (hd s hs e),?_,λb hb => ?_⟩
   .rw [p4,pn,<- Int.mul_assoc];have h1:=Zck hi (show (0:Int)<=4 by decide);have h2:=Zdo (show (4:Int)<=(n:Int) by omega) pp;omega
   .rcases hb with rfl | hb
    .exact hk b (.inl rfl)
    .rcases Zaq.1 hb with rfl | hb
     .exact c
     .exact hk b (.inr hb)
  .obtain ⟨s1,h1,hw1⟩:∃ s:List Bool,s.length=n/\wdg a w s≠0:=by
    refine Classical.byContradiction λe=>c λs hs=>Classical.byContradiction λq=>e ⟨s,hs,q⟩
   have hf:∀ s:List Bool,s.length=n->wdg a w s=2*wdg (hfI a b0) w s:=λs hs=>by
    rw [zcl a b0 w s (by rw [hal,h0]) hao o0,hk b0 (.inl rfl) s hs];omega
   refine ⟨wdg (hfI a b0) w,⟨s1,h1,λe=>hw1 (by rw [hf s1 h1,e];rfl)⟩,λs hs e => ?_,?_,λb hb s hs => ?_⟩
   .obtain ⟨t,t1,t2,t3⟩:=fU (hfI a b0) w s e;have:=hd t (by rw [t1];exact hs) t2;rw [Zbc];omega
   .have e1:=zst a w;rw [hal,zk2 a hao,hal,zga n _ _ hf] at e1;rw [p4,pn];have q4:(0:Int)<=4 ^ L.length:=Zfl (by decide);have h1:=Zck e1 q4;have h2:=Zdo hi (show (0:Int)<=(n:Int) by omega);have e2:4*ipf n (wdg (hfI a b0) w) (wdg (hfI a b0) w)*4 ^ L.length=ipf n (wdg (hfI a b0) w) (wdg (hfI a b0) w)*(4 ^ L.length*4):=by grind
    have e3:(n:Int)*ipf n w w*4 ^ L.length=(n:Int)*(ipf n w w*4 ^ L.length):=Int.mul_assoc ..;have e4:(n:Int)*(n:Int) ^ (L.length+1)=(n:Int) ^ (L.length+1)*(n:Int):=Int.mul_comm ..;omega
   .have hb2:wdg b (wdg a w) s=0:=by
     have old:b=b0\/b∈L->wdg b (wdg a w) s=0:=λhb=>by
      rw [xR b a w s (by rw [hlen b hb,hal]),dM a _ s λt ht=>hk b hb t (by rw [ht];exact hs)];rfl
     rcases hb with hb | hb
     .exact old (.inl hb)
     .rcases Zaq.1 hb with rfl | hb
      .have:=xR b b w s rfl;omega
      .exact old (.inr hb)
    have:=zv4 b (wdg a w) (wdg (hfI a b0) w) s λt ht=>hf t (by rw [ht];exact hs);omega
theorem hadO {n:Nat} (hn:4<=n) {b0:List Int} (h0:b0.length=n) (o0:∀ x∈b0,Od x) (L:List (List Int)) (h:∀ a∈L,a.length=n/\∀ x∈a,Od x) (hL:L.length+1<n):∃ x:List Int,x.length=n/\(∃ j,x.getD j 0≠0)/\sZ x*4 ^ L.length<=(n:Int) ^ (L.length+1)/\∀ a,a=b0\/a∈L->dtI a x=0:=by
 obtain ⟨w,⟨s,hs,hw⟩,hd,hi,hk⟩:=zmj hn h0 o0 L h;obtain ⟨S,hS,hj⟩:=zsv s w hw (by have:=hd s hs hw;omega);have hSn:S.length=n:=by rw [hS,hs]
 refine ⟨xvL S w,by rw [fT];exact hSn,hj,?_,λa ha => ?_⟩
 .have e:=zmc S w;rw [hSn] at e;have:=Zck e (show (0:Int)<=4 ^ L.length from Zfl (by decide));omega
 .have hal:a.length=n:=ha.elim (λe=>e ▸ h0) λha=>(h a ha).1;rw [<- zf4 a w S (by rw [hSn,hal])];exact hk a ha S hSn
def ZB:Nat:=51
theorem qaj:∀ r<8,(r+2) ^ (r+1)<=2703*4 ^ r:=by decide
theorem zs5 (F G:Nat->Int):∀ k,sI k (λj=>F j+G j)=sI k F+sI k G
 | 0=>rfl
 | k+1=>by rw [sI,sI,sI,zs5 F G k];omega
theorem zmk (c:Int) (F:Nat->Int):∀ k,sI k (λj=>c*F j)=c*sI k F
 | 0=>by simp [sI]
 | k+1=>by rw [sI,sI,zmk c F k];grind
theorem zml {F:Nat->Int}:∀ {k:Nat},(∀ j,j<k->F j=0)->sI k F=0
 | 0,_=>rfl
 | k+1,h=>by rw [sI,zml λj hj=>h j (by omega),h k (by omega)];rfl
theorem qdu {r:Nat} (hr:r<8) (hr2:2<=r) (f0:Nat->Int) (c0:Int) (ho:(∀ j,Od (f0 j))/\Od c0) (f:Nat->Nat->Int) (hf:∀ i j,Od (f i j)):∃ (x:Nat->Int) (z:Int),((∃ j,j<=r/\x j≠0)\/z≠0)/\(∀ j,(x j).natAbs<=ZB)/\sI (r+1) (λj=>f0 j*x j)+c0*z=0/\∀ i,i<r->sI (r+1) (λj=>f i j*x j)+1*z=0:=by
 have hro:∀ (g:Nat->Int) (c:Int),(∀ j,Od (g j))->Od c->((List.range (r+1)).map g++[c]).length=r+2/\∀ x∈(List.range (r+1)).map g++[c],Od x:=λg c h1 h2=>by
  refine ⟨by simp,λx hx => ?_⟩;rcases Zbb.1 hx with q | q
  .obtain ⟨j,_,rfl⟩:=Zao.1 q;exact h1 j
  .rw [Zba.1 q];exact h2
 obtain ⟨X,hX,⟨j,hj⟩,hs,hk⟩:=hadO (n:=r+2) (by omega) (hro f0 c0 ho.1 ho.2).1 (hro f0 c0 ho.1 ho.2).2 ((List.range r).map λi=>(List.range (r+1)).map (f i)++[1]) (λa ha=>by
  obtain ⟨i,_,rfl⟩:=Zao.1 ha;exact hro (f i) 1 (hf i) (.inr rfl)) (by simp)
 have hxe:X=(List.range (r+1)).map (λj=>X.getD j 0)++[X.getD (r+1) 0]:=by
  refine Zef (by simp [hX]) λi h1 h2 => ?_;by_cases e:i<r+1
  .rw [List.getElem_append_left (by simpa using e)];simp [Zaa,h1]
  .obtain rfl:i=r+1:=by omega
   rw [List.getElem_append_right (by simp)];simp [Zaa,h1]
 have dt:∀ (g:Nat->Int) (c:Int),dtI ((List.range (r+1)).map g++[c]) X=sI (r+1) (λj=>g j*X.getD j 0)+c*X.getD (r+1) 0:=λg c=>by
  conv=>lhs;rw [hxe]
  rw [zcj _ _ _ _ (by simp),bR]
 refine ⟨λj=>X.getD j 0,X.getD (r+1) 0,?_,λj => ?_,?_,λi hi => ?_⟩
 .by_cases e:j<=r
  .exact .inl ⟨j,e,hj⟩
  .by_cases e2:j=r+1
   .exact .inr (e2 ▸ hj)
   .exact absurd (by rw [Zaa,Zgz (by omega)];rfl) hj
 .have h1:=zf5 X j;rw [Zae,Zdf] at hs;have h2:=qaj r hr;have h3:(((r+2:Nat):Int)) ^ (r+1)=(((r+2) ^ (r+1):Nat):Int):=by simp
  have h4:(4:Int) ^ r=((4 ^ r:Nat):Int):=by simp
  rw [h3,h4] at hs;have hp:0<4 ^ r:=Zgj (by decide);have h5:sZ X<=2703:=by
   refine Zfz.1 λc => ?_;have:=Zck (show (2704:Int)<=sZ X by omega) (show (0:Int)<=((4 ^ r:Nat):Int) by omega);omega
  show (X.getD j 0).natAbs<=51;refine Zfs λc => ?_;have h6:=Zbl (show 52<=(X.getD j 0).natAbs from c) (show 52<=(X.getD j 0).natAbs from c);have h7:=Zgg (a:=X.getD j 0);omega
 .rw [<- dt];exact hk _ (.inl rfl)
 .rw [<- dt];exact hk _ (.inr (Zao.2 ⟨i,Zay.2 hi,rfl⟩))
theorem zv5 {r:Nat} (hr:r<=7) (l0:Nat->Int) (h0:∀ j,l0 j=0\/l0 j=1) (l:Nat->Nat->Int) (hl:∀ i j,l i j=0\/l i j=1):∃ x:Nat->Int,(∃ j,j<=r/\x j≠0)/\(∀ j,(x j).natAbs<=ZB)/\∀ i,i<r->sI (r+1) (λj=>(l i j-l0 j)*x j)=0:=by
 by_cases h2:2<=r
 case neg =>
  exact zvx (R:=1) (Bd:=ZB) (by omega) (by decide) (λi j=>l i j-l0 j) λi j=>by
   rcases hl i j with e | e <;> rcases h0 j with f | f <;> rw [e,f] <;> decide
 have od:∀ {x:Int},x=0\/x=1->Od (2*x-1):=λh=>by
  rcases h with e | e <;> rw [e]
  .exact .inl rfl
  .exact .inr rfl
 obtain ⟨x,z,h1,h3,h4,h5⟩:=qdu (by omega) h2 (λj=>2*l0 j-1) 1 ⟨λj=>od (h0 j),.inr rfl⟩ (λi j=>2*l i j-1) λi j=>od (hl i j);refine ⟨x,?_,h3,λi hi => ?_⟩
 .rcases h1 with h1 | h1
  .exact h1
  .refine Classical.byContradiction λc=>h1 ?_;have:sI (r+1) (λj=>(2*l0 j-1)*x j)=0:=zml λj hj=>by
    have:x j=0:=Classical.byContradiction λq=>c ⟨j,by omega,q⟩;rw [this,Int.mul_zero]
   omega
 .have e:=h5 i hi;have e2:sI (r+1) (λj=>(2*l i j-1)*x j)=2*sI (r+1) (λj=>(l i j-l0 j)*x j)+sI (r+1) (λj=>(2*l0 j-1)*x j):=by
   rw [<- zmk,<- zs5];exact zis λj _=>by grind
  omega
theorem zmm:∀ (a c b d:List Rat),a.length=c.length->dot (a++b) (c++d)=dot a c+dot b d
 | [],[],b,d,_=>by show dot b d=dot [] []+dot b d;rw [show dot [] []=0 from rfl];grind
 | x::a,y::c,b,d,h=>by
  have:=zmm a c b d (by simpa using h);rw [Zbs,Zbs,dot,dot,this];grind
 | [],_::_,_,_,h=>by simp at h
 | _::_,[],_,_,h=>by simp at h
theorem fV (m i j:Nat):at' (kL m i) j=if i=j/\j<m then 1 else 0:=by
 unfold kL;by_cases e:i=j
 .subst e;by_cases h:i<m
  .rw [if_pos ⟨rfl,h⟩,at',Zaa,Zhc (by rw [Zaz];exact h)];rfl
  .rw [if_neg (by omega),gG (by rw [Zat,Zaz];omega)]
 .rw [if_neg (by omega),at',Zaa,Zhf e,<- Zaa];exact cN m j
theorem zs6:∀ (a b:List Rat),a.length=b.length->dot a b=sR a.length λj=>at' a j*at' b j:=by
 intro a b h;have key:∀ k,k<=a.length->dot (a.take k) (b.take k)=sR k λj=>at' a j*at' b j:=by
  intro k
  induction k with
  | zero=>intro _;rfl
  | succ k ih =>
   intro hk;rw [Zar,Zar,uU (q:=a) (by omega),uU (q:=b) (by omega),Zde,Zde,zmm _ _ _ _ (by rw [Zaj,Zaj];omega),ih (by omega),sR];show _+(at' a k*at' b k+dot [] [])=_;rw [show dot [] []=0 from rfl];grind
 have:=key a.length (Zaf _);rw [Zcs,h,Zcs,<- h] at this;exact this
theorem q9 {n c:Nat} {q:List Rat} (hq:q.length=n) (hc:c<n):dot q (kL n c)=at' q c:=by
 rw [zs6 _ _ (by rw [hq,gT]),hq,qR (i:=c) (x:=λj=>at' q j) λb hb => ?_,if_pos hc];rw [fV];by_cases e:c=b
 .rw [if_pos ⟨e,hb⟩,if_pos e];grind
 .rw [if_neg (by omega),if_neg e];grind
abbrev liQ (n:Nat) (lines:List (List Int)) (i:Nat):List Rat:=sD n (lines.getD i [])
theorem zs7 {fr:List Nat} {f:Nat->List Rat} {b:Nat} (h:b<fr.length):(fr.map f).getD b []=f (fr.getD b 0):=by
 rw [Zaa,Zgw,uA (d:=0) h];rfl
def SmP (M0:List (List Rat)):Prop:=∀ (O:List (List Rat)) (c:Nat->Nat),(∀ o∈O,o∈M0)->O.length<=7->∃ x:Nat->Int,(∃ j,j<=O.length/\x j≠0)/\(∀ j,(x j).natAbs<=ZB)/\∀ o∈O,sR (O.length+1) (λj=>at' o (c j)*(x j:Rat))=0
structure Gd (w:Nat) (M0:List (List Rat)) (j:Nat) (M:List (List Rat)) (P:List Nat):Prop where
 jw:j<=w
 row:∀ l∈M,l.length=w
 pl:P.length<=j
 pm:P.length<=M.length
 rng:∀ p∈P,p<j
 asc:P.Pairwise (· < ·)
 one:∀ a b,a<P.length->b<P.length->at' (M.getD a []) (P.getD b 0)=if a=b then 1 else 0
 zer:∀ a,P.length<=a->∀ c,c<j->at' (M.getD a []) c=0
 lead:∀ a,a<P.length->∀ c,c<P.getD a 0->at' (M.getD a []) c=0
 org:∃ O:List (List Rat),O.length=P.length/\(∀ o∈O,o∈M0)/\(∀ f:List Rat,f.length=w->(∀ o∈O,dot o f=0)->∀ a,a<P.length->dot (M.getD a []) f=0)/\∀ a,P.length<=a->a<M.length->∃ o∈M0,∀ f:List Rat,f.length=w->(∀ o∈O,dot o f=0)->dot (M.getD a []) f=dot o f
 full:∀ f:List Rat,f.length=w->(∀ l∈M,dot l f=0)->∀ o∈M0,dot o f=0
theorem Gd.start {w:Nat} {M0:List (List Rat)} (h:∀ l∈M0,l.length=w):Gd w M0 0 M0 [] :=
 ⟨Zdl _,h,Zaf _,Zdl _,by simp,by simp,λa b h=>by simp at h,λa _ c h=>by omega,λa h=>by simp at h,⟨[],rfl,by simp,λf _ _ a h=>by simp at h,λa _ ha=>⟨_,yI ha,λ_ _ _=>rfl⟩⟩,λf _ hz o ho=>hz o ho⟩
theorem Gd.skip {w j:Nat} {M0 M:List (List Rat)} {P:List Nat} (h:Gd w M0 j M P) (hj:j<w) (hz:∀ i' l,P.length<=i'->M[i']? = some l->l.getD j 0=0):Gd w M0 (j+1) M P :=
 ⟨hj,h.row,Zgt h.pl,h.pm,λp hp=>Nat.lt_succ_of_lt (h.rng p hp),h.asc,h.one,λa ha c hc=>by
  by_cases e:c=j
  .subst e;by_cases ha2:a<M.length
   .exact hz a _ ha (uA ha2)
   .rw [Zaa,Zgz (by omega)];exact gG (Zdl _)
  .exact h.zer a ha c (by omega),h.lead,h.org,h.full⟩
def swR (i k:Nat) (lr row:List Rat) (M:List (List Rat)) (a:Nat):List Rat:=if a=k then row else if a=i then lr else M.getD a []
theorem bC {i k j:Nat} {li lr:List Rat} {M:List (List Rat)} {a:Nat} (ha:a<M.length):(sQ i k j li lr M).getD a []=if a=k then jE (at' li j)⁻¹ li else jZ (at' (swR i k lr (jE (at' li j)⁻¹ li) M a) j) (swR i k lr (jE (at' li j)⁻¹ li) M a) (jE (at' li j)⁻¹ li):=by
 have e:(((M.set i lr).set k li).set k (jE (at' li j)⁻¹ li))[a]? = some (swR i k lr (jE (at' li j)⁻¹ li) M a):=by
  unfold swR;by_cases h1:a=k
  .subst h1;rw [if_pos rfl,Zhc (by rw [Zat,Zat];exact ha)]
  .rw [if_neg h1,Zhf (Ne.symm h1),Zhf (Ne.symm h1)];by_cases h2:a=i
   .subst h2;rw [if_pos rfl,Zhc ha]
   .rw [if_neg h2,Zhf (Ne.symm h2),uA (d:=[]) ha]
 have e2:=zcf (r:=k) (j:=j) (lr:=jE (at' li j)⁻¹ li) e;show (ay k j (jE (at' li j)⁻¹ li) (((M.set i lr).set k li).set k (jE (at' li j)⁻¹ li))).getD a []=_;rw [Zaa,e2];show vY k j (jE (at' li j)⁻¹ li) a (swR i k lr (jE (at' li j)⁻¹ li) M a)=_;unfold vY;by_cases h1:a=k
 .rw [if_pos h1,if_pos h1,swR,if_pos h1]
 .rw [if_neg h1,if_neg h1];rfl
theorem Gd.piv {w j i:Nat} {M0 M:List (List Rat)} {P:List Nat} {li lr:List Rat} (h:Gd w M0 j M P) (hj:j<w) (hi:P.length<=i) (hli:M[i]? = some li) (hlr:M[P.length]? = some lr) (hv:li.getD j 0≠0):Gd w M0 (j+1) (sQ i P.length j li lr M) (P++[j]):=by
 have him:=(Zgv.1 hli).1;have hkm:=(Zgv.1 hlr).1;have gi:M.getD i []=li:=by rw [Zaa,hli];rfl
 have gk:M.getD P.length []=lr:=by rw [Zaa,hlr];rfl
 have hlil:=h.row _ (Zad hli);obtain ⟨row,hrow⟩:∃ row,row=jE (at' li j)⁻¹ li:=⟨_,rfl⟩;have hrl:row.length=w:=by rw [hrow,wH];exact hlil
 have hv':at' li j≠0:=hv;have rz:∀ c,c<j->at' row c=0:=λc hc=>by
  rw [hrow,xU,<- gi,h.zer i hi c hc,Zce]
 have rj:at' row j=1:=by rw [hrow,xU];grind
 have hml:(sQ i P.length j li lr M).length=M.length:=by unfold sQ ay;rw [Zdk,Zat,Zat,Zat]
 have get:∀ a,a<M.length->(sQ i P.length j li lr M).getD a []=if a=P.length then row else jZ (at' (swR i P.length lr row M a) j) (swR i P.length lr row M a) row:=λa ha=>by
  rw [bC ha,hrow]
 have zmn:∀ a,a<P.length->swR i P.length lr row M a=M.getD a []:=λa ha=>by
  unfold swR;rw [if_neg (by omega),if_neg (by omega)]
 have swhi:∀ a,P.length<a->a<M.length->∃ a',P.length<=a'/\a'<M.length/\swR i P.length lr row M a=M.getD a' []:=λa ha ham=>by
  unfold swR;rw [if_neg (by omega)];by_cases e:a=i
  .rw [if_pos e];exact ⟨P.length,Zaf _,hkm,gk.symm⟩
  .rw [if_neg e];exact ⟨a,by omega,ham,rfl⟩
 have swl:∀ a,a<M.length->a≠P.length->(swR i P.length lr row M a).length=row.length:=λa ha hne=>by
  rw [hrl];rcases Zdv a P.length with q | q
  .rw [zmn a q];exact h.row _ (yI ha)
  .obtain ⟨a',_,h2,h3⟩:=swhi a (by omega) ha;rw [h3];exact h.row _ (yI h2)
 have at1:∀ a,a<M.length->a≠P.length->∀ c,at' ((sQ i P.length j li lr M).getD a []) c=at' (swR i P.length lr row M a) c-at' (swR i P.length lr row M a) j*at' row c:=λa ha hne c=>by
  rw [get a ha,if_neg hne,uH (swl a ha hne)]
 have at2:∀ c,at' ((sQ i P.length j li lr M).getD P.length []) c=at' row c:=λc=>by rw [get _ hkm,if_pos rfl]
 have dt1:∀ f a,a<M.length->a≠P.length->dot row f=0->dot ((sQ i P.length j li lr M).getD a []) f=dot (swR i P.length lr row M a) f:=λf a ha hne hr=>by
  rw [get a ha,if_neg hne,gZ _ _ _ _ (swl a ha hne),hr,Zbo];grind
 have dt2:∀ f,dot ((sQ i P.length j li lr M).getD P.length []) f=dot row f:=λf=>by rw [get _ hkm,if_pos rfl]
 have drow:∀ f,dot row f=(at' li j)⁻¹*dot li f:=λf=>by rw [hrow,qB]
 have pA:∀ b,b<P.length->(P++[j]).getD b 0=P.getD b 0:=λb hb=>by
  rw [Zaa,Zha hb,<- Zaa]
 have pB:(P++[j]).getD P.length 0=j:=by
  rw [Zaa,Zgx (Zaf _),Zcv];rfl
 have plen:(P++[j]).length=P.length+1:=by rw [Zag,Zbw]
 have hPj:=h.pl;obtain ⟨O,hol,hom,hker,hrest⟩:=h.org;obtain ⟨oi,hoi,hoif⟩:=hrest i hi him;rw [gi] at hoif;refine ⟨hj,λl hl => ?_,by rw [plen];omega,by rw [plen,hml];exact hkm,λp hp => ?_,?_,λa b ha hb => ?_,λa ha c hc => ?_,λa ha c hc => ?_,⟨O++[oi],by rw [Zag,hol,plen];rfl,λo ho => ?_,λf hf hz a ha => ?_,λa ha ham => ?_⟩,λf hf hz => ?_⟩
 .obtain ⟨a,ha⟩:=Zau.1 hl;have ham:=(Zgv.1 ha).1;rw [hml] at ham;have hla:(sQ i P.length j li lr M).getD a []=l:=by rw [Zaa,ha];rfl
  rw [<- hla,get a ham];by_cases e:a=P.length
  .rw [if_pos e];exact hrl
  .rw [if_neg e,gY (swl a ham e),swl a ham e,hrl]
 .rcases Zbb.1 hp with q | q
  .exact Nat.lt_succ_of_lt (h.rng p q)
  .rw [Zba.1 q];exact Nat.lt_succ_self j
 .refine List.pairwise_append.2 ⟨h.asc,List.pairwise_singleton _ _,λa ha b hb => ?_⟩;rw [Zba.1 hb];exact h.rng a ha
 .rw [plen] at ha hb;by_cases ea:a=P.length
  .subst ea;rw [at2];by_cases eb:b=P.length
   .rw [eb,pB,rj,if_pos rfl]
   .rw [pA b (by omega),rz _ (h.rng _ (yI (by omega))),if_neg (by omega)]
  .rw [at1 a (by omega) ea,zmn a (by omega)];by_cases eb:b=P.length
   .rw [eb,pB,rj,if_neg ea];grind
   .rw [pA b (by omega),rz _ (h.rng _ (yI (by omega))),h.one a b (by omega) (by omega)];grind
 .rw [plen] at ha;by_cases ham:a<M.length
  .obtain ⟨a',h1,h2,h3⟩:=swhi a (by omega) ham;rw [at1 a ham (by omega),h3];by_cases e:c=j
   .rw [e,rj];grind
   .rw [h.zer a' h1 c (by omega),rz c (by omega)];grind
  .rw [Zaa,Zgz (by rw [hml];omega)];exact gG (Zdl _)
 .rw [plen] at ha;by_cases ea:a=P.length
  .rw [ea,pB] at hc;rw [ea,at2];exact rz c hc
  .rw [pA a (by omega)] at hc;have hpa:=h.rng _ (yI (l:=P) (i:=a) (d:=0) (by omega));rw [at1 a (by omega) ea,zmn a (by omega),h.lead a (by omega) c hc,rz c (by omega)];grind
 .rcases Zbb.1 ho with q | q
  .exact hom o q
  .rw [Zba.1 q];exact hoi
 .rw [plen] at ha;have hO:∀ o∈O,dot o f=0:=λo ho=>hz o (Zcr _ ho);have hr:dot row f=0:=by rw [drow,hoif f hf hO,hz oi (Zda _ (Zba.2 rfl)),Zbo]
  by_cases ea:a=P.length
  .rw [ea,dt2];exact hr
  .rw [dt1 f a (by omega) ea hr,zmn a (by omega)];exact hker f hf hO a (by omega)
 .rw [plen] at ha;rw [hml] at ham;obtain ⟨a',h1,h2,h3⟩:=swhi a (by omega) ham;obtain ⟨o,ho,hof⟩:=hrest a' h1 h2;refine ⟨o,ho,λf hf hz => ?_⟩;have hO:∀ o∈O,dot o f=0:=λo ho=>hz o (Zcr _ ho);have hr:dot row f=0:=by rw [drow,hoif f hf hO,hz oi (Zda _ (Zba.2 rfl)),Zbo]
  rw [dt1 f a ham (by omega) hr,h3];exact hof f hf hO
 .refine h.full f hf λl hl => ?_;have hz':∀ a,a<M.length->dot ((sQ i P.length j li lr M).getD a []) f=0:=λa ha=>hz _ (yI (by rw [hml];exact ha));have hr:dot row f=0:=by rw [<- dt2];exact hz' _ hkm
  have hlf:dot li f=0:=by
   have e:=drow f;rw [hr] at e
   grind
  obtain ⟨a,ha⟩:=Zau.1 hl;have ham:=(Zgv.1 ha).1;have hla:M.getD a []=l:=by rw [Zaa,ha];rfl
  by_cases e1:a=i
  .rw [<- hla,e1,gi];exact hlf
  .by_cases e2:a=P.length
   .have:=dt1 f i him (by omega) hr;rw [hz' i him,swR,if_neg (by omega),if_pos rfl] at this;rw [<- hla,e2,gk];exact this.symm
   .have:=dt1 f a ham e2 hr;rw [hz' a ham,swR,if_neg e2,if_neg e1,hla] at this;exact this.symm
end Go.Ev
namespace Go.Ev
open Go Go.Proofs
variable {B:Nat}
set_option maxRecDepth 100000
theorem zoi {s:List UInt8} (hl:s.length<=100000) (hs:∀ c∈s,48<=c.toNat/\c.toNat<=57):Pure Tryz.prog B 136 [.str s] (· = .bool true):=by
 refine zV λh y K H0 hK=>zL zR yK 100010 λhf => ?_;rw [je.go,je.t20,zA,je.zu,zA,zA,je.zo,zJ];refine je.zae (λm x2 h' y'=>∃ i:Nat,x2=I (i:Int)/\m+i=s.length/\h'=h/\y'=y) (m:=s.length) (by omega) ⟨0,rfl,rfl,rfl,rfl⟩ ?_;rintro m z1 z2 z3 z4 h3 y3 R ⟨i,rfl,hm,rfl,rfl⟩ hR;rw [je.t13,zA,zA,je.yt,tN,yu,zB,je.v3];by_cases c:i<s.length
 .have ec:=Zgu c;obtain ⟨b1,b2⟩:=hs _ (Zas c);rw [Zac (by omega),zD,zE,zA,zJ,zA,je.dz,je.r3_0,je.zi8,eH (i:=i) rfl ec,yu,Zab (by omega)];simp only [yJ];rw [eH (i:=i) rfl ec,je.r3_1,je.zew];simp only [yJ];rw [kg,Zab (by omega)];simp only [zW];rw [zB,je.v4,zC,zE,je.qz,jg (by omega)];exact hR (m-1) _ _ _ _ _ _ (by omega) ⟨i+1,by congr 1,by omega,rfl,rfl⟩
 .rw [Zab (by omega),zC,zY,yD,zA,je.rG];simp only [zG,zQ];rw [je.ret];exact hK _ _ _ _ _ H0 (zK rfl) rfl
theorem zoj {n:Nat} (h:(gq n 1)[0]? = some 48):n=0:=by
 rcases Zel n with e | e
 .exact e
 .exfalso
  have hne:dg 10 n≠[]:=λq=>by
   have:=kS (b:=10) (z:=n) (by decide) (by omega);rw [q] at this;cases this
  unfold gq at h;rw [xZ (by omega)] at h;rw [Zgw,List.getElem?_reverse (by have:=List.length_pos_iff.2 hne;omega)] at h;have hl:=List.length_pos_iff.2 hne;rw [show (dg 10 n).length-1-0=(dg 10 n).length-1 by omega,Zgu (by omega)] at h;obtain ⟨_,hdg,hnm⟩:=qM (b:=10) (by decide) n;have hlast:(dg 10 n)[(dg 10 n).length-1]≠0:=by
   exact λe=>hnm (by rw [List.getLast?_eq_getElem?,Zgu (by omega),e])
  have hlt:=hdg _ (Zas (l:=dg 10 n) (n:=(dg 10 n).length-1) (by omega));have:∀ n<10,n≠0->dch n≠48:=by decide +kernel
  exact this _ hlt hlast (by simpa using h)
theorem zv6 {x:Nat} (h:x<10):48<=(dch x).toNat/\(dch x).toNat<=57:=by
 have:∀ n<10,48<=(dch n).toNat/\(dch n).toNat<=57:=by decide +kernel
 exact this x h
theorem zs8 {n:Nat}:∀ c∈gq n 1,48<=c.toNat/\c.toNat<=57:=λc hc=>by
 unfold gq at hc;obtain ⟨x,hx,rfl⟩:=Zao.1 hc;exact zv6 (wZ _ _ x (by simpa using hx))
theorem zmo {n:Nat} (hl:(gq n 1).length<=10000):Pure Tryz.prog B 82 [.str (gq n 1)] (· = .bool true):=by
 refine zV λh y K H0 hK=>zL zR yK 100 λhf => ?_;have hp:=wR n;have ec:=Zgu (l:=gq n 1) (i:=0) (by omega);rw [F82.go,F82.t9,zA,F82.zu,zA,zA,F82.zo,F82.sH,F82.sJ,tN,qf,Zab (by omega)];simp only [yJ];rw [tN,kg];have fin:∀ x2:AV,x2=.bool false->F82.t4.run (CS Tryz.prog B) 100 (fnO F82.res K) (F82.t7.run (CS Tryz.prog B) 100 (fnO F82.res K) (zf F82.res K)) (F82.fr (.str (gq n 1)) (.bool false) x2) h y=.ok True:=by
  rintro _ rfl;rw [F82.t4,zB,F82.v2,zC,zE,F82.t7,zA,F82.uj];refine zoi (by omega) zs8 _ _ _ _ ?_;rintro _ rfl _;simp only [zG,zQ];rw [F82.ret];exact hK _ _ _ _ _ H0 (zK rfl) rfl
 by_cases c:1<((gq n 1).length:Int)
 .rw [Zac c,F82.tO,F82.rM];simp only [yN,yJ,zT,zW];rw [eH (i:=0) (x:=0) rfl ec,qf];have hne:¬ (((gq n 1)[0].toNat:Int)=48):=λq=>by
   have e:(48:UInt8).toNat=48:=rfl;have h48:(gq n 1)[0]=48:=UInt8.toNat_inj.1 (by omega);have:=zoj (n:=n) (by rw [ec,h48]);subst this;rw [vI] at c;exact absurd c (by decide)
  rw [Zab hne];exact fin _ rfl
 .rw [Zab c,F82.tO,F82.rM];simp only [yY,yJ,zbs,zT,zW];exact fin _ rfl
theorem zv7 {n:Nat} (h:gq n 1=[49]):n=1:=by
 have hlt:=zl0 (n:=n) (k:=1) (by rw [h];simp);rcases Zel n with e | e
 .subst e;rw [vI] at h;cases h
 .have hd:dg 10 n=[n]:=by
   rw [kS (by decide) (by omega),show n / 10=0 by omega,gH,show n%10=n by omega]
  unfold gq at h;rw [xZ (by omega),hd] at h;have:∀ n<10,dch n=49->n=1:=by decide +kernel
  exact this n (by omega) (by simpa using h)
theorem zs9 (q:Rat):∃ r:Rat,jv r=rQ q/\r.num.natAbs=q.num.natAbs/\r.den=q.den:=by
 by_cases d:q.num<0
 .exact ⟨-q,by rw [(xW (q := -q) (by rw [Zen];omega)).1,zcc],by rw [Zen,Zed],Zgk q⟩
 .exact ⟨q,(xW d).1,rfl,rfl⟩
theorem zta {q:Rat} (hq:SmlQ q) (hqN:q.den<1000000000):Pure Tryz.prog B 39 [.str (jv q)] (· = I 0):=by
 refine zV λh y K H0 hK=>zL zR yK 100 λhf => ?_;have l1:=cO q;have n1:=wR q.num.natAbs;have d1:=wR q.den;have n2:=wS (n:=q.num.natAbs) (k:=3) (Nat.lt_trans hq.1 (by decide));have d2:=wS (n:=q.den) (k:=3) (Nat.lt_trans hq.2 (by decide));obtain ⟨r,hr1,hr2,hr3⟩:=zs9 q;have hrd:jv r=gq q.num.natAbs 1++(if q.den=1 then [] else 47::gq q.den 1):=by rw [hr1,rQ]
 have main:∀ x3 x4 x5 x6 x7 x8 x9 x10 x11 x12,F39.t40.run (CS Tryz.prog B) 100 (fnO F39.res K) (zf F39.res K) (F39.fr (.str (jv q)) (I 0) (.str (jv r)) x3 x4 x5 x6 x7 x8 x9 x10 x11 x12) h y=.ok True:=by
  intro x3 x4 x5 x6 x7 x8 x9 x10 x11 x12;obtain ⟨j,hj⟩:∃ j,j=(gq q.num.natAbs 1).length:=⟨_,rfl⟩;have hlen:(jv r).length=j+if q.den=1 then 0 else (gq q.den 1).length+1:=by
   rw [hrd,Zag,hj];split <;> simp
  have hll:(jv r).length<=100:=by rw [hlen];split <;> omega
  have hjl:j<=(jv r).length:=by omega
  have ht:(jv r).take j=gq q.num.natAbs 1:=by rw [hrd,Zfb hj.symm]
  have hdr:q.den≠1->(jv r).drop (j+1)=gq q.den 1:=λc=>by
   rw [hrd,if_neg c,<- Zfk,List.drop_left' hj.symm];rfl
  have zx5:∀ x4 x5 x6 x7 x8 x10 x11 x12,F39.t15.run (CS Tryz.prog B) 100 (fnO F39.res K) (F39.t37.run (CS Tryz.prog B) 100 (fnO F39.res K) (zf F39.res K)) (F39.fr (.str (jv q)) (I 0) (.str (jv r)) (I (j:Int)) x4 x5 x6 x7 x8 (.bool false) x10 x11 x12) h y=.ok True:=by
   intro x4 x5 x6 x7 x8 x10 x11 x12;rw [F39.t15,zB,F39.v9,zC,zE,F39.t37,zA,zA,F39.rG,F39.r9_0,F39.zyi,kg,Zab (by omega)];simp only [yJ];rw [tN,xg (by omega),xg (by omega),F39.r9_1,F39.zyj];simp only [yJ];rw [kg,Zab (by omega)];simp only [zW];rw [zB,F39.v10,zC,zE,zA,zA,F39.tT,tN,yu];by_cases c:q.den=1
   .rw [if_pos c] at hlen;rw [Zab (by omega),zB,F39.v11,zC,zE,zA,F39.zc5];simp only [zG,zQ];rw [F39.ret];exact hK _ _ _ _ _ H0 (zK rfl) rfl
   .rw [if_neg c] at hlen;rw [Zac (by omega),zB,F39.v11,zD,zA,F39.zgi];have z1:Z9 3 r.num:=by unfold Z9;rw [hr2];exact Nat.lt_trans hq.1 (by decide)
    have z2:Z9 3 (r.den:Int):=by unfold Z9;rw [hr3,Zbj];exact Nat.lt_trans hq.2 (by decide)
    refine zic (k:=3) (by decide) z1 z2 _ _ _ _ ?_;rintro _ rfl _;rw [yZ,jC];refine H0.alloc λp1 h1 y1 H1 => ?_;refine H1.alloc λp2 h2 y2 H2 => ?_;refine H2.jc (l2:=[.bool (decide (r.num<0)),wz (dg 1000000000 r.num.natAbs)]) (k:=1) rfl rfl rfl λh3 H3 => ?_;refine H3.jc (l2:=[.bool (decide ((r.den:Int)<0)),wz (dg 1000000000 (r.den:Int).natAbs)]) (k:=0) rfl rfl rfl λh4 H4 => ?_;rw [zA,F39.zad,sFx,H4.load (k:=1) (i:=0+1) rfl rfl,sFx,H4.load (k:=0) (i:=0+1) rfl rfl];refine zd2 (by rw [hr3,Zbj];exact hqN) (show S9 _ from Zbe z1.len (by decide)) (show S9 _ from Zbe z2.len (by decide)) _ _ _ _ ?_;rintro _ rfl _;have hg:Nat.gcd r.num.natAbs (r.den:Int).natAbs=1:=by rw [Zbj];exact r.reduced
    have he:wz (dg 1000000000 1)=.lst 1 1 [I 1]:=by rw [kS (by decide) (by decide),gH];rfl
    rw [hg,he,zA,F39.zoy,F39.zpa,F39.ztv,zS,qj,Zac (show ((1:Nat):Int)=1 from rfl),Zah];simp only [yJ];rw [xu (j:=0) (i:=0) rfl (by decide),ldL (i:=0) rfl,qj,Zac rfl,Zah,F39.zxq,F39.ztw];simp only [zW];rw [zB,F39.v12,zC,zE,zA,F39.zc5];simp only [zG,zQ];rw [F39.ret];exact hK _ _ _ _ _ H4 (zK rfl) rfl
  have rest:∀ x4 x5 x6 x7 x9 x10 x11 x12,F39.t10.run (CS Tryz.prog B) 100 (fnO F39.res K) (F39.t38.run (CS Tryz.prog B) 100 (fnO F39.res K) (zf F39.res K)) (F39.fr (.str (jv q)) (I 0) (.str (jv r)) (I (j:Int)) x4 x5 x6 x7 (.bool false) x9 x10 x11 x12) h y=.ok True:=by
   intro x4 x5 x6 x7 x9 x10 x11 x12;rw [F39.t10,zB,F39.v8,zC,zE,F39.t38,zA,zA,F39.nZ,F39.r7_0,F39.zyh,tN,yu];by_cases c:q.den=1
   .rw [if_pos c] at hlen;rw [Zab (by omega)];simp only [yY];rw [F39.r7_1,F39.zo7];simp only [yY,cJ];rw [F39.r7_2,F39.zo8];simp only [yY,zbs];rw [F39.r7_3,F39.zo9];simp only [yY,zbs,zW];exact zx5 ..
   .rw [if_neg c] at hlen;rw [Zac (by omega)];simp only [yN];rw [jg (by omega),F39.r7_1,F39.zo7];simp only [yN,zfx];rw [dN (a:=j+1) (by omega) (by omega),hdr c];refine zmo (by omega) _ _ _ _ ?_;rintro _ rfl _;have k48:¬ gq q.den 1=[48]:=λe=>absurd (zfy e) q.den_nz;have k49:¬ gq q.den 1=[49]:=λe=>c (zv7 e);rw [F39.r7_2,F39.zo8];simp only [yN,jB,Zah,yJ];rw [jg (by omega),dN (a:=j+1) (by omega) (by omega),hdr c,zij,Zab k48];simp only [zW];rw [F39.r7_3,F39.zo9];simp only [yN,yJ];rw [jg (by omega),dN (a:=j+1) (by omega) (by omega),hdr c,zij,Zab k49];simp only [zW,zT];exact zx5 ..
  rw [F39.t40,zA,F39.uj];refine m0 (j:=j) (by omega) hjl (λi c' hi hc => ?_) ?_ _ _ _ _ ?_
  .rw [hrd,Zha (by omega)] at hc;exact (vJ (Zad hc)).1
  .by_cases c:q.den=1
   .rw [if_pos c] at hlen;exact .inl (by omega)
   .refine .inr ?_;rw [hrd,if_neg c,Zgx (by omega),hj,Zcv];rfl
  rintro _ rfl _;rw [zA,zA,F39.ng,F39.r5_0,F39.zyf,tTo (b:=j) rfl hjl,ht];refine zmo (by omega) _ _ _ _ ?_;rintro _ rfl _;rw [F39.r5_1,F39.zyg,jB,Zah];simp only [yJ];by_cases d:q.num<0
  .have e0:(jv q)[0]? = some 45:=by rw [xX d];rfl
   rw [eH (i:=0) (x:=0) rfl e0,qf,show decide (((45:UInt8).toNat:Int)=45)=true from rfl];simp only [yN];rw [F39.r5_2,F39.zo6];simp only [yN];rw [tTo (b:=j) rfl hjl,ht,zij,Zab (λe=>by have:=zfy e;omega)];simp only [yJ,zT,zW];exact rest ..
  .obtain ⟨ec,c',e0,hne⟩:=xW d
   have hne2:¬ ((c'.toNat:Int)=45):=λh=>hne (by
    have e:(45:UInt8).toNat=45:=rfl;have:c'.toNat=(45:UInt8).toNat:=by omega
    exact UInt8.toNat_inj.1 this)
   rw [eH (i:=0) (x:=0) rfl e0,qf,Zab hne2];simp only [yY];rw [F39.r5_2,F39.zo6];simp only [yY,zbs,yJ,zW];exact rest ..
 rw [F39.go,F39.t43,zA,F39.zu,zA,F39.zo,zA,zA,F39.yt,tN,kg,Zac (by omega)];simp only [yN];by_cases d:q.num<0
 .have e0:(jv q)[0]? = some 45:=by rw [xX d];rfl
  rw [eH (i:=0) (x:=0) rfl e0,qf];simp only [zT];rw [show decide (((45:UInt8).toNat:Int)=45)=true from rfl,zB,F39.v7,zD,F39.vk,dN (a:=1) (x:=1) rfl l1];have e:(jv q).drop 1=jv r:=by rw [hr1,xX d];rfl
  rw [e];exact main ..
 .obtain ⟨ec,c',e0,hne⟩:=xW d
  have hne2:¬ ((c'.toNat:Int)=45):=λh=>hne (by
   have e:(45:UInt8).toNat=45:=rfl;have:c'.toNat=(45:UInt8).toNat:=by omega
   exact UInt8.toNat_inj.1 this)
  rw [eH (i:=0) (x:=0) rfl e0,qf];simp only [zT];rw [Zab hne2,zB,F39.v7,zC,zE,ec,<- hr1];have:=main;rw [<- hr1] at ec;rw [ec] at this;exact this ..
end Go.Ev
namespace Go.Ev
open Go Go.Proofs
theorem zv8 {b:List Rat} {p:Nat} {x:Rat}:at' (b.set p x) p=x\/at' (b.set p x) p=at' b p:=by
 by_cases h:p<b.length
 .left;rw [at',Zaa,Zhc h];rfl
 .right;rw [gG (by rw [Zat];omega),gG (by omega)]
theorem bZ (c j:Nat) {P:Rat->Prop}:∀ (l:List (List Rat×Nat)) (b:List Rat),(∀ x∈l,x.2=j->P (-at' x.1 c))->P (at' b j)->P (at' (oN c l b) j)
 | [],b,_,h=>h
 |(q,p)::l,b,hl,h=>by
  refine bZ c j l _ (λx hx=>hl x (Zam _ hx)) ?_;by_cases e:p=j
  .subst e;rcases zv8 (b:=b) (p:=p) (x := -at' q c) with e2 | e2 <;> rw [e2]
   .exact hl (q,p) (Zai ..) rfl
   .exact h
  .rw [zf1 e];exact h
theorem ztb {n c:Nat} (h:c<n):at' (kL n c) c=1:=by
 unfold kL;rw [at',Zaa,Zhc (by rw [Zaz];exact h)];rfl
theorem zej {n c:Nat} {O Q:List (List Rat)} {ps:List Nat} (hS:Sv n O Q ps) (hc:c<n) (hcp:c∉ps):at' (oo n Q ps c) c=1/\∀ b,b<c->at' (oo n Q ps c) b=0:=by
 have hz:∀ x∈oM Q ps,∃ a,a<Q.length/\x.1=Q.getD a []/\x.2=ps.getD a 0:=λx hx=>by
  obtain ⟨a,ha⟩:=Zau.1 hx;obtain ⟨h1,h2⟩:=List.getElem?_zip_eq_some.1 ha;have hl:=(Zgv.1 h1).1;exact ⟨a,hl,by rw [Zaa,h1];rfl,by rw [Zaa,h2];rfl⟩
 unfold oo;refine ⟨bZ (P:=(· = 1)) c c _ _ (λx hx e => ?_) (ztb hc),λb hb=>bZ (P:=(· = 0)) c b _ _ (λx hx e => ?_) (zf2 (by omega))⟩
 .exact absurd (e ▸ (Zfc hx).2) hcp
 .obtain ⟨a,ha,e1,e2⟩:=hz x hx;show -at' x.1 c=0;rw [e1,hS.tri a ha c (by rw [<- e2,e];exact hb)];grind
theorem ztc {n c b:Nat} {O Q:List (List Rat)} {ps:List Nat} (hS:Sv n O Q ps) (hb:b∉ps) (hne:b≠c):at' (oo n Q ps c) b=0:=by
 unfold oo;exact bZ (P:=(· = 0)) c b _ _ (λx hx e=>absurd (e ▸ (Zfc hx).2) hb) (zf2 hne)
theorem ziv:∀ (r f:List Rat) (p:Nat),(∀ j,j≠p->at' r j*at' f j=0)->r.length=f.length->dot r f=at' r p*at' f p
 | [],[],p,_,_=>by rw [gG (q:=[]) (by simp)];show (0:Rat)=_;grind
 | x::r,y::f,0,h,hl=>by
  have hz:dot r f=0:=by
   have hall:∀ j,at' r j*at' f j=0:=λj=>h (j+1) (by omega);have:∀ (r f:List Rat),(∀ j,at' r j*at' f j=0)->dot r f=0:=by
    intro r
    induction r with
    | nil=>intro f _;cases f <;> rfl
    | cons a r ih =>
     intro f hf;cases f with
     | nil=>rfl
     | cons b f =>
      have h0:a*b=0:=hf 0;rw [dot,h0,ih f λj=>hf (j+1)];grind
   exact this r f hall
  rw [dot,hz];show x*y+0=x*y;grind
 | x::r,y::f,p+1,h,hl=>by
  have h0:x*y=0:=h 0 (by omega);rw [dot,ziv r f p (λj hj=>h (j+1) (by omega)) (by simpa using hl),h0];show 0+at' r p*at' f p=at' r p*at' f p
  grind
 | [],_::_,_,_,hl=>by simp at hl
 | _::_,[],_,_,hl=>by simp at hl
theorem qdv {n:Nat} {O Q:List (List Rat)} {ps:List Nat} {f:List Rat} (hS:Sv n O Q ps) (hf:f.length=n) (hk:∀ q∈Q,dot q f=0) (h0:∀ c,c<n->c∉ps->at' f c=0):∀ j,at' f j=0:=λj=>by
 by_cases hj:j<n
 .by_cases hp:j∈ps
  .obtain ⟨a,ha,hx⟩:=Zeg hp;have ha':a<Q.length:=by have:=hS.len;omega
   have ea:ps.getD a 0=j:=by rw [Zaa,Zgu ha];exact hx
   have hm:=yI (l:=Q) (d:=[]) ha';have h1:=ziv (Q.getD a []) f j (λb hb => ?_) (by rw [hS.row _ hm,hf])
   .rw [hk _ hm,<- ea,hS.one a a ha' ha',if_pos rfl,Rat.one_mul,ea] at h1;exact h1.symm
   .by_cases hbn:b<n
    .by_cases hbp:b∈ps
     .obtain ⟨d,hd,hy⟩:=Zeg hbp;have hd':d<Q.length:=by have:=hS.len;omega
      have ed:ps.getD d 0=b:=by rw [Zaa,Zgu hd];exact hy
      have h2:=hS.one a d ha' hd';rw [ed,if_neg (λe=>hb (by rw [<- ed,<- ea,e]))] at h2;rw [h2,Zce]
     .rw [h0 b hbn hbp,Zbo]
    .rw [gG (q:=f) (by omega),Zbo]
  .exact h0 j hj hp
 .exact gG (by omega)
end Go.Ev
namespace Go.Ev
open Go Go.Proofs
variable {B:Nat}
set_option maxRecDepth 100000
def conQ (b:List Rat) (l:List Int) (j:Nat):Rat:=(l.take j).foldl (λs c=>s+at' b c.toNat) 0
theorem zok {b:List Rat} {l:List Int} {j:Nat} (h:j<l.length):conQ b l (j+1)=conQ b l j+at' b l[j].toNat:=by
 unfold conQ;rw [Zar,Zgu h,Zde,Zgs];rfl
theorem zmp {b:List Rat} {n:Nat} {l:List Int} (hb:b.length=n) (hl:AscL n l):∀ j,j<=l.length->conQ b l j=dot (sD n (l.take j)) b
 | 0,_=>by
  have:dot (sD n []) b=0:=d7 _ _ (cN n);rw [Zdj,this];rfl
 | j+1,hj=>by
  have hx:l[j]? = some l[j]:=Zgu (by omega);rw [zok (by omega),zmp hb hl j (by omega),Zar,hx,Zde];refine (zf3 hb (hl.2.2 _ (Zas (by omega))) (λhm => ?_) λx hx=>(hl.2.2 _ (Zbn hx)).1).symm;obtain ⟨i,hi,he⟩:=Zeg hm;rw [Zaj] at hi;rw [List.getElem_take] at he;have:=Zca.1 hl.2.1 i j (by omega) (by omega) (by omega);omega
abbrev eR (f:List Rat):AV:=.lst 1 f.length (f.map T9)
theorem qak {f:List Rat} {i:Nat} (h:i<f.length):(f.map T9)[i]? = some (T9 (at' f i)):=by rw [Zgw,uU h];rfl
theorem qdw {f:List Rat} (hl:f.length<=1000) (hs:∀ x∈f,SmlQ x/\x.den<1000000000):Pure Tryz.prog B 12 [eR f] (· = I 0):=by
 refine zV λh y K H0 hK=>zL zR yK 2000 λhf' => ?_;rw [F12.go,F12.t22,zA,F12.zu,zA,zA,F12.zo,zJ];refine F12.eT (λk x2 h' y'=>∃ i:Nat,x2=I (i:Int)/\k+i=f.length/\h'=h/\y'=y) (m:=f.length) (by omega) ⟨0,rfl,rfl,rfl,rfl⟩ ?_;rintro k z1 z2 z3 z4 z5 h3 y3 R ⟨i,rfl,hk,rfl,rfl⟩ hR;rw [F12.t15,zA,zA,F12.yt,zS,yu,zB,F12.v4];by_cases ci:i<f.length
 .rw [Zac (by omega),zD,zE,zA,zJ,zA,F12.dz,xu (i:=i) rfl ci,ldL (qak ci)];refine zta (hs _ (Zad (uU ci))).1 (hs _ (Zad (uU ci))).2 _ _ _ _ ?_;rintro _ rfl _;rw [zA,F12.uj,qj,Zac rfl,Zah,zB,F12.v5,zC,zE,F12.rX,jg (by omega)];exact hR (k-1) _ _ _ _ _ _ _ (by omega) ⟨i+1,by congr 1,by omega,rfl,rfl⟩
 .rw [Zab (by omega),zC,zY,yD,zA,F12.rY];simp only [zG,zQ];rw [F12.ret];exact hK _ _ _ _ _ H0 (zK rfl) rfl
theorem zv9 {M N:Nat} {a b:Rat} (ha:dh M a) (hb:dh N b):dh (M*N) (a*b):=by
 have key:∀ {M:Nat} {a:Rat},dh M a->Dn a.den M a:=λ{M a} h=>⟨a.num,by
  have e:=wJ a;rw [Rat.divInt_eq_div] at e;have:=c9 (kG a)
  grind,h.1⟩
 exact ((key ha).mul (key hb)).nm (Nat.mul_pos a.den_pos b.den_pos) (Zbl ha.2 hb.2)
theorem dh.qd {M:Nat} {q:Rat} (h:dh M q) (hM:M<1000000000):Qd q:=⟨Zdd h.1 hM,Zdd h.2 hM⟩
theorem zk3 (R:List (List Rat)):rD (gS R)=true:=qJ λv hv=>by
 obtain ⟨l,_,rfl⟩:=Zao.1 hv;exact qJ λv hv=>by obtain ⟨x,_,rfl⟩:=Zao.1 hv;rfl
theorem zk4 {M0:List (List Rat)} {Q:List (List Rat)->Prop} (h190:∀ {B},Pure Tryz.prog B 41 [gS M0] (λv=>∃ R y,Q R/\v=.tup [gS R,y])):Pure Tryz.prog B 14 [gS M0] (λv=>∃ R,Q R/\v=gS R):=by
 refine zV λh g K H0 hK=>zL zR yK 100 λhf => ?_;rw [F14.go,F14.t5,zA,F14.zu,zA,F14.zo];refine h190 _ _ _ _ ?_;rintro _ ⟨R,y,hR,rfl⟩ _;rw [yZ,zA,F14.yt];simp only [zG,zQ];rw [F14.ret];exact hK _ _ _ _ _ H0 (zK (zk3 R)) ⟨R,hR,rfl⟩
theorem zol:Pure Tryz.prog B 41 [gS []] (· = .tup [gS [],.lst 1 0 []]):=by
 refine zV λh y K H0 hK=>zL zR yK 100010 λhf => ?_;rw [F41.go,F41.t84,zA,F41.zu,zA,F41.zo];refine zsk (M:=[]) (w:=1) H0 (Zaf _) (by decide) (by simp) (by simp) λo rs h1 y1 hrs H1 => ?_;obtain rfl:rs=[]:=Zei.1 hrs;have hlen:∀ KK:AV->OP,sLen (uf o 1 0) KK=KK (I 0):=λKK=>H1.oH (k:=0) rfl;have w0:∀ {p:Pa} {KK:Kw Prop},KK (I 0) h1 y1=.ok True->(CS Tryz.prog B).fn 86 p [uf o 1 0] h1 y1 KK=.ok True:=λ{p KK} hKK=>by
  refine zL zR yK 100 λhf => ?_;rw [F86.go,F86.t9,zA,F86.zu,zA,zA,F86.zo,hlen,qf,Zac (by rfl),zB,F86.v2,zD,zA,F86.yt];simp only [zG,zQ];rw [F86.ret];exact hKK
 rw [show ([]:List (List Rat)).length=0 from rfl,zA,F41.yt,zA,zA,F41.vk,zJ];refine F41.zwt (λm x3 x4 h' y'=>x3=.zb/\x4=I 0/\h'=h1/\y'=y1) (m:=0) (by omega) ⟨rfl,rfl,rfl,rfl⟩ ?_;rintro m z3 z4 z5 z6 z7 z8 z9 z10 z11 z12 z13 z14 z15 z16 z17 z18 h3 y3 R ⟨rfl,rfl,rfl,rfl⟩ hR;rw [F41.t75,zA,zA,F41.nY,F41.r4_0,F41.zes];refine w0 ?_;rw [F41.r4_1,F41.zet,yu,Zab (by decide)];simp only [yY];rw [zW,F41.t5,zB,F41.v12,zC,zY,yD,F41.t80,zA,F41.zwu,yH];have cut:∀ op:AV->OP,xI 1 (uf o 1 0) none (some (I 0)) none op=op (uf o 1 0):=λop=>H1.qcx (k:=0) (i:=0) (op:=op) rfl (Zaf 0);rw [cut];simp only [zG,zQ];rw [F41.ret];exact hK _ _ _ _ _ H1 (jI (H1.zbo (k:=0) rfl (by simp)) (.oQ 1)) rfl
def kvF (n:Nat) (E:List (List Rat)) (P:List Nat) (c:Nat):Nat->List Rat
 | 0=>kL n c
 | k+1=>(kvF n E P c k).set (P.getD k 0) (-(at' (E.getD k []) c))
abbrev kvec (n:Nat) (E:List (List Rat)) (P:List Nat) (c:Nat):List Rat:=kvF n E P c P.length
theorem fW (n:Nat) (E:List (List Rat)) (P:List Nat) (c:Nat):∀ k,(kvF n E P c k).length=n
 | 0=>gT n c
 | k+1=>by rw [kvF,Zat,fW n E P c k]
end Go.Ev
namespace Go.Ev
open Go Go.Proofs
theorem zcm (F G:Nat->Rat):∀ k,sR k (λj=>F j+G j)=sR k F+sR k G
 | 0=>by simp only [sR];grind
 | k+1=>by rw [sR,sR,sR,zcm F G k];grind
theorem vR (c:Rat) (F:Nat->Rat):∀ k,sR k (λj=>c*F j)=c*sR k F
 | 0=>by simp only [sR];grind
 | k+1=>by rw [sR,sR,vR c F k];grind
theorem zmq {fr:List Nat} (hnd:fr.Nodup) {m:Nat} (hl:∀ x∈fr,x<m) (F:Nat->Rat) (hz:∀ k,k∉fr->F k=0):sR fr.length (λa=>F (fr.getD a 0))=sR m F:=by
 have key:∀ (fr:List Nat),fr.Nodup->(∀ x∈fr,x<m)->∀ F:Nat->Rat,(∀ k,k∉fr->F k=0)->sR fr.length (λa=>F (fr.reverse.getD a 0))=sR m F:=by
  intro fr
  induction fr with
  | nil=>intro _ _ F hz;exact (wV λb _=>hz b (by simp)).symm
  | cons x l ih =>
   intro hnd hl F hz;obtain ⟨hx,hnd2⟩:=Zcc.1 hnd;have e:=ih hnd2 (λy hy=>hl y (Zam _ hy)) (λk=>if k=x then 0 else F k) λk hk=>by
    by_cases q:k=x
    .rw [if_pos q]
    .rw [if_neg q];exact hz k λw=>(Zaq.1 w).elim q hk
   have hxm:=hl x (Zai ..);have e2:sR m F=sR m (λk=>if k=x then 0 else F k)+F x:=by
    have:sR m F=sR m (λk=>(if k=x then 0 else F k)+(if x=k then 1 else 0)*F k):=jF λk _=>by
     by_cases q:k=x
     .rw [if_pos q,if_pos q.symm];grind
     .rw [if_neg q,if_neg λw=>q w.symm];grind
    rw [this,zcm,zf7,if_pos hxm]
   rw [Zbc,sR,e2,<- e]
   congr 1
   .refine jF λa ha => ?_;have h1:(x::l).reverse.getD a 0=l.reverse.getD a 0:=by
     rw [Zfn,Zaa,Zha (by rw [Zbm];exact ha),<- Zaa]
    rw [h1,if_neg];intro q;exact hx (List.mem_reverse.1 (q ▸ yI (by rw [Zbm];exact ha)))
   .rw [Zfn,Zaa,Zgx (by rw [Zbm];exact Zaf _),Zbm,Zcv];rfl
 have:=key fr.reverse ((List.reverse_perm fr).nodup_iff.2 hnd) (λx hx=>hl x (List.mem_reverse.1 hx)) F λk hk=>hz k λq=>hk (List.mem_reverse.2 q);rw [Zet,Zbm] at this;exact this
theorem qal {P:List Nat} (h:P.Pairwise (· < ·)) {a b:Nat} (hab:a<b) (hb:b<P.length):P.getD a 0≠P.getD b 0:=by
 have:=Zca.1 h a b (by omega) hb hab;rw [Zaa,Zaa,Zgu (show a<P.length by omega),Zgu hb];exact Nat.ne_of_lt this
end Go.Ev
namespace Go.Ev
open Go Go.Proofs
variable {B:Nat}
set_option maxRecDepth 100000
theorem mK {α:Type} [DecidableEq α]:∀ (l r:List α),l.Nodup->(∀ x∈l,x∈r)->∃ s,r.Perm (l++s)
 | [],r,_,_=>⟨r,.refl _⟩
 | a::l,r,hn,hs=>by
  obtain ⟨h1,h2⟩:=Zcc.1 hn;have ha:=hs a (by simp);obtain ⟨s,hp⟩:=mK l (r.erase a) h2 λx hx=>(Zgb (by rintro rfl;exact h1 hx)).2 (hs x (by simp [hx]));exact ⟨s,(Zgc ha).trans (.cons a hp)⟩
theorem qU {α:Type} [DecidableEq α] {l r:List α} (h1:l.Nodup) (h2:∀ x∈l,x∈r) (h3:r.length<=l.length):r.Perm l:=by
 obtain ⟨s,hs⟩:=mK l r h1 h2;have hl:=hs.length_eq;obtain rfl:s=[]:=Zcm (by rw [Zag] at hl;omega);simpa using hs
end Go.Ev
namespace Go.Ev
open Go Go.Proofs
structure Ee (n:Nat) (E:List (List Rat)) (P:List Nat):Prop where
 len:E.length=P.length
 row:∀ l∈E,l.length=n
 rng:∀ p∈P,p<n
 asc:P.Pairwise (· < ·)
 one:∀ a b,a<P.length->b<P.length->at' (E.getD a []) (P.getD b 0)=if a=b then 1 else 0
 lead:∀ a,a<P.length->∀ c,c<P.getD a 0->at' (E.getD a []) c=0
 sm:P.length<=7->∀ c:Nat->Nat,(∀ j,j<=P.length->c j<n)->∃ x:Nat->Int,(∃ j,j<=P.length/\x j≠0)/\(∀ j,(x j).natAbs<=ZB)/\∀ q∈E,dot q (plF n c (λi=>(x i:Rat)) (P.length+1))=0
theorem Gd.ee {w j:Nat} {M0 M:List (List Rat)} {P:List Nat} (h:Gd w M0 j M P) (hS:SmP M0) (hsg:∀ o∈M0,o.length=w/\∀ c,Sg (at' o c)):Ee w (M.take P.length) P:=by
 have hpm:=h.pm;have g:∀ a,a<P.length->(M.take P.length).getD a []=M.getD a []:=λa ha=>by
  rw [Zaa,Zhb ha,<- Zaa]
 refine ⟨by rw [Zaj];omega,λl hl=>h.row l (Zbn hl),λp hp=>Zdc (h.rng p hp) h.jw,h.asc,λa b ha hb=>by rw [g a ha];exact h.one a b ha hb,λa ha c hc=>by rw [g a ha];exact h.lead a ha c hc,λhP c hc => ?_⟩;obtain ⟨O,hol,hom,hker,_⟩:=h.org;obtain ⟨x,h1,h2,h3⟩:=hS O c hom (by omega);rw [hol] at h1;refine ⟨x,h1,h2,λq hq => ?_⟩;obtain ⟨a,ha⟩:=Zau.1 hq;have hal:=(Zgv.1 ha).1;rw [Zaj] at hal;have hqa:M.getD a []=q:=by rw [<- g a (by omega),Zaa,ha];rfl
 rw [<- hqa];refine hker _ (qT _) (λo ho => ?_) a (by omega);rw [vW (hsg o (hom o ho)).1 _ λi hi=>hc i (by omega)];have:=h3 o ho;rw [hol] at this;exact this
theorem dG {P:List Nat} (h:P.Pairwise (· < ·)):P.Nodup:=h.imp λh=>Nat.ne_of_lt h
theorem fZ {P:List Nat} (h:P.Nodup) {a b:Nat} (ha:a<P.length) (hb:b<P.length) (hab:a≠b):P.getD a 0≠P.getD b 0:=λq=>by
 have ga:=uA (l:=P) (i:=a) (d:=0) ha;have gb:=uA (l:=P) (i:=b) (d:=0) hb;rw [<- q,<- ga] at gb;exact hab ((List.getElem?_inj hb h).1 gb).symm
theorem zgb {n c j:Nat} {E:List (List Rat)} {P:List Nat}:∀ k,(∀ a,a<k->P.getD a 0≠j)->at' (kvF n E P c k) j=at' (kL n c) j
 | 0,_=>rfl
 | k+1,h=>by
  rw [kvF,at',Zaa,Zhf (h k (by omega)),<- Zaa];exact zgb k λa ha=>h a (by omega)
theorem zmr {n c:Nat} {E:List (List Rat)} {P:List Nat} {g:List Rat} (hE:Ee n E P) (hc:c<n) (hcP:c∉P) (hg:g.length=n):∀ k,k<=P.length->dot (kvF n E P c k) g=at' g c-sR k λb=>at' (E.getD b []) c*at' g (P.getD b 0)
 | 0,_=>by
  rw [kvF,gE,q9 hg hc];show _=at' g c-0
  grind
 | k+1,hk=>by
  have hpn:=hE.rng _ (yI (l:=P) (i:=k) (d:=0) (by omega));have h0:at' (kvF n E P c k) (P.getD k 0)=0:=by
   rw [zgb k λa ha=>qal hE.asc ha (by omega),fV,if_neg];exact λq=>hcP (by rw [q.1];exact yI (by omega))
  rw [kvF,bS _ _ _ _ (by rw [fW];exact hpn) (by rw [fW,hg]),zmr hE hc hcP hg k (by omega),h0,sR]
  grind
theorem ztd {n c:Nat} {E:List (List Rat)} {P:List Nat} {g:List Rat} (hE:Ee n E P) (hc:c<n) (hcP:c∉P) (hg:g.length=n):dot (kvec n E P c) g=at' g c-sR P.length λb=>at' (E.getD b []) c*at' g (P.getD b 0):=zmr hE hc hcP hg _ (Zaf _)
theorem qdx {n c j:Nat} {E:List (List Rat)} {P:List Nat} (hj:j∉P):at' (kvec n E P c) j=if c=j/\j<n then 1 else 0:=by
 rw [zgb _ λa ha q=>hj (by rw [<- q];exact yI ha),fV]
theorem fw {n c:Nat} {ps:List Nat}:c∈frQ n ps↔c<n/\c∉ps:=by
 unfold frQ;rw [Zbr,Zay];simp
theorem vF (n:Nat) (ps:List Nat):(frQ n ps).Nodup:=(Zdi (n:=n)).sublist Zdq
theorem qam {n c:Nat} {E:List (List Rat)} {P:List Nat} (hE:Ee n E P) (hc:c<n) (hcP:c∉P):∀ q∈E,dot q (kvec n E P c)=0:=λq hq=>by
 obtain ⟨a,ha⟩:=Zau.1 hq;have hal:=(Zgv.1 ha).1;have hlen:=hE.len;have hqa:E.getD a []=q:=by rw [Zaa,ha];rfl
 rw [gE,ztd hE hc hcP (hE.row q hq),qR (i:=a) (x:=λb=>at' (E.getD b []) c) λb hb => ?_,if_pos (by omega),hqa]
 .grind
 .rw [<- hqa,hE.one a b (by omega) hb,Zfj]
theorem ziw {n:Nat} {P:List Nat} (hnd:P.Nodup) (hr:∀ p∈P,p<n) (H:Nat->Rat):sR n H=(sR P.length λa=>H (P.getD a 0))+sR (frQ n P).length λi=>H ((frQ n P).getD i 0):=by
 have e1:=zmq hnd hr (λj=>if j∈P then H j else 0) λk hk=>if_neg hk;have e2:=zmq (vF n P) (λx hx=>(fw.1 hx).1) (λj=>if j∈frQ n P then H j else 0) λk hk=>if_neg hk;have e3:sR n H=sR n (λj=>(if j∈P then H j else 0)+if j∈frQ n P then H j else 0):=jF λj hj=>by
  by_cases q:j∈P
  .rw [if_pos q,if_neg λw=>(fw.1 w).2 q];grind
  .rw [if_neg q,if_pos (fw.2 ⟨hj,q⟩)];grind
 rw [e3,zcm,<- e1,<- e2]
 congr 1
 .exact jF λa ha=>if_pos (yI ha)
 .exact jF λa ha=>if_pos (yI ha)
theorem zgc (F:Nat->Nat->Rat) (m:Nat):∀ k,sR k (λi=>sR m λj=>F i j)=sR m λj=>sR k λi=>F i j
 | 0=>(wV λ_ _=>rfl).symm
 | k+1=>by rw [sR,zgc F m k,<- zcm];exact jF λj _=>rfl
theorem nA {a b:List Rat} {n:Nat} (ha:a.length=n) (hb:b.length=n):dot a b=sR n λj=>at' a j*at' b j:=by rw [zs6 _ _ (by rw [ha,hb]),ha]
theorem zwa {n:Nat} {E:List (List Rat)} {P:List Nat} {v g:List Rat} (hE:Ee n E P) (hv:v.length=n) (hg:g.length=n) (hk:∀ q∈E,dot q v=0):dot v g=sR (frQ n P).length λi=>at' v ((frQ n P).getD i 0)*dot (kvec n E P ((frQ n P).getD i 0)) g:=by
 have hnd:=dG hE.asc;have hlen:=hE.len;have hpv:∀ b,b<P.length->at' v (P.getD b 0) = -(sR (frQ n P).length λi=>at' v ((frQ n P).getD i 0)*at' (E.getD b []) ((frQ n P).getD i 0)):=λb hb=>by
  have hm:=yI (l:=E) (i:=b) (d:=[]) (by omega);have e:=hk _ hm;rw [nA (hE.row _ hm) hv,ziw hnd hE.rng,qR (i:=b) (x:=λa=>at' v (P.getD a 0)) (λa ha=>by rw [hE.one b a hb ha]),if_pos hb] at e;have e2:(sR (frQ n P).length λi=>at' (E.getD b []) ((frQ n P).getD i 0)*at' v ((frQ n P).getD i 0))=sR (frQ n P).length λi=>at' v ((frQ n P).getD i 0)*at' (E.getD b []) ((frQ n P).getD i 0):=jF λi _=>Zfj ..;rw [e2] at e
  grind
 have e1:(sR (frQ n P).length λi=>at' v ((frQ n P).getD i 0)*dot (kvec n E P ((frQ n P).getD i 0)) g)=(sR (frQ n P).length λi=>at' v ((frQ n P).getD i 0)*at' g ((frQ n P).getD i 0)) + -1*sR (frQ n P).length λi=>sR P.length λb=>at' v ((frQ n P).getD i 0)*at' (E.getD b []) ((frQ n P).getD i 0)*at' g (P.getD b 0):=by
  rw [<- vR,<- zcm];refine jF λi hi => ?_;have hm:=fw.1 (yI (l:=frQ n P) (i:=i) (d:=0) hi);rw [ztd hE hm.1 hm.2 hg];have e3:(sR P.length λb=>at' v ((frQ n P).getD i 0)*at' (E.getD b []) ((frQ n P).getD i 0)*at' g (P.getD b 0))=at' v ((frQ n P).getD i 0)*sR P.length λb=>at' (E.getD b []) ((frQ n P).getD i 0)*at' g (P.getD b 0):=by
   rw [<- vR];exact jF λb _=>Rat.mul_assoc ..
  rw [e3]
  grind
 rw [e1,zgc,nA hv hg,ziw hnd hE.rng];have e4:(sR P.length λa=>at' v (P.getD a 0)*at' g (P.getD a 0)) = -1*sR P.length λb=>sR (frQ n P).length λi=>at' v ((frQ n P).getD i 0)*at' (E.getD b []) ((frQ n P).getD i 0)*at' g (P.getD b 0):=by
  rw [<- vR];refine jF λb hb => ?_;rw [hpv b hb];have e5:(sR (frQ n P).length λi=>at' v ((frQ n P).getD i 0)*at' (E.getD b []) ((frQ n P).getD i 0)*at' g (P.getD b 0))=at' g (P.getD b 0)*sR (frQ n P).length λi=>at' v ((frQ n P).getD i 0)*at' (E.getD b []) ((frQ n P).getD i 0):=by
   rw [<- vR];exact jF λi _=>by rw [Zfj]
  rw [e5]
  grind
 rw [e4]
 grind
theorem c6 {n:Nat} {ps:List Nat} (hnd:ps.Nodup) (hr:∀ p∈ps,p<n):(frQ n ps).length+ps.length=n:=by
 have h1:((List.range n).filter λx=>decide (x∈ps)).length=ps.length:=by
  refine (qU (l:=ps) hnd (λx hx => ?_) ?_).length_eq
  .exact Zbr.2 ⟨Zay.2 (hr x hx),by simpa using hx⟩
  .have hn2:((List.range n).filter λx=>decide (x∈ps)).Nodup:=(Zdi (n:=n)).sublist Zdq;obtain ⟨s,hs⟩:=mK _ ps hn2 λx hx=>by simpa using (Zbr.1 hx).2
   have:=hs.length_eq;rw [Zag] at this;omega
 have h2:=List.length_eq_countP_add_countP (λx=>decide (x∈ps)) (l:=List.range n);rw [Zdf,List.countP_eq_length_filter,List.countP_eq_length_filter,h1] at h2;have e:(List.range n).filter (λa=>decide (¬ (λx=>decide (x∈ps)) a=true))=frQ n ps:=by
  unfold frQ;refine Zfm λx _ => ?_;by_cases c:x∈ps <;> simp [c]
 rw [e] at h2;omega
theorem zte {i k j:Nat} {li lr:List Rat} {M:List (List Rat)} (hk:k<M.length) (f:List Rat):dot ((sQ i k j li lr M).getD k []) f=(at' li j)⁻¹*dot li f:=by
 rw [bC hk,if_pos rfl,qB]
theorem ztf {w i k j a:Nat} {li lr:List Rat} {M:List (List Rat)} {f:List Rat} (hrow:∀ l∈M,l.length=w) (hli:M[i]? = some li) (hlr:M[k]? = some lr) (ha:a<M.length) (hne:a≠k) (hr:dot li f=0):dot ((sQ i k j li lr M).getD a []) f=dot (if a=i then lr else M.getD a []) f:=by
 have hs:swR i k lr (jE (at' li j)⁻¹ li) M a=if a=i then lr else M.getD a []:=by unfold swR;rw [if_neg hne]
 have hl:(if a=i then lr else M.getD a []).length=(jE (at' li j)⁻¹ li).length:=by
  rw [wH,hrow _ (Zad hli)];split
  .exact hrow _ (Zad hlr)
  .exact hrow _ (yI ha)
 rw [bC ha,if_neg hne,hs,gZ _ _ _ _ hl,qB,hr,Zbo,Zbo];grind
structure Ge (w:Nat) (K0:List (List Rat)) (j:Nat) (M:List (List Rat)) (P:List Nat):Prop where
 gd:Gd w K0 j M P
 ml:M.length=K0.length
 per:∃ s:Nat->Nat,(∀ a,a<K0.length->s a<K0.length)/\(∀ a b,a<K0.length->b<K0.length->s a=s b->a=b)/\(∀ f:List Rat,f.length=w->((∀ b,b<P.length->dot (M.getD b []) f=0)↔∀ b,b<P.length->dot (K0.getD (s b) []) f=0))/\∀ a,P.length<=a->a<K0.length->∀ f:List Rat,f.length=w->(∀ b,b<P.length->dot (M.getD b []) f=0)->dot (M.getD a []) f=dot (K0.getD (s a) []) f
theorem Ge.start {w:Nat} {K0:List (List Rat)} (h:∀ l∈K0,l.length=w):Ge w K0 0 K0 [] :=
 ⟨Gd.start h,rfl,id,λa ha=>ha,λa b _ _ e=>e,λf _=>⟨λ_ b hb=>by simp at hb,λ_ b hb=>by simp at hb⟩,λa _ _ f _ _=>rfl⟩
theorem Ge.skip {w j:Nat} {K0 M:List (List Rat)} {P:List Nat} (h:Ge w K0 j M P) (hj:j<w) (hz:∀ i' l,P.length<=i'->M[i']? = some l->l.getD j 0=0):Ge w K0 (j+1) M P:=⟨h.gd.skip hj hz,h.ml,h.per⟩
theorem Ge.piv {w j i:Nat} {K0 M:List (List Rat)} {P:List Nat} {li lr:List Rat} (h:Ge w K0 j M P) (hj:j<w) (hi:P.length<=i) (hli:M[i]? = some li) (hlr:M[P.length]? = some lr) (hv:li.getD j 0≠0):Ge w K0 (j+1) (sQ i P.length j li lr M) (P++[j]):=by
 have him:=(Zgv.1 hli).1;have hkm:=(Zgv.1 hlr).1;have gi:M.getD i []=li:=by rw [Zaa,hli];rfl
 have gk:M.getD P.length []=lr:=by rw [Zaa,hlr];rfl
 have hml:(sQ i P.length j li lr M).length=M.length:=by unfold sQ ay;rw [Zdk,Zat,Zat,Zat]
 have plen:(P++[j]).length=P.length+1:=by rw [Zag,Zbw]
 have hm:=h.ml;obtain ⟨s,s1,s2,s3,s4⟩:=h.per;have hv':at' li j≠0:=hv;have d0:=λf=>zte (i:=i) (k:=P.length) (j:=j) (li:=li) (lr:=lr) hkm f;have liz:∀ f,dot ((sQ i P.length j li lr M).getD P.length []) f=0->dot li f=0:=λf e=>by
  rw [d0] at e
  grind
 have dA:=λf a (ha:a<M.length) (hne:a≠P.length) (hr:dot li f=0)=>ztf (j:=j) h.gd.row hli hlr ha hne hr;have low:∀ f a,a<P.length->dot li f=0->dot ((sQ i P.length j li lr M).getD a []) f=dot (M.getD a []) f:=λf a ha hr=>by
  rw [dA f a (by omega) (by omega) hr,if_neg (by omega)]
 obtain ⟨t,ht⟩:∃ t:Nat->Nat,t=λa=>if a=P.length then s i else if a=i then s P.length else s a:=⟨_,rfl⟩
 have tk:t P.length=s i:=by rw [ht];exact if_pos rfl
 have ti:i≠P.length->t i=s P.length:=λe=>by rw [ht];show (if i=P.length then _ else _)=_;rw [if_neg e,if_pos rfl]
 have to:∀ a,a≠P.length->a≠i->t a=s a:=λa e1 e2=>by rw [ht];show (if a=P.length then _ else _)=_;rw [if_neg e1,if_neg e2]
 have old:∀ f:List Rat,f.length=w->(∀ b,b<(P++[j]).length->dot ((sQ i P.length j li lr M).getD b []) f=0)->dot li f=0/\∀ b,b<P.length->dot (M.getD b []) f=0:=λf hf hz=>by
  have hl:=liz f (hz P.length (by omega));exact ⟨hl,λb hb=>by rw [<- low f b hb hl];exact hz b (by omega)⟩
 refine ⟨h.gd.piv hj hi hli hlr hv,by rw [hml,hm],t,λa ha => ?_,λa b ha hb e => ?_,λf hf=>⟨λhz b hb => ?_,λhz b hb => ?_⟩,λa ha ham f hf hz => ?_⟩
 .by_cases e1:a=P.length
  .rw [e1,tk];exact s1 i (by omega)
  .by_cases e2:a=i
   .subst e2;rw [ti e1];exact s1 _ (by omega)
   .rw [to a e1 e2];exact s1 a ha
 .have inj:=s2;by_cases a1:a=P.length <;> by_cases b1:b=P.length
  .omega
  .rw [a1,tk] at e;by_cases b2:b=i
   .subst b2;rw [ti b1] at e;have:=inj _ _ (by omega) (by omega) e;omega
   .rw [to b b1 b2] at e;have:=inj _ _ (by omega) hb e;omega
  .rw [b1,tk] at e;by_cases a2:a=i
   .subst a2;rw [ti a1] at e;have:=inj _ _ (by omega) (by omega) e;omega
   .rw [to a a1 a2] at e;have:=inj _ _ ha (by omega) e;omega
  .by_cases a2:a=i <;> by_cases b2:b=i
   .omega
   .subst a2;rw [ti a1,to b b1 b2] at e;have:=inj _ _ (by omega) hb e;omega
   .subst b2;rw [ti b1,to a a1 a2] at e;have:=inj _ _ ha (by omega) e;omega
   .rw [to a a1 a2,to b b1 b2] at e;exact inj _ _ ha hb e
 .obtain ⟨hl,ho⟩:=old f hf hz;rw [plen] at hb;by_cases e:b=P.length
  .rw [e,tk,<- s4 i hi (by omega) f hf ho,gi];exact hl
  .rw [to b e (by omega)];exact (s3 f hf).1 ho b (by omega)
 .have ho:∀ b,b<P.length->dot (M.getD b []) f=0:=(s3 f hf).2 λb hb=>by
   have:=hz b (by omega)
   rwa [to b (by omega) (by omega)] at this
  have hl:dot li f=0:=by
   have:=hz P.length (by omega);rw [tk,<- s4 i hi (by omega) f hf ho,gi] at this;exact this
  rw [plen] at hb;by_cases e:b=P.length
  .rw [e,d0,hl,Zbo]
  .rw [low f b (by omega) hl];exact ho b (by omega)
 .obtain ⟨hl,ho⟩:=old f hf hz;rw [plen] at ha;rw [dA f a (by omega) (by omega) hl];by_cases e:a=i
  .subst e;rw [if_pos rfl,ti (by omega),<- gk];exact s4 P.length (Zaf _) (by omega) f hf ho
  .rw [if_neg e,to a (by omega) e];exact s4 a (by omega) ham f hf ho
theorem zx6 {n c0:Nat} {c:Nat->Nat} {x:Nat->Rat} {k:Nat} (hc:∀ i,i<k->c i<n) (h0:c0<n):at' (plF n c x k) c0=sR k λi=>(if c i=c0 then 1 else 0)*x i:=by
 rw [<- q9 (qT k) h0,gE,vW (gT n c0) _ hc];refine jF λi hi => ?_;rw [fV];by_cases e:c i=c0
 .rw [if_pos e,if_pos ⟨e.symm,hc i hi⟩]
 .rw [if_neg e,if_neg λq=>e q.1.symm]
structure Kb (n:Nat) (E:List (List Rat)) (P:List Nat) (K0:List (List Rat)) (Z:List Nat):Prop where
 len:K0.length=Z.length
 cnt:Z.length+P.length=n
 row:∀ l∈K0,l.length=n
 zn:∀ z∈Z,z<n
 nd:Z.Nodup
 dl:∀ b b',b<Z.length->b'<Z.length->at' (K0.getD b []) (Z.getD b' 0)=if b=b' then 1 else 0
 ker:∀ b,b<Z.length->∀ q∈E,dot q (K0.getD b [])=0
 span:∀ v g:List Rat,v.length=n->g.length=n->(∀ q∈E,dot q v=0)->dot v g=sR Z.length λi=>at' v (Z.getD i 0)*dot (K0.getD i []) g
theorem Ge.small {n j:Nat} {E M K0:List (List Rat)} {P P2 Z0:List Nat} (hE:Ee n E P) (hP:P.length<=7) (hB:Kb n E P K0 Z0) (h:Ge n K0 j M P2) {a:Nat} (ha:a<M.length):∃ t,1<=t/\t<=ZB/\∀ c,Dn t ZB (at' (M.getD a []) c):=by
 have hcount:=hB.cnt;have hKl:=hB.len;have hml:=h.ml;rw [hKl] at hml;have hg:=h.gd;have hpm:=hg.pm;obtain ⟨s,s1,s2,s3,s4⟩:=h.per;rw [hKl] at s1 s2 s4;have Fm:∀ b,b<Z0.length->Z0.getD b 0<n:=λb hb=>hB.zn _ (yI hb);have krow:∀ b,b<Z0.length->(K0.getD b []).length=n:=λb hb=>hB.row _ (yI (by omega));have Finj:∀ b b',b<Z0.length->b'<Z0.length->Z0.getD b 0=Z0.getD b' 0->b=b':=λb b' hb hb' e=>Classical.byContradiction λq=>fZ hB.nd hb hb' q e;have kF:∀ b b',b<Z0.length->b'<Z0.length->dot (K0.getD (s b) []) (kL n (Z0.getD (s b') 0))=if b=b' then 1 else 0:=λb b' hb hb'=>by
  rw [q9 (krow _ (s1 b hb)) (Fm _ (s1 b' hb')),hB.dl _ _ (s1 b hb) (s1 b' hb')];by_cases e:b=b'
  .rw [if_pos e,if_pos (by rw [e])]
  .rw [if_neg e,if_neg λq=>e (s2 b b' hb hb' q)]
 have kill:∀ b',P2.length<=b'->b'<Z0.length->∀ b,b<P2.length->dot (M.getD b []) (kL n (Z0.getD (s b') 0))=0:=λb' h1 h2=>(s3 _ (gT ..)).2 λb hb=>by rw [kF b b' (by omega) h2,if_neg (by omega)]
 have rowl:∀ b,b<M.length->(M.getD b []).length=n:=λb hb=>hg.row _ (yI hb);have P2n:∀ b,b<P2.length->P2.getD b 0<j:=λb hb=>hg.rng _ (yI hb);have hjn:=hg.jw;obtain ⟨z,hz⟩:∃ z:Nat->Nat,z=λb=>if b<P2.length then P2.getD b 0 else Z0.getD (s b) 0:=⟨_,rfl⟩
 have zl:∀ b,b<P2.length->z b=P2.getD b 0:=λb hb=>by rw [hz];exact if_pos hb
 have zh:∀ b,P2.length<=b->z b=Z0.getD (s b) 0:=λb hb=>by rw [hz];exact if_neg (by omega)
 have zn:∀ b,b<Z0.length->z b<n:=λb hb=>by
  by_cases e:b<P2.length
  .rw [zl b e];have:=P2n b e;omega
  .rw [zh b (by omega)];exact (Fm _ (s1 b hb))
 have Mz:∀ a b,a<M.length->b<Z0.length->at' (M.getD a []) (z b)=if a=b then 1 else 0:=λa b ha hb=>by
  by_cases eb:b<P2.length
  .rw [zl b eb];by_cases ea:a<P2.length
   .exact hg.one a b ea eb
   .rw [hg.zer a (by omega) _ (P2n b eb),if_neg (by omega)]
  .rw [zh b (by omega),<- q9 (rowl a ha) (Fm _ (s1 b hb))];by_cases ea:a<P2.length
   .rw [kill b (by omega) hb a ea,if_neg (by omega)]
   .rw [s4 a (by omega) (by omega) _ (gT ..) (kill b (by omega) hb),kF a b (by omega) hb]
 have zinj:∀ b b',b<Z0.length->b'<Z0.length->z b=z b'->b=b':=λb b' hb hb' e=>Classical.byContradiction λq=>by
  have e1:=Mz b b (by omega) hb;have e2:=Mz b b' (by omega) hb';rw [e,e2,if_neg q,if_pos rfl] at e1;exact absurd e1 (by decide)
 obtain ⟨Z,hZ⟩:∃ Z:List Nat,Z=((List.range Z0.length).filter λb=>decide (b≠a)).map z:=⟨_,rfl⟩;have Zm:∀ y,y∈Z↔∃ b,b<Z0.length/\b≠a/\z b=y:=λy=>by
  rw [hZ,Zao];constructor
  .rintro ⟨b,hb,rfl⟩;obtain ⟨h1,h2⟩:=Zbr.1 hb;exact ⟨b,Zay.1 h1,by simpa using h2,rfl⟩
  .rintro ⟨b,h1,h2,rfl⟩;exact ⟨b,Zbr.2 ⟨Zay.2 h1,by simpa using h2⟩,rfl⟩
 have Znd:Z.Nodup:=by
  rw [hZ];refine Zdz.2 ?_;have hr:((List.range Z0.length).filter λb=>decide (b≠a)).Nodup:=(Zdi (n:=Z0.length)).sublist Zdq;refine List.Pairwise.imp_of_mem (λ{x y} hx hy hne e => ?_) hr;exact hne (zinj x y (Zay.1 (Zbr.1 hx).1) (Zay.1 (Zbr.1 hy).1) e)
 have Zn:∀ y∈Z,y<n:=λy hy=>by
  obtain ⟨b,h1,_,rfl⟩:=(Zm y).1 hy;exact zn b h1
 have Zl:Z.length+1=Z0.length:=by
  have e:Z.length=(frQ Z0.length [a]).length:=by
   rw [hZ,Zae]
   congr 1
   unfold frQ;exact Zfm λb _=>by by_cases q:b=a <;> simp [q]
  have:=c6 (n:=Z0.length) (ps:=[a]) (by simp) (by simp;omega);rw [Zbw] at this;omega
 have Zc:=c6 Znd Zn;have hcl:(frQ n Z).length=P.length+1:=by omega
 obtain ⟨x,⟨i0,hi0,hx0⟩,hx,hxE⟩:=hE.sm hP (λi=>(frQ n Z).getD i 0) λi hi=>(fw.1 (yI (l:=frQ n Z) (i:=i) (d:=0) (by omega))).1;have hcn:∀ i,i<P.length+1->(frQ n Z).getD i 0<n:=λi hi=>(fw.1 (yI (l:=frQ n Z) (i:=i) (d:=0) (by omega))).1;obtain ⟨f,hf⟩:∃ f,f=plF n (λi=>(frQ n Z).getD i 0) (λi=>(x i:Rat)) (P.length+1):=⟨_,rfl⟩;rw [<- hf] at hxE;have hfl:f.length=n:=by rw [hf];exact qT _
 have fin:∀ i,i<P.length+1->at' f ((frQ n Z).getD i 0)=(x i:Rat):=λi hi=>by
  rw [hf,zx6 hcn (hcn i hi),qR (i:=i) (x:=λb=>(x b:Rat)) λb hb => ?_,if_pos hi];by_cases e:i=b
  .rw [if_pos e,if_pos (by rw [e])]
  .rw [if_neg e,if_neg (fZ (vF n Z) (by omega) (by omega) (Ne.symm e))]
 have fout:∀ y,y<n->y∈Z->at' f y=0:=λy hy hyZ=>by
  rw [hf,zx6 hcn hy];refine wV λb hb => ?_;rw [if_neg,Zce];intro q;exact (fw.1 (yI (l:=frQ n Z) (i:=b) (d:=0) (by omega))).2 (by rw [q];exact hyZ)
 have fint:∀ y,∃ X:Int,at' f y=(X:Rat)/\X.natAbs<=ZB:=λy=>by
  by_cases hy:y<n
  .by_cases hyZ:y∈Z
   .exact ⟨0,fout y hy hyZ,by decide⟩
   .obtain ⟨i,hi⟩:=Zau.1 (fw.2 ⟨hy,hyZ⟩);have hil:=(Zgv.1 hi).1;have e:(frQ n Z).getD i 0=y:=by rw [Zaa,hi];rfl
    rw [<- e];exact ⟨x i,fin i (by omega),hx i⟩
  .exact ⟨0,gG (by omega),by decide⟩
 have Mker:∀ q∈E,dot q (M.getD a [])=0:=λq hq=>by
  have hql:=hE.row q hq;have hk:∀ b,b<Z0.length->dot (K0.getD (s b) []) q=0:=λb hb=>by
   rw [gE];exact hB.ker _ (s1 b hb) q hq
  have hpv:∀ b,b<P2.length->dot (M.getD b []) q=0:=(s3 q hql).2 λb hb=>hk b (by omega);rw [gE];by_cases ea:a<P2.length
  .exact hpv a ea
  .rw [s4 a (by omega) (by omega) q hql hpv];exact hk a (by omega)
 have hall:∀ c,at' f c=at' f (z a)*at' (M.getD a []) c:=λj0=>by
  by_cases hj0:j0<n
  case neg=>rw [gG (q:=f) (j:=j0) (by omega),gG (q:=M.getD a []) (j:=j0) (by rw [rowl a ha];omega),Zbo]
  obtain ⟨v,hv⟩:∃ v,v=jZ (at' f (z a)) f (M.getD a []):=⟨_,rfl⟩;have hll:f.length=(M.getD a []).length:=by rw [hfl,rowl a ha]
  have hvl:v.length=n:=by rw [hv,gY hll];exact hfl
  have hva:∀ c,at' v c=at' f c-at' f (z a)*at' (M.getD a []) c:=λc=>by rw [hv,uH hll]
  have hvE:∀ q∈E,dot q v=0:=λq hq=>by rw [gE,hv,gZ _ _ _ _ hll,gE,hxE q hq,gE,Mker q hq];grind
  have hvz:∀ b,b<Z0.length->at' v (z b)=0:=λb hb=>by
   rw [hva,Mz a b ha hb];by_cases e:b=a
   .rw [e,if_pos rfl];grind
   .rw [fout _ (zn b hb) ((Zm _).2 ⟨b,hb,e,rfl⟩),if_neg (Ne.symm e)];grind
  obtain ⟨g,hgd⟩:∃ g,g=plF n (colF P2.length P2 j0) (λb=>if b<P2.length then -(at' (M.getD b []) j0) else 1) (P2.length+1):=⟨_,rfl⟩;have hgl:g.length=n:=by rw [hgd];exact qT _
  have hgu:∀ u:List Rat,u.length=n->dot u g=(sR P2.length λb=>at' u (P2.getD b 0) * -(at' (M.getD b []) j0))+at' u j0:=λu hu=>by
   rw [hgd,vW hu _ λi hi => ?_,sR]
   .congr 1
    .refine jF λb hb => ?_;rw [colF,if_pos hb];show _*(if b<P2.length then _ else _)=_;rw [if_pos hb]
    .rw [colF,if_neg (Zct _)];show _*(if P2.length<P2.length then _ else _)=_;rw [if_neg (Zct _),Rat.mul_one]
   .unfold colF;split
    .rename_i hb;have:=P2n i hb;omega
    .exact hj0
  have gM:∀ b,b<P2.length->dot (M.getD b []) g=0:=λb hb=>by
   rw [hgu _ (rowl b (by omega)),qR (i:=b) (x:=λb => -(at' (M.getD b []) j0)) λb' hb'=>by rw [hg.one b b' hb hb'],if_pos hb]
   grind
  have gK:=(s3 g hgl).1 gM;have e1:dot v g=0:=by
   rw [hB.span v g hvl hgl hvE];refine wV λi hi => ?_;obtain ⟨b,hb,rfl⟩:∃ b,b<Z0.length/\s b=i:=by
    have hsn:((List.range Z0.length).map s).Nodup:=Zdz.2 (List.Pairwise.imp_of_mem (λ{x y} hx hy hne e=>hne (s2 x y (Zay.1 hx) (Zay.1 hy) e)) (Zdi (n:=Z0.length)))
    have hp:=qU (l:=(List.range Z0.length).map s) (r:=List.range Z0.length) hsn (λy hy=>by
     obtain ⟨b,hb,rfl⟩:=Zao.1 hy;exact Zay.2 (s1 b (Zay.1 hb))) (by simp)
    obtain ⟨b,hb,e⟩:=Zao.1 (hp.mem_iff.1 (Zay.2 hi));exact ⟨b,Zay.1 hb,e⟩
   by_cases e:b<P2.length
   .rw [gK b e,Zbo]
   .have:=hvz b hb;rw [zh b (by omega)] at this;rw [this,Zce]
  rw [hgu v hvl,wV λb hb=>by
   have:=hvz b (by omega);rw [zl b hb] at this;rw [this,Zce],Rat.zero_add,hva] at e1
  grind
 obtain ⟨X,hX,hXb⟩:=fint (z a);have hX0:X≠0:=λe=>by
  have e1:=fin i0 (by omega);rw [hall,hX,e,show ((0:Int):Rat)=0 from rfl,Zce] at e1;exact c9 hx0 e1.symm
 refine ⟨X.natAbs,by omega,hXb,λc => ?_⟩;obtain ⟨Y,hY,hYb⟩:=fint c;refine qds (z:=Y) ?_ hYb;rw [<- hY,hall c,hX,Zfj]
theorem Ge.szP {n j i:Nat} {E M K0:List (List Rat)} {P P2 Z0:List Nat} {li lr:List Rat} (hE:Ee n E P) (hP:P.length<=7) (hB:Kb n E P K0 Z0) (h:Ge n K0 j M P2) (hj:j<n) (hi:P2.length<=i) (hli:M[i]? = some li) (hlr:M[P2.length]? = some lr) (hv:li.getD j 0≠0):zx4 j i li lr M P2.length:=by
 have hkm:=(Zgv.1 hlr).1;have hlil:=h.gd.row _ (Zad hli);have zms:∀ l∈M,dh ZB (l.getD j 0):=λl hl=>by
  obtain ⟨a,ha⟩:=Zau.1 hl;have ham:=(Zgv.1 ha).1;have hla:M.getD a []=l:=by rw [Zaa,ha];rfl
  obtain ⟨t,t1,t2,t3⟩:=h.small hE hP hB ham;rw [<- hla];exact (t3 j).nm t1 t2
 have hml:(sQ i P2.length j li lr M).length=M.length:=by unfold sQ ay;rw [Zdk,Zat,Zat,Zat]
 have hrow:∀ q∈li.map (· * (li.getD j 0)⁻¹),dh ZB q:=λq hq=>by
  have hq':q∈jE (at' li j)⁻¹ li:=hq;obtain ⟨c,hc,rfl⟩:=mT hq';obtain ⟨t,t1,t2,t3⟩:=(h.piv hj hi hli hlr hv).small hE hP hB (a:=P2.length) (by rw [hml];exact hkm);have:=t3 c;rw [bC hkm,if_pos rfl] at this;exact this.nm t1 t2
 refine ⟨(zms li (Zad hli)).inv.qd (by decide),λq hq=>(hrow q hq).qd (by decide),λl hl q hq => ?_⟩;have hlj:dh ZB (l.getD j 0):=by
  rcases Zbt hl with e | e
  .rcases Zbt e with e | e
   .rcases Zbt e with e | e
    .exact zms l e
    .rw [e];exact zms _ (Zad hlr)
   .rw [e];exact zms _ (Zad hli)
  .rw [e];exact hrow _ (Zad (uU (q:=li.map (· * (li.getD j 0)⁻¹)) (j:=j) (by rw [Zae,hlil];exact hj)))
 exact (zv9 hlj (hrow q hq)).qd (by decide)
structure Rr (n:Nat) (V:List Rat->Prop) (R:List (List Rat)) (p:List Nat):Prop where
 len:R.length=p.length
 row:∀ l∈R,l.length=n/\V l
 rng:∀ x∈p,x<n
 asc:p.Pairwise (· < ·)
 one:∀ a b,a<p.length->b<p.length->at' (R.getD a []) (p.getD b 0)=if a=b then 1 else 0
 lead:∀ a,a<p.length->∀ c,c<p.getD a 0->at' (R.getD a []) c=0
 none:∀ v:List Rat,v.length=n->V v->(∀ a,a<p.length->at' v (p.getD a 0)=0)->∀ c,at' v c=0
def zcn (v:List Rat) (R:List (List Rat)) (p:List Nat):Nat->List Rat
 | 0=>v
 | k+1=>jZ (at' v (p.getD k 0)) (zcn v R p k) (R.getD k [])
theorem zco {n:Nat} {V:List Rat->Prop} {R:List (List Rat)} {p:List Nat} {v:List Rat} (hV:∀ (b:Rat) (x y:List Rat),x.length=n->y.length=n->V x->V y->V (jZ b x y)) (h:Rr n V R p) (hv:v.length=n) (hvV:V v):∀ k,k<=p.length->(zcn v R p k).length=n/\V (zcn v R p k)/\∀ c,at' (zcn v R p k) c=at' v c-sR k λb=>at' v (p.getD b 0)*at' (R.getD b []) c
 | 0,_=>⟨hv,hvV,λc=>by show _=at' v c-0;rw [zcn];grind⟩
 | k+1,hk=>by
  obtain ⟨h1,h2,h3⟩:=zco hV h hv hvV k (by omega);have hlen:=h.len;obtain ⟨hr,hrV⟩:=h.row _ (yI (l:=R) (i:=k) (d:=[]) (by omega));refine ⟨by rw [zcn,gY (by rw [h1,hr])];exact h1,hV _ _ _ h1 hr h2 hrV,λc => ?_⟩;rw [zcn,uH (by rw [h1,hr]),h3 c,sR];grind
theorem Rr.sub {n:Nat} {V:List Rat->Prop} {R R':List (List Rat)} {p p':List Nat} (hV:∀ (b:Rat) (x y:List Rat),x.length=n->y.length=n->V x->V y->V (jZ b x y)) (h:Rr n V R p) (h':Rr n V R' p'):∀ x∈p,x∈p':=λx hx=>Classical.byContradiction λhx'=>by
 obtain ⟨a,ha⟩:=Zau.1 hx;have hal:=(Zgv.1 ha).1;have hpa:p.getD a 0=x:=by rw [Zaa,ha];rfl
 have hlen:=h.len;obtain ⟨hvl,hvV⟩:=h.row _ (yI (l:=R) (i:=a) (d:=[]) (by omega));obtain ⟨u1,u2,u3⟩:=zco hV h' hvl hvV p'.length (Zaf _)
 have z:=h'.none _ u1 u2 (λb hb=>by
  rw [u3,qR (i:=b) (x:=λc=>at' (R.getD a []) (p'.getD c 0)) λc hc => ?_,if_pos hb]
  .grind
  .rw [h'.one c b hc hb,Zfj];by_cases e:c=b
   .rw [if_pos e,if_pos e.symm]
   .rw [if_neg e,if_neg (Ne.symm e)]) x
 rw [u3,wV λb hb => ?_] at z
 .have e1:=h.one a a hal hal;rw [hpa,if_pos rfl] at e1;rw [e1] at z
  grind
 .rcases Nat.lt_trichotomy (p'.getD b 0) x with q | q | q
  .rw [h.lead a hal _ (by rw [hpa];exact q),Zce]
  .exact absurd (by rw [<- q];exact yI hb) hx'
  .rw [h'.lead b hb _ q,Zbo]
theorem zcp {p:List Nat} {n:Nat} (h:p.Pairwise (· < ·)) (hr:∀ x∈p,x<n):p=(List.range n).filter λx=>decide (x∈p):=by
 refine List.Perm.eq_of_pairwise (le:=(· < ·)) (λa b _ _ h1 h2=>by omega) h ((List.pairwise_lt_range (n:=n)).sublist Zdq) ?_;refine ((List.perm_ext_iff_of_nodup (dG h) ((Zdi (n:=n)).sublist Zdq)).2 λx => ?_);rw [Zbr,Zay];exact ⟨λq=>⟨hr x q,by simpa using q⟩,λq=>by simpa using q.2⟩
theorem Rr.unique {n:Nat} {V:List Rat->Prop} {R R':List (List Rat)} {p p':List Nat} (hV:∀ (b:Rat) (x y:List Rat),x.length=n->y.length=n->V x->V y->V (jZ b x y)) (h:Rr n V R p) (h':Rr n V R' p'):p=p'/\R=R':=by
 have ep:p=p':=by
  rw [zcp h.asc h.rng,zcp h'.asc h'.rng];exact Zfm λx _=>decide_eq_decide.2 ⟨h.sub hV h' x,h'.sub hV h x⟩
 refine ⟨ep,?_⟩;subst ep;have l1:=h.len;have l2:=h'.len;refine Zef (by omega) λa h1 h2 => ?_;have g1:R.getD a []=R[a]:=by rw [Zaa,Zgu h1];rfl
 have g2:R'.getD a []=R'[a]:=by rw [Zaa,Zgu h2];rfl
 obtain ⟨r1,v1⟩:=h.row _ (Zas h1);obtain ⟨r2,v2⟩:=h'.row _ (Zas h2);have hll:R[a].length=R'[a].length:=by rw [r1,r2]
 have z:=h.none (jZ 1 R[a] R'[a]) (by rw [gY hll];exact r1) (hV _ _ _ r1 r2 v1 v2) λb hb=>by
  rw [uH hll,<- g1,<- g2,h.one a b (by omega) hb,h'.one a b (by omega) hb];grind
 refine Zef hll λc c1 c2 => ?_;have e:=z c;rw [uH hll] at e;have a1:at' R[a] c=R[a][c]:=by rw [at',Zaa,Zgu c1];rfl
 have a2:at' R'[a] c=R'[a][c]:=by rw [at',Zaa,Zgu c2];rfl
 rw [<- a1,<- a2]
 grind
abbrev aA (E:List (List Rat)) (v:List Rat):Prop:=∀ q∈E,dot q v=0
theorem cW {n:Nat} {E:List (List Rat)} (b:Rat) (x y:List Rat) (hx:x.length=n) (hy:y.length=n) (h1:aA E x) (h2:aA E y):aA E (jZ b x y):=λq hq=>by
 rw [gE,gZ _ _ _ _ (by rw [hx,hy]),gE,h1 q hq,gE,h2 q hq];grind
theorem Ge.fin {n j:Nat} {E M K0:List (List Rat)} {P P2 Z0:List Nat} (hE:Ee n E P) (hB:Kb n E P K0 Z0) (h:Ge n K0 j M P2) (he:j=n\/P2.length=M.length):Rr n (aA E) (M.take P2.length) P2/\P2.length=M.length:=by
 have hKl:=hB.len;have hml:=h.ml;rw [hKl] at hml;have hg:=h.gd;have hpm:=hg.pm;obtain ⟨s,s1,s2,s3,s4⟩:=h.per;rw [hKl] at s1 s2 s4;have Fm:∀ b,b<Z0.length->Z0.getD b 0<n:=λb hb=>hB.zn _ (yI hb);have krow:∀ b,b<Z0.length->(K0.getD b []).length=n:=λb hb=>hB.row _ (yI (by omega));have rowl:∀ b,b<M.length->(M.getD b []).length=n:=λb hb=>hg.row _ (yI hb);have hjn:=hg.jw;have hfull:P2.length=M.length:=by
  rcases he with he | he
  case inr=>exact he
  refine Classical.byContradiction λq => ?_;have hk:P2.length<Z0.length:=by omega
  have f1:=Fm _ (s1 _ hk);have kF:∀ b,b<Z0.length->dot (K0.getD (s b) []) (kL n (Z0.getD (s P2.length) 0))=if b=P2.length then 1 else 0:=λb hb=>by
   rw [q9 (krow _ (s1 b hb)) f1,hB.dl _ _ (s1 b hb) (s1 _ hk)];by_cases e:b=P2.length
   .rw [if_pos e,if_pos (by rw [e])]
   .rw [if_neg e,if_neg λw=>e (s2 b _ hb hk w)]
  have kill:=(s3 _ (gT n (Z0.getD (s P2.length) 0))).2 λb hb=>by rw [kF b (by omega),if_neg (by omega)]
  have e:=s4 P2.length (Zaf _) hk _ (gT ..) kill;rw [kF _ hk,if_pos rfl,q9 (rowl _ (by omega)) f1,hg.zer _ (Zaf _) _ (by omega)] at e;exact absurd e (by decide)
 have g:∀ a,a<P2.length->(M.take P2.length).getD a []=M.getD a []:=λa ha=>by
  rw [Zaa,Zhb ha,<- Zaa]
 refine ⟨⟨by rw [Zaj];omega,λl hl => ?_,λx hx=>Zdc (hg.rng x hx) hjn,hg.asc,λa b ha hb=>by rw [g a ha];exact hg.one a b ha hb,λa ha c hc=>by rw [g a ha];exact hg.lead a ha c hc,λv hvl hvE hv0 j0 => ?_⟩,hfull⟩
 .have hlM:=Zbn hl;refine ⟨hg.row l hlM,λq hq => ?_⟩;obtain ⟨a,ha⟩:=Zau.1 hlM;have ham:=(Zgv.1 ha).1;have hla:M.getD a []=l:=by rw [Zaa,ha];rfl
  have hql:=hE.row q hq;have hk:∀ b,b<Z0.length->dot (K0.getD (s b) []) q=0:=λb hb=>by
   rw [gE];exact hB.ker _ (s1 b hb) q hq
  rw [<- hla,gE];exact (s3 q hql).2 (λb hb=>hk b (by omega)) a (by omega)
 .by_cases hj0:j0<n
  case neg=>exact gG (by omega)
  obtain ⟨g',hgd⟩:∃ g',g'=plF n (colF P2.length P2 j0) (λb=>if b<P2.length then -(at' (M.getD b []) j0) else 1) (P2.length+1):=⟨_,rfl⟩;have hgl:g'.length=n:=by rw [hgd];exact qT _
  have hgu:∀ u:List Rat,u.length=n->dot u g'=(sR P2.length λb=>at' u (P2.getD b 0) * -(at' (M.getD b []) j0))+at' u j0:=λu hu=>by
   rw [hgd,vW hu _ λi hi => ?_,sR]
   .congr 1
    .refine jF λb hb => ?_;rw [colF,if_pos hb];show _*(if b<P2.length then _ else _)=_;rw [if_pos hb]
    .rw [colF,if_neg (Zct _)];show _*(if P2.length<P2.length then _ else _)=_;rw [if_neg (Zct _),Rat.mul_one]
   .unfold colF;split
    .rename_i hb;have:=hg.rng _ (yI (l:=P2) (i:=i) (d:=0) hb);omega
    .exact hj0
  have gM:∀ b,b<P2.length->dot (M.getD b []) g'=0:=λb hb=>by
   rw [hgu _ (rowl b (by omega)),qR (i:=b) (x:=λb => -(at' (M.getD b []) j0)) λb' hb'=>by rw [hg.one b b' hb hb'],if_pos hb]
   grind
  have gK:=(s3 g' hgl).1 gM;have e1:dot v g'=0:=by
   rw [hB.span v g' hvl hgl hvE];refine wV λi hi => ?_;obtain ⟨b,hb,rfl⟩:∃ b,b<Z0.length/\s b=i:=by
    have hsn:((List.range Z0.length).map s).Nodup:=Zdz.2 (List.Pairwise.imp_of_mem (λ{x y} hx hy hne e=>hne (s2 x y (Zay.1 hx) (Zay.1 hy) e)) (Zdi (n:=Z0.length)))
    have hp:=qU (l:=(List.range Z0.length).map s) (r:=List.range Z0.length) hsn (λy hy=>by
     obtain ⟨b,hb,rfl⟩:=Zao.1 hy;exact Zay.2 (s1 b (Zay.1 hb))) (by simp)
    obtain ⟨b,hb,e⟩:=Zao.1 (hp.mem_iff.1 (Zay.2 hi));exact ⟨b,Zay.1 hb,e⟩
   rw [gK b (by omega),Zbo]
  rw [hgu v hvl,wV λb hb=>by rw [hv0 b hb,Zce],Rat.zero_add] at e1;exact e1
end Go.Ev
namespace Go.Ev
open Go Go.Proofs
variable {B:Nat}
abbrev Szr (R:List (List Rat)):Prop:=∀ l∈R,∀ q∈l,dh ZB q
theorem zwb {n:Nat} {E K0:List (List Rat)} {P Z0:List Nat} (hE:Ee n E P) (hP:P.length<=7) (hB:Kb n E P K0 Z0) (hn1:1<=n) (hn:n<=1000):Pure Tryz.prog B 41 [gS K0] (λv=>∃ R y,((∃ p,Rr n (aA E) R p)/\Szr R)/\v=.tup [gS R,y]):=by
 have hrow:=hB.row;have hlen:=hB.len;have hcnt:=hB.cnt;intro p h g K hK;by_cases h0:K0.length=0
 .obtain rfl:=Zei.1 h0;have hfin:=(Ge.start hrow).fin hE hB (.inr rfl);refine zol p h g K ?_;rintro v rfl hf;exact hK _ ⟨[],_,⟨⟨[],hfin.1⟩,λ_ q=>nomatch q⟩,rfl⟩ hf
 have sz:∀ {j:Nat} {M:List (List Rat)} {P2:List Nat},Ge n K0 j M P2->Szr M:=λ{j M P2} hg l hl q hq=>by
  obtain ⟨a,ha⟩:=Zau.1 hl;have ham:=(Zgv.1 ha).1;have hla:M.getD a []=l:=by rw [Zaa,ha];rfl
  obtain ⟨t,t1,t2,t3⟩:=hg.small hE hP hB ham;obtain ⟨c,hc,rfl⟩:=mT hq;rw [<- hla];exact (t3 c).nm t1 t2
 refine zoh (λj M P2=>Ge n K0 j M P2) hn1 hn (by omega) (by omega) hrow (Ge.start hrow) (λj M P2 hg cj cP hm l hl q hq=>(sz hg l hl q hq).qd (by decide)) (λj M P2 hg cj _ _ hz=>hg.skip cj hz) (λj M P2 i li lr hg cj cP hi hm hli hlr hv=>⟨hg.piv cj hi hli hlr hv,hg.szP hE hP hB cj hi hli hlr hv⟩) p h g K ?_
 .rintro v ⟨j,M,P2,hg,hm,_,he,rfl⟩ hf;obtain ⟨f1,f2⟩:=hg.fin hE hB he;exact hK _ ⟨_,_,⟨⟨P2,f1⟩,λl hl=>sz hg l (Zbn hl)⟩,rfl⟩ hf
theorem Gd.kerE {w j:Nat} {M0 M:List (List Rat)} {P:List Nat} (h:Gd w M0 j M P) (he:j=w\/P.length=M.length) {v:List Rat} (hv:v.length=w):aA (M.take P.length) v↔aA M0 v:=by
 constructor
 .intro hk;refine h.full v hv λl hl => ?_;obtain ⟨a,ha⟩:=Zau.1 hl;have ham:=(Zgv.1 ha).1;have hla:M.getD a []=l:=by rw [Zaa,ha];rfl
  by_cases e:a<P.length
  .refine hk l (Zad (i:=a) ?_);rw [Zhb e,ha]
  .have hw:j=w:=by omega
   refine d7 _ _ λc => ?_;by_cases hc:c<w
   .rw [<- hla];exact h.zer a (by omega) c (by omega)
   .exact gG (by rw [h.row l hl];omega)
 .intro hk q hq;obtain ⟨O,hol,hom,hker,_⟩:=h.org;obtain ⟨a,ha⟩:=Zau.1 hq;have hal:=(Zgv.1 ha).1;rw [Zaj] at hal;rw [Zhb (by omega)] at ha;have hla:M.getD a []=q:=by rw [Zaa,ha];rfl
  rw [<- hla];exact hker v hv (λo ho=>hk o (hom o ho)) a (by omega)
theorem Rr.congr {n:Nat} {V W:List Rat->Prop} {R:List (List Rat)} {p:List Nat} (h:Rr n V R p) (e:∀ v:List Rat,v.length=n->(V v↔W v)):Rr n W R p :=
 ⟨h.len,λl hl=>⟨(h.row l hl).1,(e l (h.row l hl).1).1 (h.row l hl).2⟩,h.rng,h.asc,h.one,h.lead,λv hv hw=>h.none v hv ((e v hv).2 hw)⟩
abbrev difR (n:Nat) (lines:List (List Int)) (i:Nat):List Rat:=jZ 1 (liQ n lines i) (liQ n lines 0)
def ow (n:Nat) (lines:List (List Int)):List (List Rat):=(List.range (lines.length-1)).map λi=>difR n lines (i+1)
theorem zmt (n:Nat) (lines:List (List Int)) (i c:Nat):at' (difR n lines i) c=at' (liQ n lines i) c-at' (liQ n lines 0) c:=by
 rw [uH (by rw [jH,jH])];grind
theorem zmu {n:Nat} {lines:List (List Int)}:∀ o∈ow n lines,o.length=n/\∀ c,Sg (at' o c):=λo ho=>by
 obtain ⟨i,_,rfl⟩:=Zao.1 ho;refine ⟨by rw [gY (by rw [jH,jH]),jH],λc => ?_⟩;rw [zmt];have g:∀ x y:Rat,(x=0\/x=1)->(y=0\/y=1)->Sg (x-y):=λx y hx hy=>by
  rcases hx with e | e <;> rcases hy with f | f
  .exact .inr (.inl (by rw [e,f];grind))
  .exact .inl (by rw [e,f];grind)
  .exact .inr (.inr (by rw [e,f];grind))
  .exact .inr (.inl (by rw [e,f];grind))
 exact g _ _ (pY ..) (pY ..)
theorem ztg {n:Nat} {lines:List (List Int)}:SmP (ow n lines):=by
 intro O c hO hl;have hix:∀ o∈O,∃ i,o=difR n lines i:=λo ho=>by
  obtain ⟨i,_,rfl⟩:=Zao.1 (hO o ho);exact ⟨i+1,rfl⟩
 obtain ⟨g,hg⟩:∃ g:Nat->Nat,∀ i,i<O.length->O.getD i []=difR n lines (g i):=by
  refine ⟨λi=>if h:i<O.length then (hix _ (yI (l:=O) (i:=i) (d:=[]) h)).choose else 0,λi hi => ?_⟩;show _=difR n lines (if h:i<O.length then _ else 0);rw [dif_pos hi];exact (hix _ (yI (l:=O) (i:=i) (d:=[]) hi)).choose_spec
 have b01:∀ i c,(if at' (liQ n lines i) c=1 then (1:Int) else 0)=0\/(if at' (liQ n lines i) c=1 then (1:Int) else 0)=1:=λi c=>by
  split
  .exact .inr rfl
  .exact .inl rfl
 obtain ⟨x,h1,h2,h3⟩:=zv5 hl (λj=>if at' (liQ n lines 0) (c j)=1 then 1 else 0) (λj=>b01 0 (c j)) (λi j=>if at' (liQ n lines (g i)) (c j)=1 then 1 else 0) λi j=>b01 (g i) (c j);refine ⟨x,h1,h2,λo ho => ?_⟩;obtain ⟨i,hi⟩:=Zau.1 ho;have hil:=(Zgv.1 hi).1;have hio:O.getD i []=o:=by rw [Zaa,hi];rfl
 have e:=h3 i hil;rw [show (0:Rat)=((0:Int):Rat) from rfl,<- e,<- zf6];refine jF λj _ => ?_;rw [Zge,<- hio,hg i hil,zmt]
 congr 1
 have c01:∀ i c,at' (liQ n lines i) c=(((if at' (liQ n lines i) c=1 then (1:Int) else 0):Int):Rat):=λi c=>by
  rcases pY n (lines.getD i []) c with q | q
  .show at' (sD n (lines.getD i [])) c=(((if at' (sD n (lines.getD i [])) c=1 then (1:Int) else 0):Int):Rat);rw [q,if_neg (by decide)];rfl
  .show at' (sD n (lines.getD i [])) c=(((if at' (sD n (lines.getD i [])) c=1 then (1:Int) else 0):Int):Rat);rw [q,if_pos rfl];rfl
 rw [Rat.intCast_sub,<- c01,<- c01]
end Go.Ev
namespace Go.Ev
abbrev basL (n:Nat) (Q:List (List Rat)) (ps:List Nat):List (List Rat):=(frQ n ps).map (oo n Q ps)
end Go.Ev
namespace Go.Ev
open Go Go.Proofs
theorem pV {n:Nat} {lines:List (List Int)} {f:List Rat} (hf:f.length=n):aA (ow n lines) f↔Mgf n lines f:=by
 have d:∀ i,dot (difR n lines i) f=dot (liQ n lines i) f-dot (liQ n lines 0) f:=λi=>by
  unfold difR;rw [gZ _ _ _ _ (by rw [jH,jH])];grind
 constructor
 .intro h;refine ⟨hf,λl hl => ?_⟩;obtain ⟨i,hi⟩:=Zau.1 hl;have hil:=(Zgv.1 hi).1;have hli:lines.getD i []=l:=by rw [Zaa,hi];rfl
  rw [<- hli];cases i with
  | zero=>rfl
  | succ i =>
   have e:=h (difR n lines (i+1)) (Zao.2 ⟨i,Zay.2 (by omega),rfl⟩);rw [d] at e;have e2:dot (liQ n lines (i+1)) f=dot (liQ n lines 0) f:=by grind
   exact e2
 .rintro ⟨_,h⟩ q hq;obtain ⟨i,hi,rfl⟩:=Zao.1 hq;have hi:=Zay.1 hi;have e:dot (liQ n lines (i+1)) f=dot (liQ n lines 0) f:=h _ (yI (l:=lines) (i:=i+1) (d:=[]) (by omega));rw [d,e];grind
theorem zx7 {n:Nat} {lines:List (List Int)} {Q:List (List Rat)} {ps:List Nat} (h:zee n lines Q ps):Rr n (aA (ow n lines)) (basL n Q ps) (frQ n ps):=by
 obtain ⟨⟨O,hS⟩,hQ,hdot,hcv⟩:=h;have fm:∀ a,a<(frQ n ps).length->(frQ n ps).getD a 0<n/\(frQ n ps).getD a 0∉ps:=λa ha=>fw.1 (yI ha);have bg:∀ a,a<(frQ n ps).length->(basL n Q ps).getD a []=oo n Q ps ((frQ n ps).getD a 0):=λa ha=>zs7 ha;refine ⟨Zae ..,λl hl => ?_,λx hx=>(fw.1 hx).1,(List.pairwise_lt_range (n:=n)).sublist Zdq,λa b ha hb => ?_,λa ha c hc => ?_,λv hv hk h0 => ?_⟩
 .obtain ⟨c,hc,rfl⟩:=Zao.1 hl;obtain ⟨c1,c2⟩:=fw.1 hc;have hlen:=bY n Q ps c;exact ⟨hlen,(pV hlen).2 (hcv _ hlen (zvw hS c1 c2))⟩
 .rw [bg a ha];by_cases e:a=b
  .rw [if_pos e,<- e];exact (zej hS (fm a ha).1 (fm a ha).2).1
  .rw [if_neg e];exact ztc hS (fm b hb).2 (fZ (vF n ps) hb ha (Ne.symm e))
 .rw [bg a ha];exact (zej hS (fm a ha).1 (fm a ha).2).2 c hc
 .refine qdv hS hv (hdot v ((pV hv).1 hk)) λc c1 c2 => ?_;obtain ⟨a,ha⟩:=Zau.1 (fw.2 ⟨c1,c2⟩);have:=h0 a (Zgv.1 ha).1
  rwa [Zaa,ha] at this
theorem zix {n:Nat} {lines:List (List Int)} {Q R:List (List Rat)} {ps p:List Nat} (h:zee n lines Q ps) (hR:Rr n (aA (ow n lines)) R p):basL n Q ps=R/\frQ n ps=p:=by
 obtain ⟨a,b⟩:=(zx7 h).unique cW hR;exact ⟨b,a⟩
theorem zth {n:Nat} {E:List (List Rat)} {P:List Nat} (hE:Ee n E P):Kb n E P ((frQ n P).map (kvec n E P)) (frQ n P):=by
 have Fm:∀ b,b<(frQ n P).length->(frQ n P).getD b 0<n/\(frQ n P).getD b 0∉P:=λb hb=>fw.1 (yI hb);have Kget:∀ b,b<(frQ n P).length->((frQ n P).map (kvec n E P)).getD b []=kvec n E P ((frQ n P).getD b 0):=λb hb=>zs7 hb;refine ⟨Zae ..,c6 (dG hE.asc) hE.rng,λl hl => ?_,λz hz=>(fw.1 hz).1,vF n P,λb b' hb hb' => ?_,λb hb => ?_,λv g hv hg hk => ?_⟩
 .obtain ⟨x,_,rfl⟩:=Zao.1 hl;exact fW ..
 .rw [Kget b hb,qdx (Fm b' hb').2];by_cases e:b=b'
  .rw [if_pos e,if_pos ⟨by rw [e],(Fm b' hb').1⟩]
  .rw [if_neg e,if_neg λw=>fZ (vF n P) hb hb' e w.1]
 .rw [Kget b hb];exact qam hE (Fm b hb).1 (Fm b hb).2
 .rw [zwa hE hv hg hk];exact jF λi hi=>by rw [Kget i hi]
theorem zti {i k j:Nat} {li lr:List Rat} {M:List (List Rat)}:(sQ i k j li lr M).length=M.length:=by unfold sQ ay;rw [Zdk,Zat,Zat,Zat]
theorem zmv {k j:Nat} {M:List (List Rat)} (hz:¬ ∀ i' l,k<=i'->M[i']? = some l->l.getD j 0=0):∃ i li lr,k<=i/\M[i]? = some li/\M[k]? = some lr/\li.getD j 0≠0:=by
 obtain ⟨i,hz⟩:=Classical.not_forall.1 hz;obtain ⟨li,hz⟩:=Classical.not_forall.1 hz;obtain ⟨hi,hz⟩:=Classical.not_imp.1 hz;obtain ⟨hli,hv⟩:=Classical.not_imp.1 hz;have him:=(Zgv.1 hli).1;exact ⟨i,li,_,hi,hli,Zgu (show k<M.length by omega),hv⟩
theorem exGd {w:Nat} {M0:List (List Rat)} (h:∀ l∈M0,l.length=w):∀ j,j<=w->∃ M P,Gd w M0 j M P/\M.length=M0.length
 | 0,_=>⟨M0,[],Gd.start h,rfl⟩
 | j+1,hj=>by
  obtain ⟨M,P,hg,hm⟩:=exGd h j (by omega);by_cases hz:∀ i' l,P.length<=i'->M[i']? = some l->l.getD j 0=0
  .exact ⟨M,P,hg.skip (by omega) hz,hm⟩
  .obtain ⟨i,li,lr,hi,hli,hlr,hv⟩:=zmv hz;exact ⟨_,_,hg.piv (by omega) hi hli hlr hv,by rw [zti,hm]⟩
theorem exGe {w:Nat} {M0:List (List Rat)} (h:∀ l∈M0,l.length=w):∀ j,j<=w->∃ M P,Ge w M0 j M P
 | 0,_=>⟨M0,[],Ge.start h⟩
 | j+1,hj=>by
  obtain ⟨M,P,hg⟩:=exGe h j (by omega);by_cases hz:∀ i' l,P.length<=i'->M[i']? = some l->l.getD j 0=0
  .exact ⟨M,P,hg.skip (by omega) hz⟩
  .obtain ⟨i,li,lr,hi,hli,hlr,hv⟩:=zmv hz;exact ⟨_,_,hg.piv (by omega) hi hli hlr hv⟩
theorem exE {n:Nat} {lines:List (List Int)} {Q:List (List Rat)} {ps:List Nat} (h:zee n lines Q ps) (hl:lines.length<=8):∃ E P,Ee n E P/\P.length<=7/\(∀ v:List Rat,v.length=n->(aA E v↔aA (ow n lines) v))/\(frQ n ps).length+P.length=n:=by
 obtain ⟨M,P,hg,hm⟩:=exGd (w:=n) (M0:=ow n lines) (λl hl=>(zmu l hl).1) n (Zaf _);have dl:(ow n lines).length=lines.length-1:=by rw [ow,Zae,Zdf]
 have hpm:=hg.pm;have hP:P.length<=7:=by omega
 have hE:=hg.ee ztg zmu;have hB:=zth hE;have hk:∀ v:List Rat,v.length=n->(aA (M.take P.length) v↔aA (ow n lines) v):=λv hv=>hg.kerE (.inl rfl) hv;obtain ⟨M2,P2,hg2⟩:=exGe hB.row n (Zaf _);obtain ⟨f1,f2⟩:=hg2.fin hE hB (.inl rfl);obtain ⟨_,e⟩:=zix h (f1.congr λv hv=>hk v hv);have:=hg2.ml;have c1:=hB.cnt;have c2:=hB.len;exact ⟨_,P,hE,hP,hk,by rw [e];omega⟩
theorem ztj {n:Nat} {lines:List (List Int)} {Q:List (List Rat)} {ps:List Nat} (h:zee n lines Q ps) (hl:lines.length<=8):∀ l∈basL n Q ps,∀ x∈l,dh ZB x:=λl hlm x hx=>by
 obtain ⟨E,P,hE,hP,hEk,_⟩:=exE h hl;have hkb:=zth hE;obtain ⟨M2,P2,hg2⟩:=exGe hkb.row n (Zaf _);obtain ⟨f1,f2⟩:=hg2.fin hE hkb (.inl rfl);obtain ⟨e1,_⟩:=zix h (f1.congr λv hv=>hEk v hv);obtain ⟨c,hc,rfl⟩:=mT hx;rw [e1] at hlm;obtain ⟨a,ha⟩:=Zau.1 (Zbn hlm);have hla:M2.getD a []=l:=by rw [Zaa,ha];rfl
 obtain ⟨t,t1,t2,t3⟩:=hg2.small hE hP hkb (Zgv.1 ha).1;rw [hla] at t3;exact (t3 c).nm t1 t2
end Go.Ev
namespace Go.Ev
open Go
section
variable {p:List (List Int)} {m:Nat}
end
end Go.Ev
namespace Go.Ev
open Go Go.Proofs
variable {B:Nat}
set_option maxRecDepth 100000
theorem ztk {g f:List Int} {c:Bool} (hl:f.length<=1000) (hg:g.length=f.length) (hp:cu g) (hf:∀ x∈f, -1000000000<=x/\x<=1000000000):Pure Tryz.prog B 32 [.agg [encI g,.bool c],encI f] (· = encI (kA c g f)):=by
 refine zV λh y K H0 hK=>zL zR wm 10000 λhf' => ?_;rw [F32.go,F32.t25,zA,F32.zu];refine H0.box (l:=[encI g,.bool c]) rfl λbx h1 y1 H1 => ?_;rw [zA,F32.zo,zS];refine H1.mk1 f.length rfl rfl (by omega) (by decide) λtb h2 y2 H2 => ?_;rw [zA,zA,F32.yt,zS];have e0:List.replicate f.length (I 0)=(xP f.length c g f 0).map I:=by simp [xP]
 rw [e0] at H2;rw [zJ]
 refine F32.zos (λm x9 h' y'=>∃ i:Nat,x9=I i/\m=f.length-i/\i<=f.length/\Hp h h' y' [.arr tb ((xP f.length c g f i).map I),.arr bx [encI g,.bool c]]) (m:=f.length) (by omega)
  ⟨0,rfl,by omega,by omega,H2⟩ ?_
 rintro m z5 z6 z9 z10 z11 h3 y3 R ⟨i,rfl,rfl,hi,H3⟩ hR;rw [F32.t17,zA,F32.vk,yu];by_cases hlt:i<f.length
 case neg =>
  rw [Zab (by omega),zA,zB,F32.v10,zC,zY,yD,zA,F32.eO,zG,zQ,F32.ret];obtain rfl:i=f.length:=by omega
  have hal:=uL f.length c g f f.length;refine hK _ _ _ _ _ H3 (H3.zbm (k:=0) rfl (Zaf _) (by simp [hal]) qdc) ?_;show _=AV.lst 1 _ _;rw [kA,hal]
 rw [Zac (by omega),zA,zB,F32.v10,zD,zE];have hx:f[i]? = some f[i]:=Zgu hlt;have hgx:g[i]? = some g[i]:=Zgu (by omega);have hgb:=hp.2 _ (Zas (show i<g.length by omega));have hfb:=hf _ (Zas hlt);have hfd:f.getD i 0=f[i]:=by rw [Zaa,hx];rfl
 have hgd:g.getD i 0=g[i]:=by rw [Zaa,hgx];rfl
 rw [zA,zJ,zA,F32.dz,xu rfl hlt,ldL (rH hx),zA,zA,F32.uj,sFx,H3.load (k:=1) (i:=0+1) rfl rfl,zB,F32.v11];cases c with
 | true =>
  rw [zD,F32.ng,zS,jg (by omega),xg (by omega),F32.rC,sFx,H3.load (k:=1) (i:=0) rfl rfl,xu rfl (by omega),ldL (rH hgx),sIx (i:=(g[i]).toNat) (by omega) (by omega)];refine H3.store (k:=0) rfl (by rw [Zae,uL];omega) rfl λh4 H4 => ?_;rw [F32.tF,jg (by omega)];refine hR _ _ _ _ _ _ _ _ (by omega) ⟨i+1,rfl,rfl,by omega,H4.cast ?_⟩;rw [xG,hfd,hgd];simp [Zep,xOf]
 | false =>
  rw [zC,zE,F32.rC,sFx,H3.load (k:=1) (i:=0) rfl rfl,xu rfl (by omega),ldL (rH hgx),sIx (i:=(g[i]).toNat) (by omega) (by omega)];refine H3.store (k:=0) rfl (by rw [Zae,uL];omega) rfl λh4 H4 => ?_;rw [F32.tF,jg (by omega)];refine hR _ _ _ _ _ _ _ _ (by omega) ⟨i+1,rfl,rfl,by omega,H4.cast ?_⟩;rw [xG,hfd,hgd];simp [Zep,xOf]
def tQ (x:Int):Bool:=decide (x < -999999999)||decide (999999999<x)
def kH (f:List Int):Int:=if f.any tQ then 3 else 0
def vH (f:List Int):Int:=if 256<f.length then 5 else kH f
theorem ztl (x:Int):Pure Tryz.prog B 34 [I x] (· = .bool (tQ x)):=by
 refine zV λh y K H0 hK=>zL zR wm 100 λhf' => ?_;rw [F34.go,F34.t3,zA,F34.zu,zA,F34.zo,yu];by_cases c:x < -999999999
 .simp only [c,decide_true,yU,zT];simp only [zG,zE,kV,zQ,F34.ret];exact hK _ _ _ _ _ H0 (zK rfl) (by simp [tQ,c])
 .simp only [c,decide_false,yJ,kg,zW];simp only [zG,zE,kV,zQ,F34.ret];exact hK _ _ _ _ _ H0 (zK rfl) (by simp [tQ,c])
theorem qan {h:T Blk} {y:Pa} {f:List Int} {K:Kw Prop} {p q:Pa} (hl:f.length<=1000000) (hfr:Fr h y) (hK:K (.bool (f.any tQ)) h y=.ok True):(CS Tryz.prog B).fn 33 p [encI f,.fn 34 q []] h y K=.ok True :=
 zby hl (λx _ K hK=>ztl x _ _ _ _ λv hv _=>by rw [hv];exact hK) hK
theorem zwc {f:List Int} (hl:f.length<=1000000):Pure Tryz.prog B 31 [encI f] (· = I (vH f)):=by
 refine zV λh y K H0 hK=>zL zR wm 100 λhf' => ?_;rw [F31.go,F31.t3,zA,F31.zu,zA,F31.zo,zS,kg]
 (refine pH _ _ _ _ _ _ ?_;rintro _ rfl _)
 refine qan hl hf' ?_
 (refine pH _ _ _ _ _ _ ?_;rintro _ rfl _)
 refine H0.qw (l:=[I (if decide ((256:Int)<(f.length:Int))=true then 5 else 0),I (if f.any tQ=true then 3 else 0)]) rfl λtb h1 y1 H1 => ?_;refine q8 (l:=[if decide ((256:Int)<(f.length:Int))=true then 5 else 0,if f.any tQ=true then 3 else 0]) H1 (k:=0) rfl (λB=>zb1 (by simp)) (λv hv=>by rw [hv];exact .int _ _) ?_;rintro _ rfl;simp only [zG,zE,kV,zQ,F31.ret];refine hK _ _ _ _ _ H1 (zK rfl) ?_;rw [vH,kH];by_cases c:256<f.length
 .rw [if_pos c,if_pos (by simp;omega)];rfl
 .rw [if_neg c,if_neg (by simp;omega)];cases f.any tQ <;> rfl
theorem ztm {f:List Int} {p:Int->Bool} {i:Nat} (h:i<f.length):(f.drop i).any p=(p f[i]||(f.drop (i+1)).any p):=by rw [Zav h];rfl
theorem zwd {f:List Int} (hl:f.length<=1000000):Pure Tryz.prog B 19 [encI f] (· = I (kH f)):=by
 refine zV λh y K H0 hK=>zL zR wm 10000000 λhf' => ?_;rw [F19.go,F19.t20,zA,F19.zu,zA,zA,F19.zo,zJ];refine F19.zae (λm x2 h' y'=>∃ i:Nat,x2=I i/\m=f.length-i/\i<=f.length/\f.any tQ=(f.drop i).any tQ/\Hp h h' y' []) (m:=f.length) (by omega) ⟨0,rfl,by omega,by omega,rfl,H0⟩ ?_;rintro m z1 z2 z3 z4 h3 y3 R ⟨i,rfl,rfl,hi,ha,H3⟩ hR;rw [F19.t13,zA,zA,F19.yt,zS,yu];by_cases hlt:i<f.length
 case neg =>
  rw [Zab (by omega),zB,F19.v3,zC,zY,yD,zA,F19.rG,zG,zQ,F19.ret];refine hK _ _ _ _ _ H3 (zK rfl) ?_;rw [kH,ha,Zbg (by omega)];rfl
 rw [Zac (by omega),zB,F19.v3,zD,zE];have hx:f[i]? = some f[i]:=Zgu hlt;rw [zA,zJ,zA,F19.dz,F19.r3_0,F19.zi8,xu rfl hlt,ldL (rH hx),yu];have hd:=ztm (p:=tQ) hlt;by_cases c:f[i] < -999999999
 .simp only [c,decide_true,yU];rw [F19.r3_1,F19.zew];simp only [yU,zT];rw [zB,F19.v4,zD,zA,F19.uj];simp only [zG,kV,zQ];rw [F19.ret];exact hK _ _ _ _ _ H3 (zK rfl) (by rw [kH,ha,hd];simp [tQ,c])
 .simp only [c,decide_false,yJ];rw [F19.r3_1,F19.zew];simp only [yJ];rw [xu rfl hlt,ldL (rH hx),kg,zW,zB,F19.v4];by_cases c2:999999999<f[i]
  .rw [Zac c2,zD,zA,F19.uj];simp only [zG,kV,zQ];rw [F19.ret];exact hK _ _ _ _ _ H3 (zK rfl) (by rw [kH,ha,hd];simp [tQ,c2])
  .rw [Zab c2,zC,zE,F19.qz,jg (by omega)];refine hR _ _ _ _ _ _ _ (by omega) ⟨i+1,rfl,rfl,by omega,?_,H3⟩;rw [ha,hd];simp [tQ,c,c2]
theorem qao {f:List Int} (hl:f.length<=1000000):Pure Tryz.prog B 6 [encI f] (· = I (vH f)):=by
 refine zV λh y K H0 hK=>zL zR wm 100 λhf' => ?_;rw [F6.go,F6.t9,zA,F6.zu,zA,zA,F6.zo,zS,kg,zB,F6.v2];by_cases c:256<f.length
 .rw [Zac (by omega),zD,zA,F6.yt];simp only [zG,zQ];rw [F6.ret];exact hK _ _ _ _ _ H0 (zK rfl) (by rw [vH,if_pos c])
 .rw [Zab (by omega),zC,zE,zA,F6.uj]
  (refine zwd hl _ _ _ _ ?_;rintro _ rfl _)
  simp only [zG,zQ];rw [F6.ret];exact hK _ _ _ _ _ H0 (zK rfl) (by rw [vH,if_neg c])
theorem zom {f:List Int} (h:vH f=0):f.length<=256/\∀ x∈f, -999999999<=x/\x<=999999999:=by
 unfold vH kH at h;split at h
 .omega
 split at h
 .omega
 rename_i c1 c2;refine ⟨by omega,λx hx => ?_⟩;have:=Zdy.1 (Zdx.2 c2) x hx;simp [tQ] at this;omega
end Go.Ev
namespace Go.Ev
section
variable {G S:List Sym} {n:Nat}
end
end Go.Ev
namespace Go.Ev
theorem zek {α:Type} [DecidableEq α]:∀ (l r:List α),l.Nodup->(∀ x∈l,x∈r)->∃ s,r.Perm (l++s)
 | [],r,_,_=>⟨r,.refl _⟩
 | a::l,r,hn,hs=>by
  obtain ⟨h1,h2⟩:=Zcc.1 hn;have ha:=hs a (by simp);obtain ⟨s,hp⟩:=zek l (r.erase a) h2 λx hx=>(Zgb (by rintro rfl;exact h1 hx)).2 (hs x (by simp [hx]));exact ⟨s,(Zgc ha).trans (.cons a hp)⟩
theorem ziy {α:Type} [DecidableEq α] {l r:List α} (h1:l.Nodup) (h2:∀ x∈l,x∈r) (h3:r.length<=l.length):r.Perm l:=by
 obtain ⟨s,hs⟩:=zek l r h1 h2;have hl:=hs.length_eq;obtain rfl:s=[]:=Zcm (by rw [Zag] at hl;omega);simpa using hs
theorem zon {α:Type} {l:List α} (h:l.Nodup) {i j:Nat} {x:α} (hi:l[i]? = some x) (hj:l[j]? = some x):i=j:=by
 obtain ⟨a1,a2⟩:=Zgv.1 hi;obtain ⟨b1,b2⟩:=Zgv.1 hj;have hp:=Zca.1 h;rcases Nat.lt_trichotomy i j with c | c | c
 .exact absurd (a2.trans b2.symm) (hp i j a1 b1 c)
 .exact c
 .exact absurd (b2.trans a2.symm) (hp j i b1 a1 c)
theorem getD_some {l:List Int} {i:Nat} (h:i<l.length):l[i]? = some (l.getD i 0):=by
 rw [Zaa,Zgu h];rfl
theorem cu.surj {g:List Int} (h:cu g) {j:Nat} (hj:j<g.length):∃ i,i<g.length/\g[i]? = some (j:Int):=by
 have hp:((List.range g.length).map λ(i:Nat)=>(i:Int)).Perm g:=ziy h.1 (λx hx=>by
  have:=h.2 x hx;exact Zao.2 ⟨x.toNat,Zay.2 (by omega),by omega⟩) (by simp)
 have hm:(j:Int)∈g:=hp.mem_iff.1 (Zao.2 ⟨j,Zay.2 hj,rfl⟩);obtain ⟨i,hi⟩:=Zau.1 hm;exact ⟨i,(Zgv.1 hi).1,hi⟩
theorem zcq {n:Nat} {c:Bool} {g f:List Int} (hg:cu g) (hgn:g.length=n):∀ (i k:Nat),i<=n->k<i->(xP n c g f i)[(g.getD k 0).toNat]? = some (xOf n c (f.getD k 0))
 | 0,k,_,h=>by omega
 | i+1,k,hi,h=>by
  rw [xG];have hk:=hg.2 _ (Zad (getD_some (l:=g) (i:=k) (by omega)));have hi':=hg.2 _ (Zad (getD_some (l:=g) (i:=i) (by omega)));by_cases e:k=i
  .subst e;rw [Zhm,if_pos rfl,if_pos (by rw [uL];omega)]
  .rw [Zhf,zcq hg hgn i k (by omega) (by omega)];intro q;have e1:g.getD i 0=g.getD k 0:=by omega
   have:=zon hg.1 (getD_some (l:=g) (i:=i) (by omega)) (e1 ▸ getD_some (l:=g) (i:=k) (by omega));omega
theorem zk5 {c:Bool} {g f:List Int} (hg:cu g) (hgn:g.length=f.length) {k:Nat} (h:k<f.length):(kA c g f)[(g.getD k 0).toNat]? = some (xOf f.length c (f.getD k 0)):=zcq hg hgn _ k (Zaf _) h
end Go.Ev
namespace Go.Ev
open Go Go.Proofs
theorem zel (c:Bool) (g f:List Int):(kA c g f).length=f.length:=uL _ _ _ _ _
section
variable {G:List Sym} {l:List (List Int)} {n:Nat}
end
end Go.Ev
namespace Go.Ev
open Go Go.Proofs
variable {B:Nat}
set_option maxRecDepth 100000
theorem zc2 {α:Type} {l:List α} {p:α->Bool} {i:Nat} {x:α} (hx:l[i]? = some x) (h:(l.take i).all p=true) (hp:p x=true):(l.take (i+1)).all p=true:=by
 rw [Zar,hx,Zez,h];simp [hp]
end Go.Ev
set_option maxRecDepth 100000
namespace Go.Ev
open Go Go.Proofs
variable {B:Nat}
set_option maxRecDepth 100000
theorem xK {a b c:List Int} (h1:vz a b<=0) (h2:vz b c<=0):vz a c<=0:=by
 by_cases z1:vz a b=0
 .rw [pT z1];exact h2
 .by_cases z2:vz b c=0
  .rw [<- pT z2];exact h1
  .have:=xJ (a:=a) (b:=b) (c:=c) (by omega) (by omega);omega
end Go.Ev
namespace Go.Ev
open Go.Proofs
section
variable {G S:List Sym} {n:Nat}
end
end Go.Ev
namespace Go.Ev
section
variable {G:List Sym} {n:Nat}
end
end Go.Ev
namespace Go.Ev
open Go Go.Proofs
variable {B:Nat}
set_option maxRecDepth 100000
theorem zwe {B:Nat}:JOk Tryz.prog B zry:=zrz Tryz.slices_Sort_int Tryz.slices_Sort_int_none
theorem zwf {h0 h:T Blk} {y p id:Pa} {L:List Ob} {k n:Nat} {K:Kw Prop} {l:List Int} (H:Hp h0 h y L) (hk:L[k]? = some (.gro (some id) 1 n (l.map I))) (hn:n<=1000000)
  (hK:∀ h',Hp h0 h' y (L.set k (.gro (some id) 1 n ((srt l).map I)))->K (.tup []) h' y=.ok True):(CS Tryz.prog B).fn 64 p [uf (some id) 1 n] h y K=.ok True:=by
 obtain ⟨t,h1,h2,h3⟩:=H.own _ (Zad hk);rw [Zae] at h2;have hp:=(qG l).length_eq;have hln:l.length=n:=by omega
 have hsl:((srt l).map I).length=n*1:=by rw [Zae,hp,h2]
 refine zlo zwe (v:=.tup []) (h2:=T.set .no (.cells true (n*1) (jN ((srt l).map I) t 0)) id h) ?_ (hK _ ?_)
 .show (match zdr (.sl id 0 n none 1) h with
   | some h=>some (AV.tup [],h)
   | none=>none)=_
  have e:zdr (.sl id 0 n none 1) h=some (T.set .no (.cells true (n*1) (jN ((srt l).map I) t 0)) id h):=by
   unfold zdr;simp only [h1];rw [Zcn] at h3 ⊢;simp only [Zbz,Zbd,Zak (Zaf n),Zak hn,Bool.and_self,cond_true,h3,znw]
  rw [e]
 .refine H.upd hk (by simp [Ob.names]) rfl ⟨_,T.get_set_same ..,hsl,?_⟩;have:=pO t [] ((srt l).map I) 0 rfl;rw [Zbd,Zbf,hsl] at this;exact this
end Go.Ev
