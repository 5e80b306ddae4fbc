import Derived.Test.YtkjkjpmahgeneaaGreatDoorWordsa
import Derived.Test.YtkjkjpmahgeneaaGreatDoorCodea
import Derived.Test.YtkjkjpmahgeneaaGreatDoorEvD
import Derived.Test.YtkjkjpmahgeneaaGreatDoorLaws
import Derived.Shelf.SlSortCmp.Whole1
import Derived.Deep.Slices
import Derived.Sort.Grow
import Derived.Sort.Row
import GoSem.Core.Next
import Derived.IntWalk
import Derived.Test.YtkjkjpmahgeneaaGreatDoorIrT
import Derived.KernelRfl
import Derived.Test.YtkjkjpmahgeneaaGreatDoorCodeb
set_option linter.unusedSimpArgs false
set_option linter.unusedVariables false
noncomputable section
namespace Go.Ev
theorem zli (c:Bool) (g f:List Int):(zcd c g f).length=f.length:=uI _ _ _ _ _
theorem DP.surj {n:Nat} {a:Sym} (ha:DP n a) {j:Nat} (hj:j<n):∃ i,i<n/\a.1.getD i 0=(j:Int):=by
 have h1:=ha.1.1;obtain ⟨i,hi,e⟩:=ha.perm.surj (show j<a.1.length by omega);exact ⟨i,by omega,by rw [Zac,e];rfl⟩
def idL (n:Nat):List Int:=(List.range n).map fun j:Nat=>(j:Int)
theorem pR (n:Nat):(idL n).length=n:=by simp [idL]
theorem zjl {n i:Nat} (h:i<n):(idL n).getD i 0=(i:Int):=by
 rw [idL,Zac,List.getElem?_map,List.getElem?_range h];rfl
def invS (a:Sym):Sym:=(zcd false a.1 (idL a.1.length),a.2)
theorem zjm {n:Nat} {a:Sym} (ha:DP n a) {k:Nat} (hk:k<n):(invS a).1[(a.1.getD k 0).toNat]? = some (k:Int):=by
 have h1:=ha.1.1;have:=zih (c:=false) ha.perm (f:=idL a.1.length) (by rw [pR]) (k:=k) (by rw [pR];omega);rw [zjl (by omega)] at this;exact this
theorem vD {n:Nat} {a:Sym} (ha:DP n a):DP n (invS a):=by
 have h1:=ha.1.1;have hl:(invS a).1.length=n:=by show (zcd _ _ _).length=n;rw [zli,pR,h1]
 have hv:∀ j,j<n->∃ i,i<n/\a.1.getD i 0=(j:Int)/\(invS a).1[j]? = some (i:Int):=fun j hj=>by
  obtain ⟨i,hi,e⟩:=ha.surj hj;have:=zjm ha hi;rw [e,Int.toNat_natCast] at this;exact ⟨i,hi,e,this⟩
 refine ⟨⟨hl,fun x hx => ?_⟩,?_⟩
 ·obtain ⟨j,hj⟩:=List.getElem?_of_mem hx;obtain ⟨i,hi,_,e⟩:=hv j (by rw [<- hl];exact (List.getElem?_eq_some_iff.1 hj).1);rw [hj] at e;cases e;omega
 ·rw [List.Nodup,Zbt];intro i j hi hj hij e;obtain ⟨a1,_,b1,c1⟩:=hv i (by omega);obtain ⟨a2,_,b2,c2⟩:=hv j (by omega);rw [List.getElem?_eq_getElem hi] at c1;rw [List.getElem?_eq_getElem hj] at c2;have e1:=Option.some.inj c1;have e2:=Option.some.inj c2;have:a1=a2:=by omega
  subst this;rw [b1] at b2;omega
theorem zjn {n:Nat} {a:Sym} (ha:DP n a):zQ (invS a) a=idS n:=by
 refine Prod.ext (dC (n:=n) (by show (xS _ _).length=n;rw [uB,ha.1.1]) (by simp [idS]) fun i hi => ?_) (by show (a.2 != a.2)=false;cases a.2 <;> rfl);rw [uR ha.1 hi,Zac (l:=(invS a).1),zjm ha hi];show some (i:Int)=((List.range n).map fun j:Nat=>(j:Int))[i]?;rw [List.getElem?_map,List.getElem?_range hi];rfl
theorem zoy {n:Nat} {a:Sym} (ha:DP n a):zQ a (invS a)=idS n:=by
 have L:=jY n;have hb:=vD ha;have hc:=vD hb;have e1:=zjn ha;have e2:=zjn hb;have:a=invS (invS a):=by
  have q:=L.assoc (invS (invS a)) (invS a) a hc hb ha;rw [e2,e1,L.el a ha,L.er _ hc] at q;exact q
 rw [show zQ a (invS a)=zQ (invS (invS a)) (invS a) by rw [<- this]];exact e2
theorem zgn {n:Nat} {a b:Sym} (ha:DP n a) (hb:DP n b) (h:zQ a b=idS n):b=invS a:=by
 have L:=jY n;have hi:=vD ha;have q:=L.assoc (invS a) a b hi ha hb;rw [zjn ha,h,L.el b hb,L.er _ hi] at q;exact q
def conj (a b:Sym):Sym:=zQ (zQ a b) (invS a)
theorem zoz {n:Nat} {a b c:Sym} (ha:DP n a) (hb:DP n b) (hc:DP n c):conj a (zQ b c)=zQ (conj a b) (conj a c):=by
 have L:=jY n;have hi:=vD ha;have hab:=L.dm a b ha hb;have hac:=L.dm a c ha hc;have hci:=L.dm _ _ hac hi;unfold conj;rw [L.assoc (zQ a b) (invS a) (zQ (zQ a c) (invS a)) hab hi hci,<- L.assoc (invS a) (zQ a c) (invS a) hi hac hi,<- L.assoc (invS a) a c hi ha hc,zjn ha,L.el c hc,<- L.assoc (zQ a b) c (invS a) hab hc hi,L.assoc a b c ha hb hc]
theorem zlj {n:Nat} {a b c:Sym} (ha:DP n a) (hb:DP n b) (hc:DP n c):conj (zQ a b) c=conj a (conj b c):=by
 have L:=jY n;have hia:=vD ha;have hib:=vD hb;have hab:=L.dm a b ha hb;have e:invS (zQ a b)=zQ (invS b) (invS a):=by
  refine (zgn hab (L.dm _ _ hib hia) ?_).symm;rw [L.assoc a b _ ha hb (L.dm _ _ hib hia),<- L.assoc b (invS b) (invS a) hb hib hia,zoy hb,L.el _ hia,zoy ha]
 have hbc:=L.dm b c hb hc;unfold conj;rw [e,L.assoc a b c ha hb hc,<- L.assoc (zQ a (zQ b c)) (invS b) (invS a) (L.dm _ _ ha hbc) hib hia,L.assoc a (zQ b c) (invS b) ha hbc hib]
theorem zru {n:Nat} {a b:Sym} (ha:DP n a) (hb:DP n b):DP n (conj a b):=(jY n).dm _ _ ((jY n).dm _ _ ha hb) (vD ha)
def zje (G S:List Sym):Bool:=G.all fun a=>S.all fun b=>decide (conj a b∈S)
theorem zlk {G S u1 q1 u2 q2:List Sym} {n:Nat} (hG:sZ G n) (hS:sZ S n) (hu1:∀ c∈u1,c∈G) (h1:CloS n u1 q1) (hq1:∀ a,a∈q1↔a∈G) (hu2:∀ c∈u2,c∈S) (h2:CloS n u2 q2) (hq2:∀ a,a∈q2↔a∈S) :
  (u1.all fun a=>u2.all fun b=>decide (conj a b∈S))=zje G S:=by
 rw [Bool.eq_iff_iff];simp only [zje,Zae,decide_eq_true_eq];have L:=jY n;constructor
 ·intro h;have k1:∀ a∈u1,∀ b∈S,conj a b∈S:=fun a ha b hb=>by
   have da:=hG.dp a (hu1 a ha)
   have:=h2.ind (fun b=>DP n b/\conj a b∈S) ⟨L.de,by unfold conj;rw [L.er a da,zoy da];exact hS.one⟩ (fun x hx c hc=>by
    have dc:=hS.dp c (hu2 c hc);exact ⟨L.dm _ _ dc hx.1,by rw [zoz da dc hx.1];exact hS.cl _ (h a ha c hc) _ hx.2⟩) b ((hq2 b).2 hb)
   exact this.2
  intro a ha
  have:=h1.ind (fun a=>DP n a/\∀ b∈S,conj a b∈S) ⟨L.de,fun b hb=>by
   have e:invS (idS n)=idS n:=(zgn L.de L.de (L.el _ L.de)).symm;unfold conj
   rw [e,L.er _ (L.dm _ _ L.de (hS.dp b hb)),L.el b (hS.dp b hb)];exact hb⟩ (fun x hx c hc=>by
    have dc:=hG.dp c (hu1 c hc);exact ⟨L.dm _ _ dc hx.1,fun b hb=>by rw [zlj dc hx.1 (hS.dp b hb)];exact k1 c hc _ (hx.2 b hb)⟩) a ((hq1 a).2 ha)
  exact this.2
 ·intro h a ha b hb;exact h a (hu1 a ha) b (hu2 b hb)
end Go.Ev
namespace Go.Ev
open Go Go.Proofs
variable {B:Nat}
set_option maxRecDepth 100000
theorem zu4 {a:Sym} {n:Nat} (ha:DP n a) (hn:n<=1000):Pure Tryz.prog B 124 [encS a] (· = encS (invS a)):=by
 have hl:=ha.1.1;refine yL fun h nx K H0 hK=>zR zS yw 10000 fun hf' => ?_;rw [yt.go,yt.t20,zA,yt.wo];refine H0.box (l:=[encI a.1,.bool a.2]) rfl fun b1 h1 nx1 H1 => ?_;refine H1.alloc fun b2 h2 nx2 H2 => ?_;have ld0:∀ {hh nn L'} (HH:Hp h hh nn (L'++[.arr b2 [.zf,.bool false],.arr b1 [encI a.1,.bool a.2]])) (op:AV->OP),zD (.ptr b1 (0+0)) hh op=op (encI a.1):=fun {hh nn L'} HH op=>HH.load (k:=L'.length+1) (i:=0) (l:=[encI a.1,.bool a.2]) (by rw [List.getElem?_append_right (by omega)];simp) rfl;have ld1:∀ {hh nn L'} (HH:Hp h hh nn (L'++[.arr b2 [.zf,.bool false],.arr b1 [encI a.1,.bool a.2]])) (op:AV->OP),zD (.ptr b1 (0+1)) hh op=op (.bool a.2):=fun {hh nn L'} HH op=>HH.load (k:=L'.length+1) (i:=1) (l:=[encI a.1,.bool a.2]) (by rw [List.getElem?_append_right (by omega)];simp) rfl;have mk:mkSl 8 (I (a.1.length:Int)) (I (a.1.length:Int))=true:=by
  show (Nat.ble a.1.length a.1.length&&Nat.ble a.1.length 1000000&&Nat.ble (8*a.1.length) 281474976710656)=true;rw [Zab (Zai _),Zab (by omega),Zab (by omega)];rfl
 rw [yt.t19,zA,yt.wu];simp only [Bool.and_self,jX,sFx];rw [ld0 (L':=[]) H2,zP,mk];simp only [Bool.and_self,jX];rw [ld1 (L':=[]) H2];refine H2.mk1 a.1.length rfl rfl (by omega) (by decide) fun tb h3 nx3 H3 => ?_;rw [ld1 (L':=[_]) H3];simp only [zB,zP];rw [ld0 (L':=[_]) H3]
 try simp only [zB]
 rw [pF rfl rfl];refine H3.alloc fun b3 h4 nx4 H4 => ?_;rw [pF rfl rfl]
 try simp only [zB]
 rw [ld1 (L':=[_,_]) H4]
 try simp only [zB,zP]
 rw [ld0 (L':=[_,_]) H4]
 try simp only [zB]
 refine H4.qg (k:=0) (n:=2) rfl rfl rfl fun h5 H5 => ?_;rw [yt.t18,zA,yt.t15,zA,yt.dw,sFx,ld0 (L':=[_,_]) H5,zP];have e0:List.replicate a.1.length (I 0)=(kK a.1.length false a.1 (idL a.1.length) 0).map I:=by simp [kK]
 rw [e0] at H5;rw [yt.t14,zH]
 refine yt.zl3 (fun m x8 h' nx'=>∃ i:Nat,x8=I i/\m=a.1.length-i/\i<=a.1.length/\Hp h h' nx' [.arr b3 [.sl tb 0 a.1.length (some a.1.length) 1,.bool a.2],.arr tb ((kK a.1.length false a.1 (idL a.1.length) i).map I),.arr b2 [.zf,.bool false],.arr b1 [encI a.1,.bool a.2]]) (m:=a.1.length) (by omega)
  ⟨0,rfl,by omega,by omega,H5⟩ ?_
 rintro m z4 z5 z8 z9 h6 nx6 R ⟨i,rfl,rfl,hi,H6⟩ hR;rw [yt.t12,zA,yt.rF,xq];by_cases hlt:i<a.1.length
 case neg =>
  rw [decide_eq_false (by omega),yt.t11,zA,yt.t4,zC,yt.v9,zG,yG,yU,yt.t17,zA,yt.sQ,H6.zh (k:=0) (n:=2) rfl rfl];refine H6.qg (k:=2) (n:=2) rfl rfl rfl fun h7 H7 => ?_;simp only [zV,yN];rw [yt.ret,H7.zh (k:=2) (n:=2) rfl rfl];obtain rfl:i=a.1.length:=by omega
  have hal:=uI a.1.length false a.1 (idL a.1.length) a.1.length;have e:invS a=(kK a.1.length false a.1 (idL a.1.length) a.1.length,a.2):=by
   unfold invS zcd;rw [pR]
  refine hK _ _ _ _ (encS (invS a)) H7 (vG ?_ (zK rfl) rfl) rfl;rw [e];have:=H7.zbx (k:=1) (e:=1) (n:=a.1.length) (cap:=some a.1.length) rfl (Zai _) (by simp [hal]) zs6;show aP h h7 _ (AV.lst 1 (kK _ _ _ _ _).length _);rw [hal];exact this
 rw [decide_eq_true (by omega),yt.t11,zA,yt.t4,zC,yt.v9,zF,zN];have hx:a.1[i]? = some a.1[i]:=List.getElem?_eq_getElem hlt;have hgb:=ha.perm.2 _ (Zas hlt);have hgd:a.1.getD i 0=a.1[i]:=by rw [Zac,hx];rfl
 rw [yt.t10,zA,yt.t8,zH,yt.t7,zA,yt.t5_s,tN rfl hlt,ldL (eF hx),yt.aI,sFx,H6.load (k:=0) (i:=0+0) rfl rfl,sIx (i:=(a.1[i]).toNat) (by omega) (by omega)];refine H6.store (k:=1) rfl (by rw [Zar,uI];omega) rfl fun h7 H7 => ?_;rw [yt.au,qx (by omega)];refine hR _ _ _ _ _ _ _ (by omega) ⟨i+1,rfl,rfl,by omega,H7.cast ?_⟩;rw [vN,hgd,zjl hlt];simp [List.map_set,xOf]
def nrmV (G S:List Sym) (n:Int):AV:=if subE G S n≠0 then .tup [.bool false,I (subE G S n)] else .tup [.bool (zje G S),I 0]
theorem wI {α:Type} {l:List α} {p:α->Bool} {i:Nat} {x:α} (hx:l[i]? = some x) (h:(l.take i).all p=true) (hp:p x=true):(l.take (i+1)).all p=true:=by
 rw [Zau,hx,List.all_append,h];simp [hp]
theorem mE {α:Type} {l:List α} {p:α->Bool} (h:(l.take l.length).all p=true):l.all p=true:=by rwa [Zav (Zai _)] at h
theorem zh3 {G S:List Sym} {n:Int} (hG:G.length<=100000) (hw:∀ g∈G,g.1.length<=100000) (hS:S.length<=100000) (hw2:∀ g∈S,g.1.length<=100000):Pure Tryz.prog B 40 [jm G,jm S,I n] (· = nrmV G S n):=by
 refine yL fun h nx K H0 hK=>zR zS yw 10000000 fun hf' => ?_;rw [F40.go,F40.t43,zA,F40.wo,F40.t42,zA,F40.wu];refine m8 hG hw hS hw2 H0 (fun e h2 nx2 X he hne H2 => ?_) fun n' u1 q1 u2 q2 g o1 o2 h2 nx2 X hn ok1 ok2 hse hu1 hul1 hC1 hq1 hu2 hul2 hC2 hq2 hsub H2 => ?_
 ·rw [yZ,jB,gA];refine H2.alloc fun b6 h3 nx3 H3 => ?_;refine H3.qg (k:=0) (n:=2) rfl rfl rfl fun h4 H4 => ?_;rw [F40.t41,zA,F40.t6,zA,F40.dw,mg,decide_eq_false hne,Zak,F40.t5,zC,F40.v10,zF,F40.t4,zA,F40.rF];simp only [zV,yN];rw [F40.ret];exact hK _ _ _ _ _ H4 (gI (zK rfl) (zK rfl)) (by rw [nrmV,<- he,if_pos hne])
 subst hn;have zam:=ok1.n256;have hgen:=zlk ok1 ok2 hu1 hC1 hq1 hu2 hC2 hq2;rw [yZ,jB,gA];refine H2.alloc fun b6 h3 nx3 H3 => ?_;refine H3.qg (k:=0) (n:=2) rfl rfl rfl fun h4 H4 => ?_;rw [F40.t41,zA,F40.t6,zA,F40.dw,mg,decide_eq_true rfl,Zaj,F40.t5,zC,F40.v10,zG,zN,F40.t40,zA,F40.t37,zA,F40.t7_s,sAx0,H4.load (k:=0) (i:=0) rfl rfl,H4.zee (k:=3) rfl];have hd2:∀ b∈q2,DS n' b:=fun b hb=>(ok2.dp b ((hq2 b).1 hb)).1;have no:∀ {h' nx' L'},Hp h h' nx' L'->(∃ a∈u1,∃ b∈u2,conj a b∉S)->K (.tup [.bool false,I 0]) h' nx'=.ok True:=fun H' ⟨a,ha,b,hb,hc⟩=>by
  refine hK _ _ _ _ _ H' (gI (zK rfl) (zK rfl)) ?_;rw [nrmV,hse,if_neg (by decide),<- hgen]
  congr 3
  refine (Bool.eq_false_iff.2 fun q => ?_).symm;have:=List.all_eq_true.1 (List.all_eq_true.1 q a ha) b hb;exact hc (of_decide_eq_true this)
 rw [F40.t36,zH]
 refine F40.zvi (fun m x13 h' nx'=>∃ i:Nat,x13=I i/\m=u1.length-i/\i<=u1.length/\(u1.take i).all (fun a=>u2.all fun b=>decide (conj a b∈S))=true/\Hp h h' nx' (.arr b6 [qp o1 2 u1.length,qp o2 2 u2.length]::.map g (qy q2)::.gro o2 2 u2.length (zT u2)::.gro o1 2 u1.length (zT u1)::(X++[]))) (m:=u1.length) (by omega)
  ⟨0,rfl,by omega,by omega,by simp,H4⟩ ?_
 rintro m z3 z4 z8 z9 z13 z14 z15 z16 z17 z18 z19 h6 nx6 R ⟨i,rfl,rfl,hi,hal,H6⟩ hR;rw [F40.t34,zA,F40.sV,xq];by_cases hlt:i<u1.length
 case neg =>
  rw [decide_eq_false (by omega),F40.t33,zA,F40.t9,zC,F40.v14,zG,yG,yU,F40.t39,zA,F40.zvj];simp only [zV,yN];rw [F40.ret];obtain rfl:i=u1.length:=by omega
  exact hK _ _ _ _ _ H6 (gI (zK rfl) (zK rfl)) (by rw [nrmV,hse,if_neg (by decide),<- hgen,mE hal])
 rw [decide_eq_true (by omega),F40.t33,zA,F40.t9,zC,F40.v14,zF,zN,F40.t32,zA,F40.t30,zH,F40.t29,zA,F40.fG];have hx:u1[i]? = some u1[i]:=List.getElem?_eq_getElem hlt;have hxm:=Zaa hx;have hdx:=ok1.dp _ (hu1 _ hxm);obtain ⟨iu,ou,e1,e2⟩:=zia (k:=3) H6 rfl hx;rw [e1,e2];refine H6.alloc fun b8 h7 nx7 H7 => ?_;refine H7.qg (k:=0) (n:=2) rfl rfl rfl fun h8 H8 => ?_;rw [F40.t28,zA,F40.zaj,sAx1,H8.load (k:=1) (i:=0+1) rfl rfl,H8.zee (k:=3) rfl,F40.t27,zH]
 refine F40.zl2 (fun m x17 h' nx'=>∃ k:Nat,x17=I k/\m=u2.length-k/\k<=u2.length/\(u2.take k).all (fun b=>decide (conj u1[i] b∈S))=true/\Hp h h' nx' (.arr b8 [encI u1[i].1,.bool u1[i].2]::.arr b6 [qp o1 2 u1.length,qp o2 2 u2.length]::.map g (qy q2)::.gro o2 2 u2.length (zT u2)::.gro o1 2 u1.length (zT u1)::(X++[]))) (m:=u2.length) (by omega)
  ⟨0,rfl,by omega,by omega,by simp,H8⟩ ?_
 rintro m y3 y4 y9 y17 y18 y19 h9 nx9 R' ⟨k,rfl,rfl,hk,hal2,H9⟩ hR';rw [F40.t25,zA,F40.tH,xq];by_cases hlt2:k<u2.length
 case neg =>
  rw [decide_eq_false (by omega),F40.t24,zA,F40.t13,zC,F40.v18,zG,yG,yU,F40.zez,qx (by omega)];obtain rfl:k=u2.length:=by omega
  exact hR _ _ _ _ _ _ _ _ _ _ _ _ _ _ (by omega) ⟨i+1,rfl,rfl,by omega,wI hx hal (mE hal2),H9.drop⟩
 rw [decide_eq_true (by omega),F40.t24,zA,F40.t13,zC,F40.v18,zF,zN,F40.t23,zA,F40.t21,zH,F40.t20,zA,F40.rC];have hy:u2[k]? = some u2[k]:=List.getElem?_eq_getElem hlt2;have hym:=Zaa hy;have hdy:=ok2.dp _ (hu2 _ hym);obtain ⟨iv,ov,e3,e4⟩:=zia (k:=3) H9 rfl hy;rw [e3,e4];refine H9.alloc fun b9 h10 nx10 H10 => ?_;refine H10.qg (k:=0) (n:=2) rfl rfl rfl fun h11 H11 => ?_;rw [F40.t19,zA,F40.aX,H11.zh (k:=1) (n:=2) rfl rfl,H11.zh (k:=0) (n:=2) rfl rfl,H11.zh (k:=1) (n:=2) rfl rfl];refine mG (a:=u1[i]) (b:=u2[k]) (fun z hz=>by rw [hdx.1.1];exact hdy.1.2 z hz) (by rw [hdy.1.1];omega) _ _ _ _ ?_;rintro _ rfl _;rw [H11.zh (k:=1) (n:=2) rfl rfl,zB,zB];refine zu4 (a:=u1[i]) hdx (by omega) _ _ _ _ ?_;rintro _ rfl _;have hdi:=vD hdx;have hdxy:=(jY n').dm _ _ hdx hdy;rw [zB];refine mG (a:=zQ u1[i] u2[k]) (b:=invS u1[i]) (fun z hz=>by rw [hdxy.1.1];exact hdi.1.2 z hz) (by rw [hdi.1.1];omega) _ _ _ _ ?_;rintro _ rfl _;rw [zB];have hdc:DP n' (conj u1[i] u2[k]):=zru hdx hdy;refine zcf (a:=conj u1[i] u2[k]) zam hdc.1 hd2 H11 (k:=3) rfl ?_;rw [jO,F40.t18,zC,F40.v19];by_cases c:conj u1[i] u2[k]∈q2
 ·rw [decide_eq_true c,Zaj,zG,zN,F40.zah,qx (by omega)];exact hR' _ _ _ _ _ _ _ _ _ (by omega) ⟨k+1,rfl,rfl,by omega,wI hy hal2 (decide_eq_true ((hq2 _).1 c)),H11.drop⟩
 ·rw [decide_eq_false c,Zak,zF,F40.t17,zA,F40.sQ];simp only [zV,zho,yN];rw [F40.ret];exact no H11 ⟨_,hxm,_,hym,fun q=>c ((hq2 _).2 q)⟩
end Go.Ev
namespace Go.Ev
abbrev AscS (l:List Sym):Prop:=l.Pairwise fun a b=>dh a b=true
def tu (l:List Sym) (a:Sym):List Sym:=if a∈l then l else l.takeWhile (dh · a)++a::l.dropWhile (dh · a)
def xQ (l:List Sym):List Sym:=l.foldl tu []
theorem ztd {p:Sym->Bool}:∀ {l:List Sym} {i:Nat},i<=l.length->(l.take i).all p=true->(∀ h:i<l.length,p l[i]=false)->l.take i=l.takeWhile p/\l.drop i=l.dropWhile p
 | [],i,h,_,_=>by simp
 | x::l,0,_,_,hn=>by
  have:=hn (by simp);simp at this;simp [List.takeWhile_cons,List.dropWhile_cons,this]
 | x::l,i+1,h,ha,hn=>by
  rw [List.take_succ_cons,List.all_cons,Zad] at ha;obtain ⟨e1,e2⟩:=ztd (l:=l) (i:=i) (by simpa using h) ha.2 (fun h'=>by have:=hn (by simpa using h');simpa using this);rw [List.take_succ_cons,Zcn,List.takeWhile_cons,List.dropWhile_cons,ha.1,e1,e2];simp
theorem zrv {l:List Sym} {a:Sym} {i:Nat} (hi:i<=l.length) (ha:(l.take i).all (dh · a)=true) (hn:∀ h:i<l.length,dh l[i] a=false) (h0:a∉l):tu l a=l.take i++[a]++l.drop i:=by
 obtain ⟨e1,e2⟩:=ztd hi ha hn;rw [tu,if_neg h0,<- e1,<- e2];simp
theorem zgo {l:List Sym} {a x:Sym}:x∈tu l a↔x=a\/x∈l:=by
 unfold tu;split
 ·rename_i h;exact ⟨.inr,fun q=>q.elim (fun e=>e ▸ h) id⟩
 ·have:=List.takeWhile_append_dropWhile (p:=(dh · a)) (l:=l)
  conv=>rhs;rw [<- this]
  simp only [Zao,Zaf];constructor
  ·rintro (h | h | h)
   ·exact .inr (.inl h)
   ·exact .inl h
   ·exact .inr (.inr h)
  ·rintro (h | h | h)
   ·exact .inr (.inl h)
   ·exact .inl h
   ·exact .inr (.inr h)
theorem zo0 {a b:Sym} (h:a≠b) (h2:dh a b=false):dh b a=true:=by
 unfold dh at h2 ⊢;by_cases c:a.1=b.1
 ·rw [if_pos c] at h2;rw [if_pos c.symm];have:a.2≠b.2:=fun q=>h (Prod.ext c q)
  revert h2 this;cases a.2 <;> cases b.2 <;> simp
 ·rw [if_neg c] at h2;rw [if_neg (fun q=>c q.symm)];rw [kZ] at h2 ⊢;have n1:=Go.Proofs.eU a.1 b.1;have e:¬ Go.Proofs.ku a.1 b.1<0:=fun q=>by simp [q] at h2
  have e2:Go.Proofs.ku a.1 b.1≠0:=fun q=>c (Go.Proofs.aH q);exact decide_eq_true (by omega)
theorem zo1 {l:List Sym} {a:Sym} (h:AscS l):AscS (tu l a):=by
 unfold tu;split
 ·exact h
 ·rename_i h0;have e:=List.takeWhile_append_dropWhile (p:=(dh · a)) (l:=l);have h':=h;rw [<- e] at h';obtain ⟨h1,h2,h3⟩:=List.pairwise_append.1 h';have ht:∀ x∈l.takeWhile (dh · a),dh x a=true:=fun x hx=>(List.all_eq_true.1 (List.all_takeWhile (p:=(dh · a)) (l:=l))) x hx;have hd:∀ x∈l.dropWhile (dh · a),dh a x=true:=by
   cases q:l.dropWhile (dh · a) with
   | nil=>intro x hx;cases hx
   | cons y r =>
    have hy:dh y a=false:=by
     have:=List.head?_dropWhile_not (p:=(dh · a)) (l:=l);rw [q] at this;simpa using this
    have hym:y∈l:=by rw [<- e,q];simp
    have hya:dh a y=true:=zo0 (fun e=>h0 (e ▸ hym)) hy;intro x hx;rcases List.mem_cons.1 hx with rfl | hx
    ·exact hya
    ·rw [q] at h2;exact xN hya ((List.pairwise_cons.1 h2).1 x hx)
  refine List.pairwise_append.2 ⟨h1,List.pairwise_cons.2 ⟨hd,h2⟩,fun x hx y hy => ?_⟩;rcases List.mem_cons.1 hy with rfl | hy
  ·exact ht x hx
  ·exact xN (ht x hx) (hd y hy)
theorem zcq (l:List Sym):∀ (acc:List Sym),AscS acc->AscS (l.foldl tu acc)/\∀ x,x∈l.foldl tu acc↔x∈acc\/x∈l:=by
 induction l with
 | nil=>intro acc h;exact ⟨h,fun x=>by simp⟩
 | cons a l ih =>
  intro acc h;obtain ⟨h1,h2⟩:=ih (tu acc a) (zo1 h);refine ⟨h1,fun x => ?_⟩;rw [List.foldl_cons,h2,zgo,Zaf];constructor
  ·rintro ((q | q) | q)
   ·exact .inr (.inl q)
   ·exact .inl q
   ·exact .inr (.inr q)
  ·rintro (q | q | q)
   ·exact .inl (.inr q)
   ·exact .inl (.inl q)
   ·exact .inr q
theorem zll (l:List Sym):AscS (xQ l):=(zcq l [] .nil).1
theorem zlm {l:List Sym} {x:Sym}:x∈xQ l↔x∈l:=by rw [xQ,(zcq l [] .nil).2];simp
theorem AscS.nd {l:List Sym} (h:AscS l):l.Nodup:=h.imp fun hab e=>by rw [e,qW] at hab;cases hab
theorem zb9:∀ {a b:List Sym},AscS a->AscS b->(∀ x,x∈a↔x∈b)->a=b
 | [],[],_,_,_=>rfl
 | [],y::b,_,_,h=>by have:=(h y).2 (by simp);cases this
 | x::a,[],_,_,h=>by have:=(h x).1 (by simp);cases this
 | x::a,y::b,ha,hb,h=>by
  have ha':=List.pairwise_cons.1 ha;have hb':=List.pairwise_cons.1 hb;have e:x=y:=by
   have h1:=(h x).1 (by simp);have h2:=(h y).2 (by simp);rcases List.mem_cons.1 h1 with q | q
   ·exact q
   ·rcases List.mem_cons.1 h2 with r | r
    ·exact r.symm
    ·have h3:=hb'.1 x q;have h4:=ha'.1 y r;rw [zcl h3] at h4;cases h4
  subst e
  congr 1
  refine zb9 ha'.2 hb'.2 fun z => ?_;have hz:=h z;simp only [Zaf] at hz;constructor
  ·intro q;rcases hz.1 (.inr q) with rfl | r
   ·have:=ha'.1 z q;rw [qW] at this;cases this
   ·exact r
  ·intro q;rcases hz.2 (.inr q) with rfl | r
   ·have:=hb'.1 z q;rw [qW] at this;cases this
   ·exact r
theorem zo2 (l:List Sym) (a:Sym):(tu l a).length<=l.length+1:=by
 unfold tu;split
 ·omega
 ·have:=congrArg List.length (List.takeWhile_append_dropWhile (p:=(dh · a)) (l:=l));simp only [Zap,Zbm] at this ⊢;omega
theorem zet (l:List Sym):∀ acc:List Sym,(l.foldl tu acc).length<=acc.length+l.length:=by
 induction l with
 | nil=>intro acc;simp
 | cons a l ih=>intro acc;rw [List.foldl_cons,Zbm];have:=ih (tu acc a);have:=zo2 acc a;omega
end Go.Ev
namespace Go.Ev
open Go Go.Proofs
theorem zo3 {a b:Sym} (h:a≠b) (h2:fB a b<=0):dh a b=true:=by
 rw [wR] at h2;unfold dh;by_cases c:a.1=b.1
 ·rw [if_pos c] at h2 ⊢;have:a.2≠b.2:=fun q=>h (Prod.ext c q)
  revert h2 this;cases a.2 <;> cases b.2 <;> simp
 ·rw [if_neg c] at h2 ⊢;rw [kZ];have:=mS c;exact decide_eq_true (by omega)
theorem zca {s:List Sym} (hn:s.Nodup) (h:s.Pairwise fun a b=>fB a b<=0):AscS s:=(List.pairwise_and_iff.2 ⟨hn,h⟩).imp fun ⟨h1,h2⟩=>zo3 h1 h2
end Go.Ev
namespace Go.Ev
open Go Go.Proofs
variable {B:Nat}
set_option maxRecDepth 100000
theorem zrx {P:Program} {f:Nat} {p:Pa} {args args':List AV} {h:T Blk} {nx:Pa} {K:Kw Prop} (hv:∀ (E:Env) (vs:List Value),VRL E args vs->VRL E args' vs) (hk:(CS P B).fn f p args' h nx K=.ok True):(CS P B).fn f p args h nx K=.ok True:=by
 rw [tJ] at hk ⊢;exact ⟨fun E w vs H hv'=>hk.1 E w vs H (hv _ _ hv'),rfl⟩
theorem zry {E:Env} {e:Nat} {vv:Value} (h:VR E .zf vv):VR E (.lst e 0 []) vv:=by
 simp only [VR] at h ⊢;exact ⟨rfl,by simp,none,0,h,.inl (by simp)⟩
theorem zcr:∀ (q:List Sym) (i:Nat),(zT q).take (i*2)=zT (q.take i)
 | q,0=>by simp [zT]
 | [],i+1=>by simp [zT]
 | p::q,i+1=>by
  rw [List.take_succ_cons,show (i+1)*2=i*2+1+1 by omega];show encI p.1::.bool p.2::(zT q).take (i*2)=_;rw [zcr q i]
  rfl
theorem zcs (q:List Sym):(zT q).all jq=true:=List.all_eq_true.2 fun v hv=>rP.jq (u6 v hv)
def LG (v:AV) (l:List Sym):Prop:=(v=.zf/\l=[])\/(v=jm l/\l≠[])
theorem LG.len {v:AV} {l:List Sym} (h:LG v l) {op:AV->OP}:sLen v op=op (I l.length):=by
 rcases h with ⟨rfl,rfl⟩ | ⟨rfl,_⟩
 ·exact jD
 ·exact zP ..
theorem LG.frz {v:AV} {l:List Sym} (h:LG v l) {N:Pa->Prop} {O:AV->Prop} {hh:T Blk}:Frz True N O hh v (jm l):=by
 rcases h with ⟨rfl,rfl⟩ | ⟨rfl,_⟩
 ·exact .zat 2
 ·exact zK (wV _)
theorem LG.call {P:Program} {f:Nat} {p:Pa} {v:AV} {rest:List AV} {l:List Sym} (h:LG v l) {hh:T Blk} {nx:Pa} {K:Kw Prop} (hk:(CS P B).fn f p (jm l::rest) hh nx K=.ok True):(CS P B).fn f p (v::rest) hh nx K=.ok True:=by
 rcases h with ⟨rfl,rfl⟩ | ⟨rfl,_⟩
 ·refine zrx (fun E vs hv => ?_) hk;simp only [VRL] at hv ⊢;obtain ⟨a,m,q,r,s⟩:=hv;exact ⟨a,m,q,zry r,s⟩
 ·exact hk
theorem LG.halves {v:AV} {l:List Sym} {i:Nat} (h:LG v l) (hi:i<=l.length):∃ lo hi':AV,(∀ op:AV->OP,gR 2 v none (some (I (i:Int))) none op=op lo)/\(∀ op:AV->OP,gR 2 v (some (I (i:Int))) none none op=op hi') /\
  (∀ (h:T Blk) (no:OP) (K':List AV->Nat->OP),gM lo h no K'=K' (zT (l.take i)) i)/\(∀ (h:T Blk) (no:OP) (K':List AV->Nat->OP),gM hi' h no K'=K' (zT (l.drop i)) (l.length-i)):=by
 rcases h with ⟨rfl,rfl⟩ | ⟨rfl,h0⟩
 ·obtain rfl:i=0:=by simpa using hi
  exact ⟨.zf,.zf,fun op=>rfl,fun op=>rfl,fun h no K'=>rfl,fun h no K'=>rfl⟩
 ·have hn:1<=l.length:=by cases l with
   | nil=>exact absurd rfl h0
   | cons _ _=>simp
  refine ⟨.lst 2 (i-0) (((zT l).drop (0*2)).take ((i-0)*2)),.lst 2 (l.length-i) (((zT l).drop (i*2)).take ((l.length-i)*2)),fun op => ?_,fun op => ?_,fun h no K' => ?_,fun h no K' => ?_⟩
  ·show (bif Nat.beq 2 2&&Nat.ble 1 l.length then dR 2 l.length (zT l) none (some (I (i:Int))) none op else .no 17)=_;rw [Zaz,Zab hn];show (match bnd (some (I (i:Int))) l.length l.length with | none=>Out.no 17 | some h=>match bnd none h 0 with | none=>.no 17 | some q=>op (.lst 2 (h-q) (((zT l).drop (q*2)).take ((h-q)*2))))=_;rw [mA hi];rfl
  ·show (bif Nat.beq 2 2&&Nat.ble 1 l.length then dR 2 l.length (zT l) (some (I (i:Int))) none none op else .no 17)=_;rw [Zaz,Zab hn];show (match bnd (some (I (i:Int))) l.length 0 with | none=>Out.no 17 | some q=>op (.lst 2 (l.length-q) (((zT l).drop (q*2)).take ((l.length-q)*2))))=_;rw [mA hi]
  ·show K' _ (i-0)=_;rw [Nat.sub_zero,Nat.zero_mul,List.drop_zero,zcr]
  ·show K' _ (l.length-i)=_;rw [xJ,Zav (by rw [jN,Zcc];omega)]
theorem zu5 {v:AV} {l:List Sym} {a:Sym} (hv:LG v l) (hl:l.length<=100000) (hw:∀ g∈l,g.1.length<=1000000) (ha:a.1.length<=1000000):Pure Tryz.prog B 125 [v,encS a] (· = jm (tu l a)):=by
 refine yL fun h nx K H0 hK=>zR zS yw 1000000 fun hf' => ?_;rw [yj.go,yj.t20,zA,yj.wo];refine H0.box (l:=[encI a.1,.bool a.2]) rfl fun b2 h1 nx1 H1 => ?_;rw [yj.t19,zA,yj.t5,zA,yj.wu,H1.zh (k:=0) (n:=2) rfl rfl];refine hv.call (zot (a:=a) (by omega) hw _ _ _ _ ?_);rintro _ ⟨r,rfl,hr⟩ _;rw [aW,yj.t4,zC,yj.v5];by_cases c:r<0
 case neg =>
  rw [decide_eq_true (by omega),zF,yj.t3,zA,yj.dw];simp only [zV,yN];rw [yj.ret];have hin:a∈l:=Decidable.byContradiction fun q=>c (hr.2 q);exact hK _ _ _ _ _ H1 hv.frz (by rw [tu,if_pos hin])
 have hnin:=hr.1 c;rw [decide_eq_false (by omega),zG,zN,yj.t18,zA,yj.aI,yj.t17,zA,yj.t14,zH];refine yj.zl3 (fun m x4 h' nx'=>∃ i:Nat,x4=I i/\m=l.length-i/\i<=l.length/\(l.take i).all (dh · a)=true/\Hp h h' nx' [.arr b2 [encI a.1,.bool a.2]]) (m:=l.length) (by omega) ⟨0,rfl,by omega,by omega,by simp,H1⟩ ?_;rintro m z4 z6 h3 nx3 R ⟨i,rfl,rfl,hi,hal,H3⟩ hR;have fin:(∀ h:i<l.length,dh l[i] a=false)->IR.run yj.t16 (CS Tryz.prog B) 1000000 (fnO yj.res K) (jv yj.res K) (yj.fr v (encS a) (.ptr b2 0) .zf (I i) (.bool false) (.bool false)) h3 nx3=.ok True:=by
  intro hn;obtain ⟨lo,hi',e1,e2,r1,r2⟩:=hv.halves hi;have f0:(j6 (fJ 0 [AV.zf,.bool false]) []).isSome=true:=rfl;have f1:(j6 (fJ 1 [AV.zf,.bool false]) [(0,2,AV.agg [encI a.1,.bool a.2])]).isSome=true:=rfl;rw [yj.t16,zA,yj.aX,f0,Bool.and_self,jX,e1,H3.zh (k:=0) (n:=2) rfl rfl,f1,Bool.and_self,jX,e2];refine H3.zx (l:=[]) rfl fun e0 h4 nx4 H4 => ?_;have ld4:∀ op:AV->OP,zM 2 (.ptr b2 0) h4 op=op (.agg [encI a.1,.bool a.2]):=fun op=>H4.zh (k:=1) (n:=2) rfl rfl
  try simp only [e1,e2,ld4,zB]
  have q0:∀ (x:AV) (g:T Blk) (n:Pa) (K':KW3),uW (CS Tryz.prog B) 2 32 (.sl e0 0 0 (some 0) 2) x g n K'=tX 2 32 (.sl e0 0 0 (some 0) 2) x g n K':=fun _ _ _ _=>rfl;rw [q0];refine H4.zw7 (by decide) (fun no K'=>r1 _ no K') (by rw [jN,Zbc];omega) (zcs _) (by decide) (by omega) fun w X h5 nx5 H5 hp hq => ?_;have ld5:∀ op:AV->OP,zM 2 (.ptr b2 0) h5 op=op (.agg [encI a.1,.bool a.2]):=fun op=>H5.zh (k:=1) (n:=2) rfl rfl
  try simp only [e1,e2,ld5,zB]
  refine H5.zx (l:=[encI a.1,.bool a.2]) rfl fun b h6 nx6 H6 => ?_
  try simp only [e1,e2,zB]
  rw [hq];refine hp _ _ _ _ [encI a.1,.bool a.2] b _ H6 rfl rfl fun id h7 nx7 H7 => ?_
  try simp only [e1,e2,zB]
  have q1:∀ (x:AV) (g:T Blk) (n:Pa) (K':KW3),uW (CS Tryz.prog B) 2 32 (.sl id 0 (i+1) none 2) x g n K'=tX 2 32 (qp (some id) 2 (i+1)) x g n K':=fun _ _ _ _=>rfl;rw [q1];refine H7.appN (k:=0) (o:=some id) (n:=i+1) (c:=l.length-i) (new:=zT (l.drop i)) rfl (fun no K'=>r2 _ no K') (by rw [jN,Zcc]) (zcs _) (by decide) (by decide) (by omega) fun o' h8 nx8 _ H8 => ?_;simp only [zV,yN];rw [yj.ret];have hp:=zrv hi hal hn hnin;have e3:i+1+(l.length-i)=(tu l a).length:=by
   rw [hp];simp only [Zap,Zbc,Zcc,Zbm,List.length_nil];omega
  have e4:zT (l.take i)++[encI a.1,.bool a.2]++zT (l.drop i)=zT (tu l a):=by
   rw [hp];unfold zT;rw [Zbg,Zbg];rfl
  have H9:Hp h h8 nx8 (.gro o' 2 (tu l a).length (zT (tu l a))::[.arr b2 [encI a.1,.bool a.2]]):=by
   have:=H8;rw [e3] at this;simp only [List.set_cons_zero,e4] at this;exact this
  rw [e3];exact hK _ _ _ _ _ H9 (H9.zae (k:=0) rfl u6) rfl
 rw [yj.t12,zA,yj.t9,zA,yj.t7_s,hv.len,xq];by_cases hlt:i<l.length
 case neg =>
  simp only [show ¬ (i:Int)<(l.length:Int) by omega,decide_false,uZ,zs7,yR];rw [yj.t8,zC,yj.v6,zG,yG,yU];exact fin fun q=>absurd q hlt
 have hvl:v=jm l:=by
  rcases hv with ⟨_,rfl⟩ | ⟨q,_⟩
  ·simp at hlt
  ·exact q
 subst hvl;simp only [show (i:Int)<(l.length:Int) by omega,decide_true,gF];rw [tN rfl hlt,jZ hlt,q8,H3.zh (k:=0) (n:=2) rfl rfl,xR];refine zk1 (a:=l[i]) (b:=a) (hw _ (Zas hlt)) ha _ _ _ _ ?_;rintro _ rfl _;rw [yK,yj.t8,zC,yj.v6];cases c2:dh l[i] a with
 | false =>
  rw [zG,yG,yU];exact fin fun _=>c2
 | true =>
  rw [zF,zN,yj.t11,zH,yj.fG,qx (by omega)];refine hR _ _ _ _ _ (by omega) ⟨i+1,rfl,rfl,by omega,?_,H3⟩;exact wI (List.getElem?_eq_getElem hlt) hal c2
end Go.Ev
namespace Go.Ev
open Go.Proofs (ku eU aH kY uG)
abbrev AscT (l:List (List Int)):Prop:=l.Pairwise fun a b=>j5 a b=true
end Go.Ev
namespace Go.Ev
open Go Go.Proofs
variable {B:Nat}
set_option maxRecDepth 100000
def Kept (s r:List (List Int)) (j:Nat):Prop:=AscT r/\(∀ x,x∈r↔x∈s.take j)/\1<=r.length/\r.length<=j/\r.getLast? = s[j-1]?
theorem Kept.same {s r:List (List Int)} {j:Nat} (hj:1<=j) (h:Kept s r j) (hl:j<s.length) (e:s[j]=s[j-1]):Kept s r (j+1):=by
 obtain ⟨h1,h2,h3,h4,h5⟩:=h;have hp:s[j-1]? = some s[j-1]:=List.getElem?_eq_getElem (by omega);refine ⟨h1,fun x => ?_,h3,by omega,?_⟩
 ·rw [h2,Zau,List.getElem?_eq_getElem hl,Zao];constructor
  ·exact .inl
  ·rintro (q | q)
   ·exact q
   ·have:x=s[j-1]:=by rw [<- e];simpa using q
    rw [this];exact Zaa (i:=j-1) (by rw [List.getElem?_take_of_lt (by omega)];exact hp)
 ·rw [h5,hp,Nat.add_sub_cancel,List.getElem?_eq_getElem hl,e]
theorem Kept.new {s r:List (List Int)} {j:Nat} (hj:1<=j) (h:Kept s r j) (hs:s.Pairwise fun a b=>ku a b<=0) (hl:j<s.length) (e:s[j]≠s[j-1]):Kept s (r++[s[j]]) (j+1):=by
 obtain ⟨h1,h2,h3,h4,h5⟩:=h;have hlt:∀ x∈s.take j,j5 x s[j]=true:=fun x hx=>by
  have hpw:=List.pairwise_iff_getElem.1 hs;obtain ⟨i,hi⟩:=List.getElem?_of_mem hx;have hil:=(List.getElem?_eq_some_iff.1 hi).1;rw [Zbc] at hil;rw [List.getElem?_take_of_lt (by omega),List.getElem?_eq_getElem (by omega)] at hi;obtain rfl:=Option.some.inj hi;have a1:=hpw i j (by omega) hl (by omega);have a2:=hpw (j-1) j (by omega) hl (by omega);have a3:ku s[j-1] s[j]≠0:=fun q=>e (aH q).symm;rw [kZ];by_cases q:i=j-1
  ·subst q;exact decide_eq_true (by omega)
  ·have a4:=hpw i (j-1) (by omega) (by omega) (by omega);by_cases z:ku s[i] s[j-1]=0
   ·rw [aH z];exact decide_eq_true (by omega)
   ·exact decide_eq_true (uG (b:=s[j-1]) (by omega) (by omega))
 refine ⟨List.pairwise_append.2 ⟨h1,by simp,fun x hx y hy => ?_⟩,fun x => ?_,by simp,by simp;omega,?_⟩
 ·rw [List.mem_singleton.1 hy];exact hlt x ((h2 x).1 hx)
 ·rw [Zao,h2,Zau,List.getElem?_eq_getElem hl,Zao];simp
 ·rw [Nat.add_sub_cancel,List.getElem?_eq_getElem hl];simp
theorem wE {a b c:List Int} (h1:ku a b<=0) (h2:ku b c<=0):ku a c<=0:=by
 by_cases z1:ku a b=0
 ·rw [aH z1];exact h2
 ·by_cases z2:ku b c=0
  ·rw [<- aH z2];exact h1
  ·have:=uG (a:=a) (b:=b) (c:=c) (by omega) (by omega);omega
def LT (v:AV) (l:List (List Int)):Prop:=(v=.zf/\l=[])\/(v=encT l/\l≠[])
theorem LT.len {v:AV} {l:List (List Int)} (h:LT v l) {op:AV->OP}:sLen v op=op (I l.length):=by
 rcases h with ⟨rfl,rfl⟩ | ⟨rfl,_⟩
 ·exact jD
 ·exact zP ..
theorem LT.frz {v:AV} {l:List (List Int)} (h:LT v l) {N:Pa->Prop} {O:AV->Prop} {hh:T Blk}:Frz True N O hh v (encT l):=by
 rcases h with ⟨rfl,rfl⟩ | ⟨rfl,_⟩
 ·exact .zat 1
 ·exact zK (zkg _)
theorem LT.halves {v:AV} {l:List (List Int)} {i:Nat} (h:LT v l) (hi:i<=l.length):∃ lo hi':AV,(∀ op:AV->OP,gR 1 v none (some (I (i:Int))) none op=op lo)/\(∀ op:AV->OP,gR 1 v (some (I (i:Int))) none none op=op hi') /\
  (∀ (h:T Blk) (no:OP) (K':List AV->Nat->OP),gM lo h no K'=K' ((l.take i).map encI) i)/\(∀ (h:T Blk) (no:OP) (K':List AV->Nat->OP),gM hi' h no K'=K' ((l.drop i).map encI) (l.length-i)):=by
 rcases h with ⟨rfl,rfl⟩ | ⟨rfl,h0⟩
 ·obtain rfl:i=0:=by simpa using hi
  exact ⟨.zf,.zf,fun op=>rfl,fun op=>rfl,fun h no K'=>rfl,fun h no K'=>rfl⟩
 ·have hn:1<=l.length:=by cases l with
   | nil=>exact absurd rfl h0
   | cons _ _=>simp
  refine ⟨.lst 1 (i-0) (((l.map encI).drop (0*1)).take ((i-0)*1)),.lst 1 (l.length-i) (((l.map encI).drop (i*1)).take ((l.length-i)*1)),fun op => ?_,fun op => ?_,fun h no K' => ?_,fun h no K' => ?_⟩
  ·show (bif Nat.beq 1 1&&Nat.ble 1 l.length then dR 1 l.length (l.map encI) none (some (I (i:Int))) none op else .no 17)=_;rw [Zaz,Zab hn];show (match bnd (some (I (i:Int))) l.length l.length with | none=>Out.no 17 | some h=>match bnd none h 0 with | none=>.no 17 | some q=>op (.lst 1 (h-q) (((l.map encI).drop (q*1)).take ((h-q)*1))))=_;rw [mA hi];rfl
  ·show (bif Nat.beq 1 1&&Nat.ble 1 l.length then dR 1 l.length (l.map encI) (some (I (i:Int))) none none op else .no 17)=_;rw [Zaz,Zab hn];show (match bnd (some (I (i:Int))) l.length 0 with | none=>Out.no 17 | some q=>op (.lst 1 (l.length-q) (((l.map encI).drop (q*1)).take ((l.length-q)*1))))=_;rw [mA hi]
  ·show K' _ (i-0)=_;rw [Nat.sub_zero,Nat.zero_mul,List.drop_zero,Zcd,<- List.map_take]
  ·show K' _ (l.length-i)=_;rw [Zcd,Zcd,<- List.map_drop,Zav (by rw [Zar,Zcc];omega)]
end Go.Ev
namespace Go.Ev
open Go.Proofs
section
variable {G S:List Sym} {n:Nat}
end
end Go.Ev
namespace Go.Ev
section
variable {G:List Sym} {n:Nat}
end
end Go.Ev
namespace Go.Ev
abbrev nxt (p:List Int) (c:Nat):Nat:=(p.getD c 0).toNat
def itN (p:List Int):Nat->Nat->Nat
 | 0,c=>c
 | k+1,c=>nxt p (itN p k c)
theorem zjo (p:List Int):∀ a b c,itN p (a+b) c=itN p a (itN p b c)
 | 0,b,c=>by rw [Zay];rfl
 | a+1,b,c=>by rw [Nat.succ_add];show nxt p (itN p (a+b) c)=nxt p (itN p a (itN p b c));rw [zjo p a b c]
structure PN (p:List Int):Prop where
 lt:∀ i,i<p.length->nxt p i<p.length
 inj:∀ i j,i<p.length->j<p.length->nxt p i=nxt p j->i=j
theorem PN.itlt {p:List Int} (h:PN p):∀ k i,i<p.length->itN p k i<p.length
 | 0,_,hi=>hi
 | k+1,i,hi=>h.lt _ (h.itlt k i hi)
structure Cl (p:List Int) (S:List Nat):Prop where
 nd:S.Nodup
 lt:∀ x∈S,x<p.length
 cl:∀ x∈S,nxt p x∈S
theorem Cl.back {p:List Int} (h:PN p) {S:List Nat} (C:Cl p S) {x:Nat} (hx:x<p.length) (hn:nxt p x∈S):x∈S:=by
 have nd:(S.map (nxt p)).Nodup:=by
  rw [List.Nodup,Zbf];refine (List.Pairwise.and_mem.1 C.nd).imp ?_;rintro a b ⟨ha,hb,hab⟩ q;exact hab (h.inj a b (C.lt a ha) (C.lt b hb) q)
 have:=allG nd (fun y hy=>by obtain ⟨z,hz,rfl⟩:=List.mem_map.1 hy;exact C.cl z hz) (by simp) _ hn;obtain ⟨y,hy,e⟩:=List.mem_map.1 this;rw [<- h.inj y x (C.lt y hy) hx e];exact hy
theorem Cl.aN {p:List Int} (h:PN p) {S:List Nat} (C:Cl p S) {i:Nat} (hi:i<p.length):∀ k,itN p k i∈S->i∈S
 | 0,q=>q
 | k+1,q=>C.aN h hi k (C.back h (h.itlt k i hi) q)
structure zte (p:List Int) (r h:Nat):Prop where
 pos:0<r
 back:itN p r h=h
 min:∀ j,0<j->j<r->itN p j h≠h
theorem zte.mul {p:List Int} {r b:Nat} (c:zte p r b):∀ q,itN p (q*r) b=b
 | 0=>by rw [Nat.zero_mul];rfl
 | q+1=>by rw [Nat.succ_mul,zjo,c.back,c.mul q]
end Go.Ev
namespace Go.Ev
open Go Go.Proofs
variable {B:Nat}
set_option maxRecDepth 100000
theorem zxl {a b:Int} {K:AV->OP} (h0:b≠0) (h : -9223372036854775808<=a.tdiv b/\a.tdiv b<=9223372036854775807):zu .quo .int (I a) (I b) K=K (I (a.tdiv b)):=by
 have e:zu .quo .int (I a) (I b) K=(bif ieq b 0 then Out.no 5 else pq (IntKind.wrap .i64 (a.tdiv b)) fun z=>K (.int .i64 z)):=rfl;rw [e,vE];have hb:(b==0)=false:=by simpa using h0
 rw [hb,cond_false,xG];have hw:IntKind.wrap .i64 (a.tdiv b)=a.tdiv b:=by simpa [pB] using vO h
 rw [hw]
theorem zeu {a b:Nat} {K:AV->OP} (hb:0<b):zu .rem .int (I (a:Int)) (I (b:Int)) K=K (I ((a%b:Nat):Int)):=by
 have e:zu .rem .int (I (a:Int)) (I (b:Int)) K=(bif ieq (b:Int) 0 then Out.no 5 else pq ((a:Int).tmod b) fun z=>K (.int .i64 z)):=rfl;have h0:ieq (b:Int) 0=false:=by rw [vE,beq_eq_false_iff_ne];omega
 rw [e,h0,cond_false,xG];rfl
theorem zev {a b:Nat} {K:AV->OP} (ha:a<=9223372036854775807) (hb:0<b):zu .quo .int (I (a:Int)) (I (b:Int)) K=K (I ((a / b:Nat):Int)):=by
 have h1:(a:Int).tdiv b=((a / b:Nat):Int):=by rw [Int.tdiv_eq_ediv_of_nonneg (by omega)];simp
 have h2:a / b<=a:=Nat.div_le_self a b;rw [zxl (by omega) (by rw [h1];generalize a / b=q at *;omega),h1]
abbrev zI (T:List Nat):List Int:=T.map fun k:Nat=>(k:Int)
theorem fixI (l:List Int):∀ v∈l.map I,rP v=true:=fun v hv=>by obtain ⟨x,_,rfl⟩:=List.mem_map.1 hv;rfl
theorem zo4 {n:Nat} (hn:n<=1000):Pure Tryz.prog B 101 [I (n:Int)] (· = encI (idL n)):=by
 refine yL fun h nx K H0 hK=>zR zS yw 10000 fun hf' => ?_;rw [jd.go,jd.t18,zA,jd.wo,jd.t17,zA,jd.wu,jd.t16,zA,jd.t13,zA,jd.dw,jd.t12,zH];refine jd.zaw (fun m x2 x3 h' nx'=>∃ (i:Nat) (o:Option Pa) (L':List Ob),x3=I i/\x2=qp o 1 i/\m=n-i/\i<=n/\Hp h h' nx' (.gro o 1 i ((idL i).map I)::L')) (m:=n) (by omega) ⟨0,none,[],rfl,rfl,by omega,by omega,H0.aK 1⟩ ?_;rintro m z2 z3 z4 h3 nx3 R ⟨i,o,L',rfl,rfl,rfl,hi,H3⟩ hR;rw [jd.t10,zA,jd.t5,zA,jd.rF,xq];by_cases hlt:i<n
 case neg =>
  rw [decide_eq_false (by omega),jd.t4,zC,jd.v4,zG,yG,yU,jd.t15,zA,jd.rC];simp only [zV,yN];rw [jd.ret];obtain rfl:i=n:=by omega
  refine hK _ _ _ _ _ H3 (H3.zae (k:=0) rfl zs6) ?_;show AV.lst 1 i _=AV.lst 1 (idL i).length _;rw [pR]
 rw [decide_eq_true (by omega),jd.t4,zC,jd.v4,zF,zN,jd.t9,zA,jd.t7,zH,jd.aI];refine H3.zx (l:=[I i]) rfl fun tb h4 nx4 H4 => ?_;refine H4.appN (k:=1) (o:=o) (n:=i) (c:=1) (esz:=1) (new:=[I i]) rfl (jl.rd (l:=[I i]) (n:=1) (e:=1) (H4.own _ (Zag ..)) rfl) rfl rfl (by decide) (by decide) (by omega) fun o' h5 nx5 _ H5 => ?_;rw [jd.sV,qx (by omega)];have e:(idL i).map I++[I (i:Int)]=(idL (i+1)).map I:=by simp [idL,Zby]
 rw [e] at H5;exact hR _ _ _ _ _ _ (by omega) ⟨i+1,o',L',rfl,rfl,rfl,by omega,H5.drop⟩
theorem zln {q:List Sym} (hl:q.length<=100000) (hw:∀ g∈q,g.1.length<=1000000):Pure Tryz.prog B 100 [jm q] (· = jm (xQ q)):=by
 refine yL fun h nx K H0 hK=>zR zS yw 1000000 fun hf' => ?_;rw [jc.go,jc.t18,zA,jc.wo,jc.t17,zA,jc.wu,jc.t16,zA,jc.t13,zA,jc.dw,jc.t12,zH];have hfm:∀ (i:Nat),(∀ y∈(q.take i).foldl tu [],y∈q)/\((q.take i).foldl tu []).length<=i:=fun i=>by
  refine ⟨fun y hy => ?_,?_⟩
  ·rw [(zcq _ [] .nil).2] at hy;rcases hy with r | r
   ·cases r
   ·exact List.mem_of_mem_take r
  ·have:=zet (q.take i) [];simp only [List.length_nil,Zbc] at this;omega
 refine jc.zaw (fun m x2 x3 h' nx'=>∃ i:Nat,x3=I i/\m=q.length-i/\i<=q.length/\LG x2 ((q.take i).foldl tu [])/\Hp h h' nx' []) (m:=q.length) (by omega) ⟨0,rfl,by omega,by omega,.inl ⟨rfl,by simp⟩,H0⟩ ?_;rintro m z2 z3 z4 h3 nx3 R ⟨i,rfl,rfl,hi,hlg,H3⟩ hR;rw [jc.t10,zA,jc.t5,zA,jc.rF,zP,xq];by_cases hlt:i<q.length
 case neg =>
  rw [decide_eq_false (by omega),jc.t4,zC,jc.v4,zG,yG,yU,jc.t15,zA,jc.rC];simp only [zV,yN];rw [jc.ret];obtain rfl:i=q.length:=by omega
  rw [Zav (Zai _)] at hlg;exact hK _ _ _ _ _ H3 hlg.frz rfl
 have hx:q[i]? = some q[i]:=List.getElem?_eq_getElem hlt;rw [decide_eq_true (by omega),jc.t4,zC,jc.v4,zF,zN,jc.t9,zA,jc.t7,zH,jc.aI,tN rfl hlt,jZ hlt,q8];refine zu5 (a:=q[i]) hlg (by have:=(hfm i).2;omega) (fun g hg=>hw g ((hfm i).1 g hg)) (hw _ (Zas hlt)) _ _ _ _ ?_;rintro _ rfl _;rw [jc.sV,qx (by omega)];have ht:(q.take (i+1)).foldl tu []=tu ((q.take i).foldl tu []) q[i]:=by rw [Zau,hx,List.foldl_append];rfl
 refine hR _ _ _ _ _ _ (by omega) ⟨i+1,rfl,rfl,by omega,.inr ⟨by rw [ht],?_⟩,H3⟩;rw [ht];intro r;have:=(zgo (l:=(q.take i).foldl tu []) (a:=q[i]) (x:=q[i])).2 (.inl rfl);rw [r] at this;cases this
theorem QV.at {v:AV} {o:Ob} {q:List Sym} {i:Nat} (h:QV v o q) (hi:i<q.length):∃ id off,(∀ op:AV->OP,yB 2 v (I (i:Int)) op=op (.ptr id off))/\∀ {h0 hh:T Blk} {nx:Pa} {L:List Ob} {k:Nat},Hp h0 hh nx L->L[k]? = some o->∀ op:AV->OP,zM 2 (.ptr id off) hh op=op (encS q[i]):=by
 have hq:∃ a t,q=a::t:=by cases q with
  | nil=>simp at hi
  | cons a t=>exact ⟨a,t,rfl⟩
 obtain ⟨a,t,rfl⟩:=hq;obtain ⟨id,off,cap,l,rfl,g3,g4,g⟩:=h.cells;refine ⟨id,off+i*2,fun op=>wM hi,fun {h0 hh nx L k} H hk op => ?_⟩;obtain ⟨op',t',g1,g2⟩:=g hh (H.own _ (Zaa hk));show jr (T.get .no id hh) _ _=_;rw [g1];show (bif Nat.ble (off+i*2+2) l.length then op (.agg (yF t' (off+i*2) 2)) else .no 8)=_;rw [Zab (by omega),cond_true];have e:∀ j,j<l.length->T.get .undef (.of j) t'=l.getD j .undef:=fun j hj=>by
  have:=yA t' 0 l.length j hj;rw [g2,Zay] at this;rw [Zac,this];rfl
 have d:∀ j,j<2->l.getD (off+i*2+j) .undef=((zT (a::t)).drop (i*2)).getD j .undef:=fun j hj=>by
  rw [<- g4,Zac,Zac,List.getElem?_drop,List.getElem?_take_of_lt (by omega),List.getElem?_drop]
  congr 2;omega
 have e2:yF t' (off+i*2) 2=[T.get .undef (.of (off+i*2)) t',T.get .undef (.of (off+i*2+1)) t']:=rfl;have d0:=d 0 (by omega);rw [Nat.add_zero] at d0;rw [e2,e _ (by omega),e _ (by omega),d 1 (by omega),d0,jZ hi]
 rfl
end Go.Ev
namespace Go.Ev
open Go
variable {h0 h:T Blk} {nx:Pa} {L:List Ob}
theorem zjq {α:Type} (L:List α):∀ N:Nat,(List.range N).filterMap (fun k=>L[k]?)=L.take N
 | 0=>rfl
 | N+1=>by
  rw [Zby,List.filterMap_append,zjq L N,Zau];cases h:L[N]? <;> simp [h]
theorem Hp.zo5:∀ (E:List Ob) {L:List Ob},Hp h0 h nx (E++L)->Hp h0 h nx L
 | [],_,H=>H
 | _::E,_,H=>Hp.zo5 E H.drop
theorem Hp.pick (N:Nat) (ks:List Nat) (H:Hp h0 h nx L) (hk:ks.Nodup) (hl:∀ k∈ks,k<N):Hp h0 h nx (ks.filterMap (fun k=>L[k]?)++L.drop N):=by
 obtain ⟨s,hs⟩:=subG ks (List.range N) hk fun k hk=>List.mem_range.2 (hl k hk);have h1:=hs.filterMap (fun k=>L[k]?);rw [zjq,List.filterMap_append] at h1;have h2:L.Perm (s.filterMap (fun k=>L[k]?)++(ks.filterMap (fun k=>L[k]?)++L.drop N)):=by
  have:=(h1.trans List.perm_append_comm).append_right (L.drop N);rw [List.take_append_drop,Zbe] at this;exact this
 exact (H.perm h2).zo5
end Go.Ev
namespace Go.Ev
open Go Go.Proofs
variable {B:Nat}
set_option maxRecDepth 100000
theorem ztf {m:Nat} (hm:m<=256) {a:Sym} (ha:DS m a):∀ (ps:List (AV×Sym)) (i:Nat),(∀ b∈ps,DS m b.2)->(∀ b∈ps,b.2≠a)->u0 .str (.str (bT a)) (bU ps) i=some none
 | [],i,_,_=>rfl
 | b::ps,i,h1,h2=>by
  have e:u0 .str (.str (bT a)) (bU (b::ps)) i=(match some (jK (bT a) (bT b.2)) with
   | some true=>some (some (i,agP b))
   | some false=>u0 .str (.str (bT a)) (bU ps) (i+1)
   | none=>none):=rfl
  have hb:jK (bT a) (bT b.2)=false:=by
   cases q:jK (bT a) (bT b.2) with
   | false=>rfl
   | true=>exact absurd (zgd hm ha (h1 b (by simp)) (bV.1 q)).symm (h2 b (by simp))
  rw [e,hb];exact ztf hm ha ps (i+1) (fun c hc=>h1 c (by simp [hc])) fun c hc=>h2 c (by simp [hc])
theorem Hp.putP {m:Nat} (hm:m<=256) {p:AV×Sym} (ha:DS m p.2) {ps:List (AV×Sym)} (hps:∀ b∈ps,DS m b.2) (hna:∀ b∈ps,b.2≠p.2) {K:AV->T Blk->Pa->OP} {h0 h:T Blk} {nx:Pa} {L:List Ob} {k:Nat} {id:Pa} (H:Hp h0 h nx L) (hk:L[k]? = some (.map id (bU ps)))
  (hK:∀ h',Hp h0 h' nx (L.set k (.map id (bU (ps++[p]))))->K .undef h' nx=.ok True):xW .str (.map id) (.str (bT p.2)) (agP p) h nx K=.ok True:=by
 have own:T.get .no id h=.map _ _:=H.own _ (Zaa hk);have r2:=ztf hm ha ps 0 hps hna;show bW (T.get .no id h) _ _=_;rw [own]
 show (match gT .str (.str (bT p.2)) (bU ps) with
    | some (some (i,_))=>T.xg (β:=OP) Blk.no (Blk.map (bU ps).length ((bU ps).modify i fun e=>(e.1,agP p))) id h fun h'=>K .undef h' nx
    | some none=>ql ((bU ps).length+1) fun n=>T.xg (β:=OP) Blk.no (Blk.map n (bU ps++[(AV.str (bT p.2),agP p)])) id h fun h'=>K .undef h' nx
    | none=>Out.no 45)=_
 rw [show gT .str (.str (bT p.2)) (bU ps)=u0 .str (.str (bT p.2)) (bU ps) 0 from rfl,r2];simp only [zY,T.ji];refine hK _ (H.upd hk (by simp [Ob.names]) rfl ?_);show T.get Blk.no id _=Blk.map _ _;rw [T.get_set_same];simp [bU]
def sqV (n:Nat) (mv:Nat->Nat->Nat×Nat) (c:Nat):Int:=(n:Int)*(((mv (c / n) (c%n)).1:Nat):Int)+(((mv (c / n) (c%n)).2:Nat):Int)
def sqM (n:Nat) (mv:Nat->Nat->Nat×Nat):List Int:=(List.range (n*n)).map (sqV n mv)
theorem qZ (n:Nat) (mv:Nat->Nat->Nat×Nat):(sqM n mv).length=n*n:=by simp [sqM]
theorem m0 {n c:Nat} (h:c<n*n):c / n<n:=Nat.div_lt_of_lt_mul h
theorem zo6 {n:Nat} {mv:Nat->Nat->Nat×Nat} (hmv:∀ i j,i<n->j<n->(mv i j).1<n/\(mv i j).2<n) {c:Nat} (hc:c<n*n):0<=sqV n mv c/\sqV n mv c<((n*n:Nat):Int):=by
 have hn:0<n:=Nat.pos_of_ne_zero fun q=>by subst q;simp at hc
 obtain ⟨h1,h2⟩:=hmv (c / n) (c%n) (m0 hc) (Nat.mod_lt _ hn);unfold sqV
 generalize (mv (c / n) (c%n)).1=x at *
 generalize (mv (c / n) (c%n)).2=y at *
 have h3:n*x+y<n*n:=by
  have:n*x<=n*(n-1):=Zcf n (by omega);have e:n*(n-1)+n=n*n:=by
   have:=Nat.mul_succ n (n-1);rw [show (n-1).succ=n by omega] at this;omega
  omega
 have e:(n:Int)*((x:Nat):Int)=((n*x:Nat):Int):=(Int.natCast_mul n x).symm;rw [e];omega
theorem zew {n:Nat} {mv:Nat->Nat->Nat×Nat} (hmv:∀ i j,i<n->j<n->(mv i j).1<n/\(mv i j).2<n):DS (n*n) (sqM n mv,false) :=
 ⟨qZ n mv,fun x hx=>by
  obtain ⟨c,hc,rfl⟩:=List.mem_map.1 hx;exact zo6 hmv (List.mem_range.1 hc)⟩
theorem zrz (rb:Pa) (n:Nat) (op:AV->OP):qJ [.zf,.bool false] [(0,1,.sl rb 0 n (some n) 1)] op=op (.agg [.sl rb 0 n (some n) 1,.bool false]):=nr rfl
theorem zo7 (a:Sym):nns [encS a]=true:=by
 have h1:nn (encI a.1)=true:=rP.nn (qB a.1);have h2:nn (encS a)=true:=by
  show nns [encI a.1,.bool a.2]=true;rw [nns,h1];rfl
 rw [nns,h2];rfl
abbrev rowP (rb:Pa) (n:Nat) (mv:Nat->Nat->Nat×Nat):AV×Sym:=(.sl rb 0 (n*n) (some (n*n)) 1,(sqM n mv,false))
theorem getA {A L:List Ob} {k:Nat} {x:Ob} (h:L[k]? = some x):(A++L)[A.length+k]? = some x:=by
 rw [List.getElem?_append_right (by omega),Nat.add_sub_cancel_left];exact h
theorem zii {n fid:Nat} {fp p0 gm:Pa} {caps:List AV} {mv:Nat->Nat->Nat×Nat} {ps:List (AV×Sym)} {h0 h:T Blk} {nx:Pa} {k:Nat} {L:List Ob} {K:Kw Prop} (hn1:1<=n) (hn:n<=16) (hmv:∀ i j,i<n->j<n->(mv i j).1<n/\(mv i j).2<n)
  (hcall:∀ (i j:Nat) (A:List Ob) (h':T Blk) (nx':Pa) (K':Kw Prop),i<n->j<n->Hp h0 h' nx' (A++L)->K' (.tup [I (((mv i j).1:Nat):Int),I (((mv i j).2:Nat):Int)]) h' nx'=.ok True->(CS Tryz.prog B).fn fid fp ([I (i:Int),I (j:Int)]++caps) h' nx' K'=.ok True)
  (hd:∀ b∈ps,DS (n*n) b.2) (hnew:∀ b∈ps,b.2≠(sqM n mv,false)) (H:Hp h0 h nx L) (hk:L[k]? = some (.map gm (bU ps)))
  (hK:∀ xb rb h' nx',Hp h0 h' nx' (.arr xb [.sl rb 0 (n*n) (some (n*n)) 1,.bool false]::.arr rb ((sqM n mv).map I)::L.set k (.map gm (bU (ps++[rowP rb n mv]))))->K (.tup []) h' nx'=.ok True) :
  (CS Tryz.prog B).fn 146 p0 [.map gm,I n,.fn fid fp caps] h nx K=.ok True:=by
 refine jH (p:=.of 146) (K:=K) (zR zS yw 10000000 fun hf => ?_) fun _ _ _ _ q=>q;have hnn:n*n<=256:=by
  have:=Zbu hn hn;omega
 have emul:(n:Int)*(n:Int)=((n*n:Nat):Int):=(Int.natCast_mul n n).symm;rw [yu.go,yu.t19,zA,yu.wo,aV (by rw [emul];omega),emul];refine H.mk1 (z:=I 0) (n*n) rfl rfl (by omega) (by decide) fun rb h1 nx1 H1 => ?_;rw [zrz];refine H1.alloc fun xb h2 nx2 H2 => ?_;refine H2.qg (k:=0) (n:=2) rfl rfl rfl fun h3 H3 => ?_;have H3:Hp h0 h3 nx2 (.arr xb [.sl rb 0 (n*n) (some (n*n)) 1,.bool false]::.arr rb (List.replicate (n*n) (I 0))::L):=H3;rw [yu.t18,zA,yu.t16,zA,yu.wu,sFx,H3.load (k:=0) (i:=0+0) rfl rfl,gO,yu.t15,zH];refine yu.zvp (fun m x8 h' nx'=>∃ c:Nat,x8=I c/\m=n*n-c/\c<=n*n/\Hp h0 h' nx' (.arr xb [.sl rb 0 (n*n) (some (n*n)) 1,.bool false]::.arr rb (aZ (n*n) fun j:Nat=>if j<c then I (sqV n mv j) else I 0)::L)) (m:=n*n) (by omega) ⟨0,rfl,by omega,by omega,H3.cast (by rw [zby];rfl)⟩ ?_;rintro m z4 z5 z6 z8 z9 h5 nx5 R ⟨c,rfl,rfl,hc,H5⟩ hR;rw [yu.t13,zA,yu.dw,xq];by_cases hlt:c<n*n
 case pos =>
  have g1:=m0 hlt;have g2:=Nat.mod_lt c (show 0<n by omega);obtain ⟨m1,m2⟩:=hmv _ _ g1 g2;obtain ⟨v1,v2⟩:=zo6 hmv hlt;have hsv:(n:Int)*(((mv (c / n) (c%n)).1:Nat):Int)+(((mv (c / n) (c%n)).2:Nat):Int)=sqV n mv c:=rfl;have hmx:n*(mv (c / n) (c%n)).1<=256:=Zbn (Zcf n (Nat.le_of_lt m1)) hnn;have hmx':(n:Int)*(((mv (c / n) (c%n)).1:Nat):Int)=((n*(mv (c / n) (c%n)).1:Nat):Int):=(Int.natCast_mul n _).symm;rw [decide_eq_true (by omega),yu.t12,zA,yu.t3,zC,yu.v9,zF,zN,yu.t11,zA,yu.t9,zH,yu.t8,zA,yu.t4_s,yu.t7,zA,yu.t5_s,zev (by omega) (by omega),zeu (by omega),zbz];refine hcall (c / n) (c%n) [_,_] h5 nx5 _ g1 g2 H5 ?_;rw [yZ,jB,yu.aI,sFx,H5.load (k:=0) (i:=0+0) rfl rfl,aV (by rw [hmx'];omega),qx (by rw [hsv];omega),hsv,sIx (i:=c) rfl hlt];refine H5.store (k:=1) rfl (by simpa [aZ] using hlt) rfl fun h6 H6 => ?_;rw [yu.fG,qx (by omega)];refine hR (n*n-(c+1)) _ _ _ _ _ _ _ (by omega) ⟨c+1,rfl,rfl,by omega,H6.cast ?_⟩;simp only [List.set_cons_zero,List.set_cons_succ];rw [xX]
  congr 2
  congr 1
  refine qL fun j _ => ?_;by_cases e:j=c
  ·subst e;rw [if_pos rfl,if_pos (by omega)]
  ·rw [if_neg e];by_cases e2:j<c
   ·rw [if_pos e2,if_pos (by omega)]
   ·rw [if_neg e2,if_neg (by omega)]
 obtain rfl:c=n*n:=by omega
 have em:(aZ (n*n) fun j:Nat=>if j<n*n then I (sqV n mv j) else I 0)=(sqM n mv).map I:=by
  rw [sqM,Zck];exact qL fun j hj=>if_pos hj
 rw [em] at H5;have hds:=zew hmv;have hml:=qZ n mv;have ld:∀ op:AV->OP,zM 2 (.ptr xb 0) h5 op=op (.agg [.sl rb 0 (n*n) (some (n*n)) 1,.bool false]):=fun op=>H5.zh (k:=0) (n:=2) rfl rfl;rw [decide_eq_false (by omega),yu.t12,zA,yu.t3,zC,yu.v9,zG,yG,yU,yu.zai];simp only [ld];have hfr:FrzL .e h5 [.agg [.sl rb 0 (n*n) (some (n*n)) 1,.bool false]] [encS (sqM n mv,false)]:=by
  have e:AV.lst 1 (n*n) ((sqM n mv).map I)=encI (sqM n mv):=by rw [<- hml]
  have:=jl.frz (N:=fun id=>T.get Blk.no id .e=.no) (O:=fun v=>(∃ id off,v=.ptr id off/\T.get Blk.no id .e≠.no)\/(∃ id,v=.yld id/\T.get Blk.no id .e≠.no)\/(∃ id,v=.map id/\T.get Blk.no id .e≠.no)\/(∃ id off ln cap esz,v=.sl id off ln cap esz/\T.get Blk.no id .e≠.no)) (cap:=some (n*n)) (e:=1) (n:=n*n) (H5.own (.arr rb ((sqM n mv).map I)) (by simp)) (T.fC _ rb) (Zai _) (by simp [hml]) (fixI _);rw [e] at this;exact .cons (vG this (zK rfl) rfl) .nil
 refine zbu (args':=[encS (sqM n mv,false)]) hfr (zo7 _) (fun B=>mW (a:=(sqM n mv,false)) (fun x hx=>by have:=hds.2 x hx;omega) (by show (sqM n mv).length<=1000;omega)) (fun v hv=>by rw [hv];exact .str _) ?_;rintro _ rfl _;simp only [ld,zB];refine H5.putP (m:=n*n) (p:=rowP rb n mv) hnn hds hd hnew (k:=k+2) hk fun h6 H6 => ?_;rw [yu.ret];exact hK xb rb h6 nx5 H6
theorem zxm {h0 h:T Blk} {nx:Pa} {L:List Ob} {k n:Nat} {o:Option Pa} {out:List (AV×Sym)} (H:Hp h0 h nx L) (hk:L[k]? = some (.gro o 2 n (yW out))) (hr:∀ p∈out,sU L p):aP h0 h (qp o 2 n) (jm (out.map (·.2))):=by
 have own:=H.own _ (Zaa hk);have hlen:=u5 out;cases o with
 | none =>
  obtain ⟨e,rfl⟩:=own;rw [e] at hlen;obtain rfl:out=[]:=Zbb (by simp at hlen;omega);exact .zat 2
 | some id =>
  obtain ⟨t,h1,h2,h3⟩:=own;have hn:n=(out.map (·.2)).length:=by rw [Zar];omega
  subst hn;refine .sl _ _ _ _ _ true _ t _ (H.off id (List.mem_flatMap.2 ⟨_,Zaa hk,by simp [Ob.names]⟩)) trivial h1 (by omega) (jN _) (List.all_eq_true.2 fun v hv=>rP.jq (u6 v hv)) fun i v hi => ?_;have hil:i<(out.map (·.2)).length*2:=by have:=(List.getElem?_eq_some_iff.1 hi).1;rwa [jN] at this
  have:=yA t 0 ((out.map (·.2)).length*2) i hil;rw [h3,qA] at this;rw [dA,List.getElem?_map] at hi;cases hq:out[i / 2]? with
  | none=>rw [hq] at hi;cases hi
  | some p =>
   rw [hq] at hi this;have hp:=hr p (Zaa hq);have hi:=Option.some.inj hi;have this:=Option.some.inj this;rw [<- this,<- hi];by_cases c:i%2=0
   ·simp only [c,if_true];rcases hp with e | ⟨rid,e,hm⟩
    ·rw [e];exact zK (qB _)
    ·rw [e];obtain ⟨j,hj⟩:=List.getElem?_of_mem hm;exact H.zbx hj (Zai _) (by simp) (fixI _)
   ·simp only [c,if_false];exact .bool _
def kM (n:Int):Int:=if n<1\/16<n then 3 else 0
theorem wQ {n:Int}:Pure Tryz.prog B 145 [I n] (· = I (kM n)):=by
 refine yL fun h nx K H0 hK=>zR zS yw 1000 fun hf' => ?_;rw [xk.go,xk.t3,zA,xk.wo,xk.t2,zA,xk.wu,xq]
 have fin:∀ (b:Bool) (e:Int),e=(if b then 3 else 0)->(b=true↔n<1\/16<n)->K (I e) h nx=.ok True:=fun b e he hb=>hK _ _ _ _ _ H0 (zK rfl) (by
  rw [he,kM];cases b with
  | true=>rw [if_pos rfl,if_pos (hb.1 rfl)]
  | false=>rw [if_neg (by decide),if_neg (fun q=>by have:=hb.2 q;cases this)])
 by_cases c:n<1
 ·rw [decide_eq_true c];simp only [uF,yK]
  (refine uV _ _ _ _ _ _ ?_;rintro _ rfl _)
  simp only [zV,yN];rw [xk.ret];exact fin true _ rfl ⟨fun _=>.inl c,fun _=>rfl⟩
 ·rw [decide_eq_false c];simp only [gG,tK,yR]
  (refine uV _ _ _ _ _ _ ?_;rintro _ rfl _)
  simp only [zV,yN];rw [xk.ret];exact fin (decide (16<n)) _ rfl ⟨fun q=>.inr (of_decide_eq_true q),fun q=>decide_eq_true (by omega)⟩
def mvD (n k i j:Nat):Nat×Nat:=if k / 4%2=1 then (if k / 2%2=1 then n-1-j else j,if k%2=1 then n-1-i else i) else (if k%2=1 then n-1-i else i,if k / 2%2=1 then n-1-j else j)
def dS (n k:Nat):Sym:=(sqM n (mvD n k),false)
def mvT (n a b i j:Nat):Nat×Nat:=((i+a)%n,(j+b)%n)
def tS (n a b:Nat):Sym:=(sqM n (mvT n a b),false)
theorem zo8 {n k i j:Nat} (hi:i<n) (hj:j<n):(mvD n k i j).1<n/\(mvD n k i j).2<n:=by
 unfold mvD;split <;> (constructor <;> (simp only;split <;> omega))
theorem zo9 {n a b i j:Nat} (hi:i<n) (hj:j<n):(mvT n a b i j).1<n/\(mvT n a b i j).2<n:=⟨Nat.mod_lt _ (by omega),Nat.mod_lt _ (by omega)⟩
theorem zpa {k:Nat} (hk:k<8) (op:AV->OP):zu .and .int (I (k:Int)) (I 1) op=op (I ((k%2:Nat):Int))/\zu .and .int (I (k:Int)) (I 2) op=op (I ((k / 2%2*2:Nat):Int))/\zu .and .int (I (k:Int)) (I 4) op=op (I ((k / 4%2*4:Nat):Int)):=by
 rcases (by omega:k=0\/k=1\/k=2\/k=3\/k=4\/k=5\/k=6\/k=7) with rfl | rfl | rfl | rfl | rfl | rfl | rfl | rfl <;> exact ⟨nr rfl,nr rfl,nr rfl⟩
theorem zr0 {n k i j:Nat} {kb nb p0:Pa} {h0 h:T Blk} {nx:Pa} {L:List Ob} {ik inn:Nat} {K:Kw Prop} (hn:n<=16) (hk8:k<8) (hi:i<n) (hj:j<n) (H:Hp h0 h nx L) (h1:L[ik]? = some (.arr kb [I k])) (h2:L[inn]? = some (.arr nb [I n]))
  (hK:K (.tup [I (((mvD n k i j).1:Nat):Int),I (((mvD n k i j).2:Nat):Int)]) h nx=.ok True):(CS Tryz.prog B).fn 147 p0 [I (i:Int),I (j:Int),.ptr kb 0,.ptr nb 0] h nx K=.ok True:=by
 refine jH (p:=.of 147) (K:=K) (zR zS yw 1000 fun hf => ?_) fun _ _ _ _ q=>q;have lk:∀ op:AV->OP,zD (.ptr kb 0) h op=op (I k):=fun op=>H.load (k:=ik) (i:=0) h1 rfl;have ln:∀ op:AV->OP,zD (.ptr nb 0) h op=op (I n):=fun op=>H.load (k:=inn) (i:=0) h2 rfl;rw [yx.go,yx.t19,zA,yx.wo,yx.t18,zA,yx.t4,zA,yx.wu,lk,(zpa hk8 _).1,mg];have last:∀ (x y:Nat) (x6 x7 x8:AV),x=(if k%2=1 then n-1-i else i)->y=(if k / 2%2=1 then n-1-j else j)->IR.run yx.t16 (CS Tryz.prog B) 1000 (fnO yx.res K) (jv yx.res K) (yx.fr (I (x:Int)) (I (y:Int)) (.ptr kb 0) (.ptr nb 0) (I 0) (I 0) x6 x7 x8) h nx=.ok True:=by
  intro x y x6 x7 x8 hx hy;rw [yx.t16,zA,yx.t13,zA,yx.au,lk,(zpa hk8 _).2.2,mg];have em:mvD n k i j=if k / 4%2=1 then (y,x) else (x,y):=by rw [hx,hy];rfl
  by_cases c:k / 4%2=1
  ·rw [if_pos c] at em;rw [em] at hK;rw [decide_eq_false (by omega),Zak,yx.t12,zC,yx.v8,zF,yx.t11,zA,yx.fG];simp only [zV,yN];rw [yx.ret];exact hK
  ·rw [if_neg c] at em;rw [em] at hK;rw [decide_eq_true (by omega),Zaj,yx.t12,zC,yx.v8,zG,zN,yx.t15,zA,yx.rC];simp only [zV,yN];rw [yx.ret];exact hK
 have mid:∀ (x:Nat) (x6 x7 x8:AV),x=(if k%2=1 then n-1-i else i)->IR.run yx.t17 (CS Tryz.prog B) 1000 (fnO yx.res K) (jv yx.res K) (yx.fr (I (x:Int)) (I (j:Int)) (.ptr kb 0) (.ptr nb 0) (I 0) (I 0) x6 x7 x8) h nx=.ok True:=by
  intro x x6 x7 x8 hx;rw [yx.t17,zA,yx.t8,zA,yx.t5_s,lk,(zpa hk8 _).2.1,mg];by_cases c:k / 2%2=1
  ·rw [decide_eq_false (by omega),Zak,yx.t7,zC,yx.v7,zF,yx.aI,ln,fD (by omega),fD (by omega),show ((n:Int)-1-(j:Int))=((n-1-j:Nat):Int) by omega];exact last x (n-1-j) _ _ _ hx (by rw [if_pos c])
  ·rw [decide_eq_true (by omega),Zaj,yx.t7,zC,yx.v7,zG,zN];exact last x j _ _ _ hx (by rw [if_neg c])
 by_cases c:k%2=1
 ·rw [decide_eq_false (by omega),Zak,yx.t3,zC,yx.v6,zF,yx.dw,ln,fD (by omega),fD (by omega),show ((n:Int)-1-(i:Int))=((n-1-i:Nat):Int) by omega];exact mid (n-1-i) _ _ _ (by rw [if_pos c])
 ·rw [decide_eq_true (by omega),Zaj,yx.t3,zC,yx.v6,zG,zN];exact mid i _ _ _ (by rw [if_neg c])
theorem zr1 {n a b i j:Nat} {ab nb bb p0:Pa} {h0 h:T Blk} {nx:Pa} {L:List Ob} {ia inn ib:Nat} {K:Kw Prop} (hn:n<=16) (ha:a<n) (hb:b<n) (hi:i<n) (hj:j<n) (H:Hp h0 h nx L) (h1:L[ia]? = some (.arr ab [I a])) (h2:L[inn]? = some (.arr nb [I n])) (h3:L[ib]? = some (.arr bb [I b]))
  (hK:K (.tup [I (((mvT n a b i j).1:Nat):Int),I (((mvT n a b i j).2:Nat):Int)]) h nx=.ok True):(CS Tryz.prog B).fn 148 p0 [I (i:Int),I (j:Int),.ptr ab 0,.ptr nb 0,.ptr bb 0] h nx K=.ok True:=by
 refine jH (p:=.of 148) (K:=K) (zR zS yw 1000 fun hf => ?_) fun _ _ _ _ q=>q;have la:∀ op:AV->OP,zD (.ptr ab 0) h op=op (I a):=fun op=>H.load (k:=ia) (i:=0) h1 rfl;have ln:∀ op:AV->OP,zD (.ptr nb 0) h op=op (I n):=fun op=>H.load (k:=inn) (i:=0) h2 rfl;have lb:∀ op:AV->OP,zD (.ptr bb 0) h op=op (I b):=fun op=>H.load (k:=ib) (i:=0) h3 rfl;rw [xu.go,xu.t3,zA,xu.wo,xu.t2,zA,xu.wu,la,qx (by omega),ln,show ((i:Int)+(a:Int))=((i+a:Nat):Int) by omega,zeu (by omega),lb,qx (by omega),ln,show ((j:Int)+(b:Int))=((j+b:Nat):Int) by omega,zeu (by omega)];simp only [zV,yN];rw [xu.ret];exact hK
def SetQ (D:List Sym) (v:AV):Prop:=∃ s:List Sym,s.Perm D/\s.Pairwise (fun a b=>fB a b<=0)/\v=.tup [jm s,I 0]
theorem zct {n:Nat} {h h1:T Blk} {nx1 gm p0:Pa} {ps:List (AV×Sym)} {A:List Ob} {D:List Sym} {K:Kw Prop} (hn:n<=16) (H1:Hp h h1 nx1 (.map gm (bU ps)::A)) (hps:ps.map (·.2)=D) (hnd:D.Nodup) (hr:∀ p∈ps,sU A p) (hl:∀ p∈ps,p.2.1.length=n*n) (h0:0<D.length) (h2:D.length<=2000)
  (hK:∀ v h' nx' L s,Hp h h' nx' L->aP h h' v (jm s)->s.Perm D->s.Pairwise (fun a b=>fB a b<=0)->K v h' nx'=.ok True):(CS Tryz.prog B).fn 99 p0 [.map gm] h1 nx1 K=.ok True:=by
 have hpl:ps.length=D.length:=by rw [<- hps,Zar]
 have hnn:n*n<=256:=Zbu hn hn;refine zer H1 (k:=0) (q:=ps) (s:=srtP ps) rfl (by omega) (by omega) (fun p hp=>⟨(hr p hp).mono fun x hx=>by simp [hx],by rw [hl p hp];omega⟩) (by rw [hps];exact hnd) (kU ps) (xU ps) fun o h' nx' A' H' => ?_;refine hK _ _ _ _ ((srtP ps).map (·.2)) H' (zxm H' (k:=0) rfl fun p hp=>((hr p ((kU ps).mem_iff.1 hp)).mono fun x hx=>by simp [hx])) ?_ (List.pairwise_map.2 (xU ps));rw [<- hps];exact (kU ps).map _
theorem zcu {n:Int} (he:kM n≠0):Pure Tryz.prog B 66 [I n] (· = .tup [.zf,I (kM n)]):=by
 refine yL fun h nx K H0 hK=>zR zS yw 1000 fun hf' => ?_;rw [F66.go,F66.t28,zA,F66.wo];refine H0.box (l:=[I n]) rfl fun nb h1 nx1 H1 => ?_;rw [F66.t27,zA,F66.t7,zA,F66.wu,H1.load (k:=0) (i:=0) rfl rfl]
 (refine wQ _ _ _ _ ?_;rintro _ rfl _)
 rw [F66.t6,zA,F66.dw,mg,decide_eq_false he,Zak,F66.t5,zC,F66.v7,zF,F66.t4,zA,F66.rF];simp only [zV,yN];rw [F66.ret];exact hK _ _ _ _ _ H1 (gI (zK rfl) (zK rfl)) rfl
theorem zjr {n:Nat} (h1:1<=n) (h2:n<=16):kM n=0:=if_neg (by omega)
abbrev dihL (n:Nat):List Sym:=(List.range 8).map (dS n)
theorem zij {n:Nat} (hn1:1<=n) (hn:n<=16) (hnd:(dihL n).Nodup):Pure Tryz.prog B 66 [I n] (SetQ (dihL n)):=by
 refine yL fun h nx K H0 hK=>zR zS yw 10000000 fun hf' => ?_;rw [F66.go,F66.t28,zA,F66.wo];refine H0.box (l:=[I n]) rfl fun nb h1 nx1 H1 => ?_;rw [F66.t27,zA,F66.t7,zA,F66.wu,H1.load (k:=0) (i:=0) rfl rfl]
 (refine wQ _ _ _ _ ?_;rintro _ rfl _)
 rw [zjr hn1 hn,F66.t6,zA,F66.dw,mg,decide_eq_true rfl,Zaj,F66.t5,zC,F66.v7,zG,zN,F66.t26,zA,F66.sV];refine H1.fH fun gm h2 nx2 H2 => ?_;rw [F66.t25,zA,F66.t22,zA,F66.au,F66.t21,zH];refine F66.zvk (fun m x8 h' nx'=>∃ (k:Nat) (ps:List (AV×Sym)) (A:List Ob),x8=I k/\m=8-k/\k<=8/\ps.map (·.2)=(List.range k).map (dS n)/\(∀ p∈ps,sU A p)/\Hp h h' nx' (.map gm (bU ps)::.arr nb [I n]::A)) (m:=8) (by omega) ⟨0,[],[],rfl,by omega,by omega,rfl,by simp,H2⟩ ?_;rintro m z6 z8 z9 h5 nx5 R ⟨k,ps,A,rfl,rfl,hk,hps,hr,H5⟩ hR;have hds:∀ p∈ps,DS (n*n) p.2:=fun p hp=>by
  have:p.2∈(List.range k).map (dS n):=hps ▸ List.mem_map.2 ⟨p,hp,rfl⟩;obtain ⟨c,_,e⟩:=List.mem_map.1 this;rw [<- e];exact zew fun i j hi hj=>zo8 hi hj
 rw [F66.t19,zA,F66.fG,xq];by_cases hlt:k<8
 case neg =>
  obtain rfl:k=8:=by omega
  rw [decide_eq_false (by omega),F66.t18,zA,F66.t11,zC,F66.v9,zG,yG,yU,F66.t24,zA,F66.zl4];refine zct (D:=dihL n) hn H5 hps hnd (fun p hp=>(hr p hp).mono fun x hx=>by simp [hx]) (fun p hp=>(hds p hp).1) (by simp) (by simp) fun v h' nx' L s H' hf hp hs => ?_;simp only [zV,yN];rw [F66.ret];exact hK _ _ _ _ _ H' (gI hf (zK rfl)) ⟨s,hp,hs,rfl⟩
 rw [decide_eq_true (by omega),F66.t18,zA,F66.t11,zC,F66.v9,zF,zN,F66.t17,zA,F66.t15,zH,F66.t14,zA,F66.tH];refine H5.alloc fun kb h6 nx6 H6 => ?_;refine H6.store (k:=0) rfl (by simp) rfl fun h7 H7 => ?_;have H7:Hp h h7 nx6 (.arr kb [I k]::.map gm (bU ps)::.arr nb [I n]::A):=H7;rw [F66.zak,H7.load (k:=2) (i:=0) rfl rfl];refine zii (mv:=mvD n k) (k:=1) hn1 hn (fun i j hi hj=>zo8 hi hj) (fun i j A' h' nx' K' hi hj H' hK' => ?_) hds (fun p hp q => ?_) H7 rfl fun xb rb h8 nx8 H8 => ?_
 ·exact zr0 (ik:=A'.length+0) (inn:=A'.length+2) hn hlt hi hj H' (getA rfl) (getA rfl) hK'
 ·have h1:p.2∈(List.range k).map (dS n):=hps ▸ List.mem_map.2 ⟨p,hp,rfl⟩;obtain ⟨c,hc,e⟩:=List.mem_map.1 h1;have hc:=List.mem_range.1 hc;have:=List.pairwise_map.1 hnd;have:=List.pairwise_iff_getElem.1 this c k (by simp;omega) (by simpa using hlt) hc;simp at this;exact this (e.trans q)
 rw [F66.sQ,qx (by omega)];have H9:Hp h h8 nx8 (.map gm (bU (ps++[rowP rb n (mvD n k)]))::.arr nb [I n]::.arr rb ((sqM n (mvD n k)).map I)::A):=(H8.pick 5 [3,4,1] (by decide) (by decide)).cast rfl;refine hR (8-(k+1)) _ _ _ _ _ (by omega) ⟨k+1,_,_,rfl,rfl,by omega,?_,?_,H9⟩
 ·rw [Zbd,hps,Zby,Zbd];rfl
 ·intro p hp;rcases List.mem_append.1 hp with q | q
  ·exact (hr p q).mono fun x hx=>by simp [hx]
  ·rw [List.mem_singleton.1 q];refine .inr ⟨rb,?_,by simp⟩;show AV.sl rb 0 (n*n) (some (n*n)) 1=.sl rb 0 (sqM n (mvD n k)).length (some (sqM n (mvD n k)).length) 1;rw [qZ]
abbrev shR (n a:Nat):List Sym:=(List.range n).map (tS n a)
abbrev shL (n a:Nat):List Sym:=(List.range a).flatMap (shR n)
theorem pE (n a:Nat):shL n (a+1)=shL n a++shR n a:=by unfold shL;rw [Zby,Zbg];simp
theorem zex {n:Int} (he:kM n≠0):Pure Tryz.prog B 67 [I n] (· = .tup [.zf,I (kM n)]):=by
 refine yL fun h nx K H0 hK=>zR zS yw 1000 fun hf' => ?_;rw [F67.go,F67.t41,zA,F67.wo];refine H0.box (l:=[I n]) rfl fun nb h1 nx1 H1 => ?_;rw [F67.t40,zA,F67.t7,zA,F67.wu,H1.load (k:=0) (i:=0) rfl rfl]
 (refine wQ _ _ _ _ ?_;rintro _ rfl _)
 rw [F67.t6,zA,F67.dw,mg,decide_eq_false he,Zak,F67.t5,zC,F67.v8,zF,F67.t4,zA,F67.rF];simp only [zV,yN];rw [F67.ret];exact hK _ _ _ _ _ H1 (gI (zK rfl) (zK rfl)) rfl
theorem zdk {n:Nat} {mv:Nat->Nat->Nat×Nat} {rb:Pa} {A:List Ob} (h:Ob.arr rb ((sqM n mv).map I)∈A):sU A (rowP rb n mv):=.inr ⟨rb,by
 show AV.sl rb 0 (n*n) (some (n*n)) 1=.sl rb 0 (sqM n mv).length (some (sqM n mv).length) 1;rw [qZ],h⟩
theorem zpb {n:Nat} (hn1:1<=n) (hn:n<=16) (hinj:∀ a b a' b',a<n->b<n->a'<n->b'<n->tS n a b=tS n a' b'->a=a'/\b=b') (hnd:(shL n n).Nodup) (hlen:(shL n n).length=n*n):Pure Tryz.prog B 67 [I n] (SetQ (shL n n)):=by
 refine yL fun h nx K H0 hK=>zR zS yw 10000000 fun hf' => ?_;have hnn:n*n<=256:=Zbu hn hn;have hn0:1<=n*n:=Zbu hn1 hn1;rw [F67.go,F67.t41,zA,F67.wo];refine H0.box (l:=[I n]) rfl fun nb h1 nx1 H1 => ?_;rw [F67.t40,zA,F67.t7,zA,F67.wu,H1.load (k:=0) (i:=0) rfl rfl]
 (refine wQ _ _ _ _ ?_;rintro _ rfl _)
 rw [zjr hn1 hn,F67.t6,zA,F67.dw,mg,decide_eq_true rfl,Zaj,F67.t5,zC,F67.v8,zG,zN,F67.t39,zA,F67.sV];refine H1.fH fun gm h2 nx2 H2 => ?_;rw [F67.t38,zA,F67.t35,zA,F67.au,H2.load (k:=1) (i:=0) rfl rfl,F67.t34,zH];refine F67.zvn (fun m x10 h' nx'=>∃ (a:Nat) (ps:List (AV×Sym)) (A:List Ob),x10=I a/\m=n-a/\a<=n/\ps.map (·.2)=shL n a/\(∀ p∈ps,sU A p)/\Hp h h' nx' (.map gm (bU ps)::.arr nb [I n]::A)) (m:=n) (by omega) ⟨0,[],[],rfl,by omega,by omega,rfl,by simp,H2⟩ ?_;rintro m z6 z7 z10 z11 z12 z13 z14 h5 nx5 R ⟨a,ps,A,rfl,rfl,ha,hps,hr,H5⟩ hR;have hds:∀ {ps:List (AV×Sym)} {D:List Sym},ps.map (·.2)=D->(∀ s∈D,∃ a b,s=tS n a b)->∀ p∈ps,DS (n*n) p.2:=fun {ps D} e hD p hp=>by
  obtain ⟨a,b,q⟩:=hD p.2 (e ▸ List.mem_map.2 ⟨p,hp,rfl⟩);rw [q];exact zew fun i j hi hj=>zo9 hi hj
 have memL:∀ (a:Nat),∀ s∈shL n a,∃ a' b',a'<a/\b'<n/\s=tS n a' b':=fun a s hs=>by
  obtain ⟨a',h1,h2⟩:=List.mem_flatMap.1 hs;obtain ⟨b',h3,rfl⟩:=List.mem_map.1 h2;exact ⟨a',b',List.mem_range.1 h1,List.mem_range.1 h3,rfl⟩
 rw [F67.t32,zA,F67.fG,xq];by_cases hlt:a<n
 case neg =>
  obtain rfl:a=n:=by omega
  rw [decide_eq_false (by omega),F67.t31,zA,F67.t11,zC,F67.v11,zG,yG,yU,F67.t37,zA,F67.zvo];refine zct (D:=shL a a) hn H5 hps hnd (fun p hp=>(hr p hp).mono fun x hx=>by simp [hx]) (fun p hp=>(hds hps (fun s hs=>by obtain ⟨x,y,_,_,q⟩:=memL a s hs;exact ⟨x,y,q⟩) p hp).1) (by omega) (by omega) fun v h' nx' L s H' hf hp hs => ?_;simp only [zV,yN];rw [F67.ret];exact hK _ _ _ _ _ H' (gI hf (zK rfl)) ⟨s,hp,hs,rfl⟩
 rw [decide_eq_true (by omega),F67.t31,zA,F67.t11,zC,F67.v11,zF,zN,F67.t30,zA,F67.t28,zH,F67.t27,zA,F67.tH];refine H5.alloc fun ab h6 nx6 H6 => ?_;refine H6.store (k:=0) rfl (by simp) rfl fun h7 H7 => ?_;have H7:Hp h h7 nx6 (.arr ab [I a]::.map gm (bU ps)::.arr nb [I n]::A):=H7;rw [F67.t26,zA,F67.zak,H7.load (k:=2) (i:=0) rfl rfl,F67.t25,zH];have H8:Hp h h7 nx6 (.map gm (bU ps)::.arr nb [I n]::.arr ab [I a]::A):=(H7.pick 3 [1,2,0] (by decide) (by decide)).cast rfl;refine F67.zvl (fun m x13 h' nx'=>∃ (b:Nat) (ps:List (AV×Sym)) (A:List Ob),x13=I b/\n-b=m/\b<=n/\ps.map (·.2)=shL n a++(List.range b).map (tS n a)/\(∀ p∈ps,sU A p)/\Hp h h' nx' (.map gm (bU ps)::.arr nb [I n]::.arr ab [I a]::A)) (m:=n) (by omega) ⟨0,ps,A,rfl,by omega,by omega,by simpa using hps,hr,H8⟩ ?_
 clear hps hr H5 H6 H7 H8
 rintro m y7 y13 y14 h8 nx8 R2 ⟨b,ps,A,rfl,rfl,hb,hps,hr,H8⟩ hR2;rw [F67.t23,zA,F67.rC,xq];by_cases hltb:b<n
 case neg =>
  obtain rfl:b=n:=by omega
  rw [decide_eq_false (by omega),F67.t22,zA,F67.t15,zC,F67.v14,zG,yG,yU,F67.zvm,qx (by omega)];exact hR (b-(a+1)) _ _ _ _ _ _ _ _ _ (by omega) ⟨a+1,ps,.arr ab [I a]::A,rfl,rfl,by omega,by rw [hps,pE],fun p hp=>(hr p hp).mono fun x hx=>by simp [hx],H8⟩
 have hD:∀ s∈shL n a++(List.range b).map (tS n a),∃ a' b',a'<n/\b'<n/\s=tS n a' b'/\(a'<a\/(a'=a/\b'<b)):=fun s hs=>by
  rcases List.mem_append.1 hs with q | q
  ·obtain ⟨a',b',q1,q2,q3⟩:=memL a s q;exact ⟨a',b',by omega,q2,q3,.inl q1⟩
  ·obtain ⟨b',h3,rfl⟩:=List.mem_map.1 q;have:=List.mem_range.1 h3;exact ⟨a,b',hlt,by omega,rfl,.inr ⟨rfl,this⟩⟩
 rw [decide_eq_true (by omega),F67.t22,zA,F67.t15,zC,F67.v14,zF,zN,F67.t21,zA,F67.t19,zH,F67.t18,zA,F67.sQ];refine H8.alloc fun bb h9 nx9 H9 => ?_;refine H9.store (k:=0) rfl (by simp) rfl fun h10 H10 => ?_;have H10:Hp h h10 nx9 (.arr bb [I b]::.map gm (bU ps)::.arr nb [I n]::.arr ab [I a]::A):=H10;rw [F67.zai,H10.load (k:=2) (i:=0) rfl rfl];refine zii (mv:=mvT n a b) (k:=1) hn1 hn (fun i j hi hj=>zo9 hi hj) (fun i j A' h' nx' K' hi hj H' hK' => ?_) (hds hps fun s hs=>by obtain ⟨x,y,_,_,q,_⟩:=hD s hs;exact ⟨x,y,q⟩) (fun p hp q => ?_) H10 rfl fun xb rb h11 nx11 H11 => ?_
 ·exact zr1 (ia:=A'.length+3) (inn:=A'.length+2) (ib:=A'.length+0) hn hlt hltb hi hj H' (getA rfl) (getA rfl) (getA rfl) hK'
 ·obtain ⟨a',b',q1,q2,q3,q4⟩:=hD p.2 (hps ▸ List.mem_map.2 ⟨p,hp,rfl⟩);obtain ⟨e1,e2⟩:=hinj a' b' a b q1 q2 hlt hltb (q3.symm.trans q);omega
 rw [F67.ze0,qx (by omega)];have H12:Hp h h11 nx11 (.map gm (bU (ps++[rowP rb n (mvT n a b)]))::.arr nb [I n]::.arr ab [I a]::.arr rb ((sqM n (mvT n a b)).map I)::A):=(H11.pick 6 [3,4,5,1] (by decide) (by decide)).cast rfl;refine hR2 (n-(b+1)) _ _ _ _ _ (by omega) ⟨b+1,_,_,rfl,rfl,by omega,?_,?_,H12⟩
 ·rw [Zbd,hps,Zby,Zbd,Zbe];rfl
 ·intro p hp;rcases List.mem_append.1 hp with q | q
  ·exact (hr p q).mono fun x hx=>by simp [hx]
  ·rw [List.mem_singleton.1 q];exact zdk (by simp)
def rcZ (n:Nat):Nat->List Nat->List (List Nat)
 | 0,pre=>[pre]
 | r+1,pre=>(List.range n).flatMap fun x=>if (x∈pre\/n-1-x∈pre)\/(decide (2*pre.length=n-1) != decide (2*x=n-1))=true then [] else rcZ n r (pre++[x])
def gB (n:Nat) (pre:List Nat):List Nat:=(List.range n).map fun i=>if i<pre.length then pre.getD i 0 else n-1-pre.getD (n-1-i) 0
def mvQ (q:List Nat) (i j:Nat):Nat×Nat:=(q.getD i 0,q.getD j 0)
def rcE (n:Nat) (pre:List Nat):Sym:=(sqM n (mvQ (gB n pre)),false)
theorem zdl {n i:Nat} {pre:List Nat} (h:i<n):(gB n pre).getD i 0=if i<pre.length then pre.getD i 0 else n-1-pre.getD (n-1-i) 0:=by
 rw [Zac,gB,List.getElem?_map,List.getElem?_range h];rfl
theorem zgp {n i:Nat} {pre:List Nat} (hp:∀ x∈pre,x<n) (h:i<n):(gB n pre).getD i 0<n:=by
 rw [zdl h];by_cases c:i<pre.length
 ·rw [if_pos c];refine hp _ ?_;rw [Zac,List.getElem?_eq_getElem c];exact Zas c
 ·rw [if_neg c];omega
theorem zpc {n i j:Nat} {pre:List Nat} (hp:∀ x∈pre,x<n) (hi:i<n) (hj:j<n):(mvQ (gB n pre) i j).1<n/\(mvQ (gB n pre) i j).2<n:=⟨zgp hp hi,zgp hp hj⟩
structure QOk (n:Nat) (pre:List Nat) (q:List Int):Prop where
 len:q.length=n
 rng:∀ v∈q,0<=v/\v<(n:Int)
 at1:∀ i,i<pre.length->q.getD i 0=((pre.getD i 0:Nat):Int)
 at2:∀ i,i<pre.length->q.getD (n-1-i) 0=(n:Int)-1-((pre.getD i 0:Nat):Int)
theorem vY {l:List Int} {i j:Nat} {v:Int} (hi:i<l.length):(l.set i v).getD j 0=if i=j then v else l.getD j 0:=by
 rw [Zac,List.getElem?_set];by_cases c:i=j
 ·subst c;rw [if_pos rfl,if_pos hi,if_pos rfl];rfl
 ·rw [if_neg c,if_neg c,Zac]
theorem xI {l:List Nat} {i x:Nat}:(l++[x]).getD i 0=if i<l.length then l.getD i 0 else if i=l.length then x else 0:=by
 rw [Zac,Zac];by_cases c:i<l.length
 ·rw [if_pos c,List.getElem?_append_left c]
 ·rw [if_neg c,List.getElem?_append_right (by omega)];by_cases e:i=l.length
  ·subst e;simp
  ·rw [if_neg e,List.getElem?_eq_none (by simp;omega)];rfl
theorem QOk.snoc {n x:Nat} {pre:List Nat} {q:List Int} (h:QOk n pre q) (hk:pre.length<(n+1) / 2) (hx:x<n) (hm:decide (2*pre.length=n-1)=decide (2*x=n-1)):QOk n (pre++[x]) ((q.set pre.length (x:Int)).set (n-1-pre.length) ((n:Int)-1-(x:Int))):=by
 have hl:=h.len;have hm:2*pre.length=n-1↔2*x=n-1:=decide_eq_decide.1 hm;refine ⟨by simp [hl],fun v hv => ?_,fun i hi => ?_,fun i hi => ?_⟩
 ·rcases List.mem_or_eq_of_mem_set hv with q1 | rfl
  ·rcases List.mem_or_eq_of_mem_set q1 with q2 | rfl
   ·exact h.rng v q2
   ·omega
  ·omega
 ·rw [Zap,List.length_singleton] at hi;rw [vY (by simp;omega),vY (by omega),xI];by_cases e:i=pre.length
  ·subst e;rw [if_neg (Zcl _),if_pos rfl,if_pos rfl];split
   ·omega
   ·rfl
  ·rw [if_neg (by omega),if_neg (by omega),if_pos (by omega)];exact h.at1 i (by omega)
 ·rw [Zap,List.length_singleton] at hi;rw [vY (by simp;omega),vY (by omega),xI];by_cases e:i=pre.length
  ·subst e;rw [if_pos rfl,if_neg (Zcl _),if_pos rfl]
  ·rw [if_neg (by omega),if_neg (by omega),if_pos (by omega)];exact h.at2 i (by omega)
theorem QOk.weak {n x:Nat} {pre:List Nat} {q:List Int} (h:QOk n (pre++[x]) q):QOk n pre q:=by
 refine ⟨h.len,h.rng,fun i hi => ?_,fun i hi => ?_⟩
 ·have:=h.at1 i (by simp;omega);rw [xI,if_pos hi] at this;exact this
 ·have:=h.at2 i (by simp;omega);rw [xI,if_pos hi] at this;exact this
theorem QOk.full {n i:Nat} {pre:List Nat} {q:List Int} (h:QOk n pre q) (hp:∀ x∈pre,x<n) (hk:pre.length=(n+1) / 2) (hi:i<n):q.getD i 0=(((gB n pre).getD i 0:Nat):Int):=by
 rw [zdl hi];by_cases c:i<pre.length
 ·rw [if_pos c];exact h.at1 i c
 ·rw [if_neg c];have hj:n-1-i<pre.length:=by omega
  have:=h.at2 (n-1-i) hj;rw [show n-1-(n-1-i)=i by omega] at this
  have hlt:pre.getD (n-1-i) 0<n:=hp _ (by
   rw [Zac,List.getElem?_eq_getElem hj];exact Zas hj)
  rw [this];omega
def qF (n:Nat) (pre:List Nat):List AV:=aZ n fun y:Nat=>.bool (decide (y∈pre\/n-1-y∈pre))
theorem zlo {n x:Nat} {pre:List Nat} (hx:x<n):((qF n pre).set x (.bool true)).set (n-1-x) (.bool true)=qF n (pre++[x]):=by
 unfold qF;rw [xX,xX];refine qL fun j hj => ?_;by_cases c:j=n-1-x
 ·rw [if_pos c,decide_eq_true (.inr (by rw [c,show n-1-(n-1-x)=x by omega];simp))]
 ·rw [if_neg c];by_cases d:j=x
  ·rw [if_pos d,decide_eq_true (.inl (by rw [d];simp))]
  ·rw [if_neg d];have e1:j∈pre++[x]↔j∈pre:=by
    rw [Zao,Zaw];exact ⟨fun q=>q.resolve_right d,.inl⟩
   have e2:n-1-j∈pre++[x]↔n-1-j∈pre:=by
    rw [Zao,Zaw];exact ⟨fun q=>q.resolve_right (by omega),.inl⟩
   simp only [e1,e2]
theorem zgq {n x:Nat} {pre:List Nat} (hx:x<n) (h1:x∉pre) (h2:n-1-x∉pre):((qF n (pre++[x])).set x (.bool false)).set (n-1-x) (.bool false)=qF n pre:=by
 unfold qF;rw [xX,xX];refine qL fun j hj => ?_;by_cases c:j=n-1-x
 ·rw [if_pos c,decide_eq_false];rw [c,show n-1-(n-1-x)=x by omega];rintro (q | q)
  ·exact h2 q
  ·exact h1 q
 ·rw [if_neg c];by_cases d:j=x
  ·rw [if_pos d,decide_eq_false];rw [d];rintro (q | q)
   ·exact h1 q
   ·exact h2 q
  ·rw [if_neg d];have e1:j∈pre++[x]↔j∈pre:=by
    rw [Zao,Zaw];exact ⟨fun q=>q.resolve_right d,.inl⟩
   have e2:n-1-j∈pre++[x]↔n-1-j∈pre:=by
    rw [Zao,Zaw];exact ⟨fun q=>q.resolve_right (by omega),.inl⟩
   simp only [e1,e2]
theorem zr2 {n i j:Nat} {q:List Int} {mv:Nat->Nat->Nat×Nat} {qb qa p0:Pa} {h0 h:T Blk} {nx:Pa} {L:List Ob} {i1 i2:Nat} {K:Kw Prop} (hq:q.length=n) (hi:i<n) (hj:j<n) (h1:L[i1]? = some (.arr qb [.sl qa 0 n (some n) 1])) (h2:L[i2]? = some (.arr qa (q.map I))) (e1:q.getD i 0=(((mv i j).1:Nat):Int)) (e2:q.getD j 0=(((mv i j).2:Nat):Int)) (H:Hp h0 h nx L)
  (hK:K (.tup [I (((mv i j).1:Nat):Int),I (((mv i j).2:Nat):Int)]) h nx=.ok True):(CS Tryz.prog B).fn 150 p0 [I (i:Int),I (j:Int),.ptr qb 0] h nx K=.ok True:=by
 refine jH (p:=.of 150) (K:=K) (zR zS yw 1000 fun hf => ?_) fun _ _ _ _ q=>q;have lq:∀ op:AV->OP,zD (.ptr qb 0) h op=op (.sl qa 0 n (some n) 1):=fun op=>H.load (k:=i1) (i:=0) h1 rfl;rw [xw.go,xw.t3,zA,xw.wo,xw.t2,zA,xw.wu,lq,sIx (i:=i) rfl hi,H.load (k:=i2) h2 (eF (getD_some (by omega))),lq,sIx (i:=j) rfl hj,H.load (k:=i2) h2 (eF (getD_some (by omega))),e1,e2];simp only [zV,yN];rw [xw.ret];exact hK
section
variable {h0:T Blk} {n:Nat} {nb gb qb ub zb gm qa ua:Pa}
noncomputable abbrev cloR (nb gb qb ub zb:Pa):AV:=.fn 149 (.of 149) [.ptr nb 0,.ptr gb 0,.ptr qb 0,.ptr ub 0,.ptr zb 0]
noncomputable abbrev Gr (n:Nat) (nb gb qb ub zb gm qa ua:Pa) (ps:List (AV×Sym)) (pre:List Nat) (q:List Int):List Ob :=
 [.map gm (bU ps),.arr gb [.map gm],.arr nb [I n],.arr qb [.sl qa 0 n (some n) 1],.arr ub [.sl ua 0 n (some n) 1],.arr zb [cloR nb gb qb ub zb],.arr qa (q.map I),.arr ua (qF n pre)]
theorem zdm (hn1:1<=n) (hn:n<=9) {D:List Sym} (hD:D.Nodup) (hDS:∀ s∈D,DS (n*n) s) :
  ∀ (r:Nat) (pre:List Nat) (q:List Int) (ps:List (AV×Sym)) (A:List Ob) (rest:List Sym) (p:Pa) (h:T Blk) (nx:Pa) (K:Kw Prop),pre.length+r=(n+1) / 2->(∀ x∈pre,x<n)->QOk n pre q->ps.map (·.2)++((rcZ n r pre).map (rcE n)++rest)=D->(∀ p∈ps,sU A p)->Hp h0 h nx (Gr n nb gb qb ub zb gm qa ua ps pre q++A) ->
   (∀ ps' A' q' h' nx',QOk n pre q'->ps'.map (·.2)=ps.map (·.2)++(rcZ n r pre).map (rcE n)->(∀ p∈ps',sU A' p)->Hp h0 h' nx' (Gr n nb gb qb ub zb gm qa ua ps' pre q'++A')->K (.tup []) h' nx'=.ok True) ->
   (CS Tryz.prog B).fn 149 p [I (pre.length:Int),.ptr nb 0,.ptr gb 0,.ptr qb 0,.ptr ub 0,.ptr zb 0] h nx K=.ok True
 | 0,pre,q,ps,A,rest,p,h,nx,K,hr,hpre,hq,hps,hrow,H,hK=>by
  refine jH (p:=.of 149) (K:=K) (zR zS yw 1000000 fun hf => ?_) fun _ _ _ _ q=>q;have ln:∀ op:AV->OP,zD (.ptr nb 0) h op=op (I n):=fun op=>H.load (k:=2) (i:=0) rfl rfl;rw [zn.go,zn.t29,zA,zn.t4,zA,zn.wo,ln,qx (by omega),show ((n:Int)+1)=((n+1:Nat):Int) by omega,show (I 2:AV)=I ((2:Nat):Int) from rfl,zev (by omega) (by decide),sO,decide_eq_true (by omega),zn.t3,zC,zn.v7,zF,zn.t2,zA,zn.wu,H.load (k:=1) (i:=0) rfl rfl,ln];rw [rcZ,List.map_cons,List.map_nil] at hps hK;have hdps:∀ b∈ps,DS (n*n) b.2:=fun b hb=>hDS _ (hps ▸ Zbs _ (List.mem_map.2 ⟨b,hb,rfl⟩));refine zii (mv:=mvQ (gB n pre)) (k:=0) hn1 (by omega) (fun i j hi hj=>zpc hpre hi hj) (fun i j A' h' nx' K' hi hj H' hK' => ?_) hdps (fun b hb e => ?_) H rfl fun xb rb h8 nx8 H8 => ?_
  ·exact zr2 (q:=q) (mv:=mvQ (gB n pre)) (i1:=A'.length+3) (i2:=A'.length+6) hq.len hi hj (getA rfl) (getA rfl) (hq.full hpre (by omega) hi) (hq.full hpre (by omega) hj) H' hK'
  ·rw [<- hps] at hD;exact (List.nodup_append.1 hD).2.2 b.2 (List.mem_map.2 ⟨b,hb,rfl⟩) (rcE n pre) (by simp) e
  simp only [zV,yN];rw [zn.ret];have H9:Hp h0 h8 nx8 (Gr n nb gb qb ub zb gm qa ua (ps++[rowP rb n (mvQ (gB n pre))]) pre q++(.arr rb ((sqM n (mvQ (gB n pre))).map I)::A)):=(H8.pick 10 [2,3,4,5,6,7,8,9,1] (by decide) (by decide)).cast rfl;refine hK _ _ q _ _ hq (by rw [Zbd];rfl) (fun p hp => ?_) H9;rcases List.mem_append.1 hp with z | z
  ·exact (hrow p z).mono fun x hx=>by simp [hx]
  ·rw [List.mem_singleton.1 z];exact zdk (by simp)
 | r+1,pre,q,ps,A,rest,p,h,nx,K,hr,hpre,hq,hps,hrow,H,hK=>by
  refine jH (p:=.of 149) (K:=K) (zR zS yw 1000000 fun hf => ?_) fun _ _ _ _ q=>q;have ln:∀ op:AV->OP,zD (.ptr nb 0) h op=op (I n):=fun op=>H.load (k:=2) (i:=0) rfl rfl;rw [zn.go,zn.t29,zA,zn.t4,zA,zn.wo,ln,qx (by omega),show ((n:Int)+1)=((n+1:Nat):Int) by omega,show (I 2:AV)=I ((2:Nat):Int) from rfl,zev (by omega) (by decide),sO,decide_eq_false (by omega),zn.t3,zC,zn.v7,zG,zN,zn.t28,zA,zn.t5_s,ln,zn.t27,zH]
  let g:Nat->List (List Nat):=fun x=>if (x∈pre\/n-1-x∈pre)\/(decide (2*pre.length=n-1) != decide (2*x=n-1))=true then [] else rcZ n r (pre++[x])
  have hg:rcZ n (r+1) pre=(List.range n).flatMap g:=rfl;have hgs:∀ x:Nat,(List.range (x+1)).flatMap g=(List.range x).flatMap g++g x:=fun x=>by rw [Zby,Zbg];simp
  have hgn:∀ x:Nat,x<n->∃ t,(List.range n).flatMap g=(List.range x).flatMap g++(g x++t):=fun x hx=>by
   refine ⟨((List.range (n-(x+1))).map fun y=>x+1+y).flatMap g,?_⟩;have e:List.range n=List.range (x+1)++(List.range (n-(x+1))).map fun y=>x+1+y:=by rw [<- List.range_add,show x+1+(n-(x+1))=n by omega]
   rw [e,Zbg,hgs,Zbe]
  rw [hg] at hps hK;refine zn.zl2 (fun m x9 h' nx'=>∃ (x:Nat) (ps':List (AV×Sym)) (A:List Ob) (q:List Int),x9=I x/\n-x=m/\x<=n/\QOk n pre q/\ps'.map (·.2)=ps.map (·.2)++((List.range x).flatMap g).map (rcE n)/\(∀ p∈ps',sU A p)/\Hp h0 h' nx' (Gr n nb gb qb ub zb gm qa ua ps' pre q++A)) (m:=n) (by omega) ⟨0,ps,A,q,rfl,by omega,by omega,hq,by simp,hrow,H⟩ ?_
  clear hq hrow H ln
  rintro m z6 z9 z10 z11 h5 nx5 R ⟨x,ps',A,q,rfl,rfl,hx,hq,hps',hrow,H⟩ hR;have ln:∀ op:AV->OP,zD (.ptr nb 0) h5 op=op (I n):=fun op=>H.load (k:=2) (i:=0) rfl rfl;rw [zn.t25,zA,zn.aI,xq];by_cases hlt:x<n
  case neg =>
   obtain rfl:x=n:=by omega
   rw [decide_eq_false (by omega),zn.t24,zA,zn.t7,zC,zn.v10,zG,yG,yU];rw [zn.ret];exact hK _ _ _ _ _ hq hps' hrow H
  obtain ⟨tail,htail⟩:=hgn x hlt;have hk2:pre.length<(n+1) / 2:=by omega
  have hux:(qF n pre)[x]? = some (.bool (decide (x∈pre\/n-1-x∈pre))):=xY hlt;have lu:∀ op:AV->OP,zD (.ptr ub 0) h5 op=op (.sl ua 0 n (some n) 1):=fun op=>H.load (k:=4) (i:=0) rfl rfl;rw [decide_eq_true (by omega),zn.t24,zA,zn.t7,zC,zn.v10,zF,zN,zn.t23,zA,zn.t21,zH,zn.t20,zA,zn.sV,zn.t19,zA,zn.t11,zA,zn.au,zn.r5_0,zn.zax,lu,sIx (i:=x) rfl hlt,H.load (k:=7) rfl hux]
  have next:∀ (z6 z10 z11:AV) (ps2:List (AV×Sym)) (A2:List Ob) (q2:List Int) (h6:T Blk) (nx6:Pa),QOk n pre q2->ps2.map (·.2)=ps'.map (·.2)++(g x).map (rcE n)->(∀ p∈ps2,sU A2 p)->Hp h0 h6 nx6 (Gr n nb gb qb ub zb gm qa ua ps2 pre q2++A2) ->
    R (zn.fr (I (pre.length:Int)) (.ptr nb 0) (.ptr gb 0) (.ptr qb 0) (.ptr ub 0) (.ptr zb 0) z6 (.bool false) (I n) (I ((x:Int)+1)) z10 z11) h6 nx6=.ok True :=
   fun z6 z10 z11 ps2 A2 q2 h6 nx6 q1 q2' q3 q4=>hR (n-(x+1)) _ _ _ _ _ _ (by omega) ⟨x+1,ps2,A2,q2,rfl,rfl,by omega,q1,by rw [q2',hps',hgs,Zbd,Zbe],q3,q4⟩
  by_cases hmem:x∈pre\/n-1-x∈pre
  ·have e:g x=[]:=if_pos (.inl hmem);rw [e] at next;rw [decide_eq_true hmem];simp only [uF];rw [zn.r5_1,zn.zao];simp only [uF];rw [zn.r5_2,zn.zaq,yK,zn.t10,zC,zn.v11,zF,yG,yU,zn.zah,qx (by omega)];exact next _ _ _ ps' A q _ _ hq (by simp) hrow H
  rw [decide_eq_false hmem];simp only [gG,ln];rw [aV (by omega),zn.r5_1,zn.zao];simp only [gG,ln];rw [fD (by omega),sO,aV (by omega),fD (by omega),sO,zjh];have ec:∀ y:Nat,decide (2*(y:Int)=(n:Int)-1)=decide (2*y=n-1):=fun y=>by rw [decide_eq_decide];omega
  rw [ec,ec,zn.r5_2,zn.zaq,yR];cases hm:(decide (2*pre.length=n-1) != decide (2*x=n-1)) with
  | true =>
   have e:g x=[]:=if_pos (.inr hm);rw [e] at next;rw [zn.t10,zC,zn.v11,zF,yG,yU,zn.zah,qx (by omega)];exact next _ _ _ ps' A q _ _ hq (by simp) hrow H
  | false =>
  have hm':decide (2*pre.length=n-1)=decide (2*x=n-1):=by simpa using hm
  have e:g x=rcZ n r (pre++[x]):=if_neg (fun z=>by rcases z with z | z;exact hmem z;rw [hm] at z;cases z);have lq:∀ op:AV->OP,zD (.ptr qb 0) h5 op=op (.sl qa 0 n (some n) 1):=fun op=>H.load (k:=3) (i:=0) rfl rfl;have hql:=hq.len;rw [zn.t10,zC,zn.v11,zG,zN,zn.t18,zA,zn.tH,lq,lq,ln,fD (by omega),fD (by omega),ln,fD (by omega),fD (by omega),sIx (i:=pre.length) rfl (by omega)];refine H.store (k:=6) rfl (by simp;omega) rfl fun h6 H6 => ?_;have lq6:∀ op:AV->OP,zD (.ptr qb 0) h6 op=op (.sl qa 0 n (some n) 1):=fun op=>H6.load (k:=3) (i:=0) rfl rfl;have ln6:∀ op:AV->OP,zD (.ptr nb 0) h6 op=op (I n):=fun op=>H6.load (k:=2) (i:=0) rfl rfl;rw [fD (by omega),zB,zB,fD (by omega),zB,ln6,zB,fD (by omega),zB,zB,fD (by omega),zB,ln6,zB,lq6,zB,sIx (i:=n-1-pre.length) (by omega) (by omega)];refine H6.store (k:=6) rfl (by simp;omega) rfl fun h7 H7 => ?_;have hq2:=hq.snoc hk2 hlt hm'
  have H7:Hp h0 h7 nx5 (Gr n nb gb qb ub zb gm qa ua ps' pre ((q.set pre.length (x:Int)).set (n-1-pre.length) ((n:Int)-1-(x:Int)))++A):=H7.cast (by
   show _=.map gm (bU ps')::.arr gb [.map gm]::.arr nb [I n]::.arr qb [.sl qa 0 n (some n) 1]::.arr ub [.sl ua 0 n (some n) 1]::.arr zb [cloR nb gb qb ub zb]::.arr qa (((q.set pre.length (x:Int)).set (n-1-pre.length) ((n:Int)-1-(x:Int))).map I)::.arr ua (qF n pre)::A;rw [List.map_set,List.map_set];rfl)
  generalize (q.set pre.length (x:Int)).set (n-1-pre.length) ((n:Int)-1-(x:Int))=q2 at *
  have lu7:∀ op:AV->OP,zD (.ptr ub 0) h7 op=op (.sl ua 0 n (some n) 1):=fun op=>H7.load (k:=4) (i:=0) rfl rfl;have ln7:∀ op:AV->OP,zD (.ptr nb 0) h7 op=op (I n):=fun op=>H7.load (k:=2) (i:=0) rfl rfl;have hul:(qF n pre).length=n:=by simp [qF,aZ]
  rw [zn.t17,zA,zn.zak,lu7,lu7,ln7,fD (by omega),fD (by omega),sIx (i:=x) rfl hlt];refine H7.store (k:=7) rfl (by omega) rfl fun h8 H8 => ?_;have lu8:∀ op:AV->OP,zD (.ptr ub 0) h8 op=op (.sl ua 0 n (some n) 1):=fun op=>H8.load (k:=4) (i:=0) rfl rfl;have ln8:∀ op:AV->OP,zD (.ptr nb 0) h8 op=op (I n):=fun op=>H8.load (k:=2) (i:=0) rfl rfl;rw [fD (by omega),zB,zB,fD (by omega),zB,ln8,zB,lu8,zB,sIx (i:=n-1-x) (by omega) (by omega)];refine H8.store (k:=7) rfl (by simp [hul];omega) rfl fun h9 H9 => ?_;have H9:Hp h0 h9 nx5 (Gr n nb gb qb ub zb gm qa ua ps' (pre++[x]) q2++A):=H9.cast (by rw [zlo hlt];rfl);have hlen:(pre++[x]).length=pre.length+1:=by simp
  rw [zn.t16,zA,zn.rC,H9.load (k:=5) (i:=0) rfl rfl,qx (by omega),zbz];show (CS Tryz.prog B).fn 149 (.of 149) [I ((pre.length:Int)+1),.ptr nb 0,.ptr gb 0,.ptr qb 0,.ptr ub 0,.ptr zb 0] h9 nx5 _=_;rw [show ((pre.length:Int)+1)=(((pre++[x]).length:Nat):Int) by rw [hlen];omega]
  refine zdm hn1 hn hD hDS r (pre++[x]) q2 ps' A (tail.map (rcE n)++rest) _ h9 nx5 _ (by rw [hlen];omega) (fun y hy=>by
   rcases List.mem_append.1 hy with z | z
   ·exact hpre y z
   ·rw [List.mem_singleton.1 z];exact hlt) hq2 (by rw [hps',<- e,<- hps,htail,Zbd,Zbd];simp only [Zbe]) hrow H9 fun ps2 A2 q3 h10 nx10 r1 r2 r3 H10 => ?_
  have lu10:∀ op:AV->OP,zD (.ptr ub 0) h10 op=op (.sl ua 0 n (some n) 1):=fun op=>H10.load (k:=4) (i:=0) rfl rfl;have ln10:∀ op:AV->OP,zD (.ptr nb 0) h10 op=op (I n):=fun op=>H10.load (k:=2) (i:=0) rfl rfl;have hul2:(qF n (pre++[x])).length=n:=by simp [qF,aZ]
  rw [zn.aX,lu10,lu10,ln10,fD (by omega),fD (by omega),sIx (i:=x) rfl hlt];refine H10.store (k:=7) rfl (by omega) rfl fun h11 H11 => ?_;have lu11:∀ op:AV->OP,zD (.ptr ub 0) h11 op=op (.sl ua 0 n (some n) 1):=fun op=>H11.load (k:=4) (i:=0) rfl rfl;have ln11:∀ op:AV->OP,zD (.ptr nb 0) h11 op=op (I n):=fun op=>H11.load (k:=2) (i:=0) rfl rfl;rw [fD (by omega),zB,zB,fD (by omega),zB,ln11,zB,lu11,zB,sIx (i:=n-1-x) (by omega) (by omega)];refine H11.store (k:=7) rfl (by simp [hul2];omega) rfl fun h12 H12 => ?_
  have H12:Hp h0 h12 nx10 (Gr n nb gb qb ub zb gm qa ua ps2 pre q3++A2):=H12.cast (by
   rw [zgq hlt (fun z=>hmem (.inl z)) (fun z=>hmem (.inr z))];rfl)
  rw [zn.zah,qx (by omega)];exact next _ _ _ ps2 A2 q3 _ _ r1.weak (by rw [r2,e]) r3 H12
end
end Go.Ev
namespace Go.Ev
section
variable {σ α:Type}
end
end Go.Ev
namespace Go.Ev
def SpOK (M:Int) (q:List (Int×Int)):Prop:=q.Pairwise (fun a b=>a.1<b.1)/\∀ p∈q,0<=p.1/\p.1<=M
theorem SpOK.len {q:List (Int×Int)} (h:SpOK 9000 q):q.length<=9001:=by
 obtain ⟨t,ht⟩:=zf7 (q.map (·.1)) ((List.range 9001).map fun (i:Nat)=>(i:Int)) (by
  rw [List.nodup_iff_pairwise_ne,Zbf];exact h.1.imp fun {a b} q e=>by omega) fun x hx=>by
  obtain ⟨p,hp,rfl⟩:=List.mem_map.1 hx;have:=h.2 p hp;exact List.mem_map.2 ⟨p.1.toNat,List.mem_range.2 (by omega),by omega⟩
 have:=ht.length_eq;rw [Zar,List.length_range,Zap,Zar] at this;omega
def kL (n:Nat):Nat->List Int->List (List Int)
 | 0,pre=>[pre]
 | r+1,pre=>(List.range n).flatMap fun (x:Nat)=>if (x:Int)∈pre then [] else kL n r (pre++[(x:Int)])
def oN:Nat->Nat
 | 0=>1
 | n+1=>(n+1)*oN n
theorem mR {n:Nat}:∀ {r:Nat} {pre f:List Int},pre.Nodup->(f∈kL n r pre↔∃ t,f=pre++t/\t.length=r/\(pre++t).Nodup/\∀ x∈t,0<=x/\x<(n:Int))
 | 0,pre,f,hp=>by
  rw [kL,Zaw];constructor
  ·rintro rfl;exact ⟨[],by simp,rfl,by simpa using hp,by simp⟩
  ·rintro ⟨t,rfl,ht,_,_⟩;rw [Zbb ht];simp
 | r+1,pre,f,hp=>by
  rw [kL,Zat];constructor
  ·rintro ⟨x,hx,hf⟩;have hxn:=List.mem_range.1 hx;by_cases c:(x:Int)∈pre
   ·rw [if_pos c] at hf;cases hf
   rw [if_neg c] at hf;have hn2:(pre++[(x:Int)]).Nodup:=List.nodup_append.2 ⟨hp,by simp,by rintro a ha b hb rfl;rw [List.mem_singleton.1 hb] at ha;exact c ha⟩;obtain ⟨t,rfl,h1,h2,h3⟩:=(mR hn2).1 hf;refine ⟨(x:Int)::t,by simp,by simp [h1],by simpa using h2,fun y hy => ?_⟩;rcases List.mem_cons.1 hy with rfl | hy
   ·omega
   ·exact h3 y hy
  ·rintro ⟨t,rfl,h1,h2,h3⟩;cases t with
   | nil=>cases h1
   | cons y t =>
    obtain ⟨q1,q2⟩:=h3 y (by simp);have hy:y∉pre:=fun q=>(List.nodup_append.1 h2).2.2 y q y (by simp) rfl;refine ⟨y.toNat,List.mem_range.2 (by omega),?_⟩;rw [show ((y.toNat:Nat):Int)=y by omega,if_neg hy];have hn2:(pre++[y]).Nodup:=by
     have:pre++y::t=(pre++[y])++t:=by simp
     rw [this] at h2;exact (List.nodup_append.1 h2).1
    exact (mR hn2).2 ⟨t,by simp,by simpa using h1,by simpa using h2,fun x hx=>h3 x (by simp [hx])⟩
theorem zjs {α β:Type} {R:β->β->Prop} {S:α->α->Prop} {f:α->List β}:∀ {l:List α},l.Pairwise S->(∀ x∈l,(f x).Pairwise R)->(∀ x∈l,∀ y∈l,S x y->∀ a∈f x,∀ b∈f y,R a b)->(l.flatMap f).Pairwise R
 | [],_,_,_=>.nil
 | x::l,h,h1,h2=>by
  obtain ⟨g1,g2⟩:=List.pairwise_cons.1 h;rw [Zbi,Zce];refine ⟨h1 x (by simp),zjs g2 (fun y hy=>h1 y (by simp [hy])) fun y hy z hz=>h2 y (by simp [hy]) z (by simp [hz]),fun a ha b hb => ?_⟩;obtain ⟨y,hy,hb⟩:=List.mem_flatMap.1 hb;exact h2 x (by simp) y (by simp [hy]) (g1 y hy) a ha b hb
end Go.Ev
namespace Go.Ev
open Go Go.Proofs
def nonJ:Nat->List AV->T Blk->Option (AV×T Blk):=fun _ _ _=>none
theorem zjt {P:Program} {B:Nat}:JOk P B nonJ:=fun _ _ hk=>by cases hk
def zpd (f:Nat) (args:List AV) (res:AV):Bool:=match (qV (fun _=>false) nonJ tbl 1000 60).fn f (.of f) args .e .z endK with
 | .ok v=>o9 v res
 | .no _=>false
theorem zik {f:Nat} {args:List AV} {res:AV} {B:Nat} (ha:nns args=true) (h:zpd f args res=true):Pure Tryz.prog B f args (· = res):=by
 unfold zpd at h;cases hq:(qV (fun _=>false) nonJ tbl 1000 60).fn f (.of f) args .e .z endK with
 | no n=>rw [hq] at h;cases h
 | ok v =>
  rw [hq] at h;have e:=wC h;subst e;exact p5 zS mixed (fun _=>zjt) ha hq
def aS (k:Nat):List UInt8:=if k<10 then [UInt8.ofNat (48+k)] else if k<100 then [UInt8.ofNat (48+k / 10),UInt8.ofNat (48+k%10)] else [UInt8.ofNat (48+k / 100),UInt8.ofNat (48+k / 10%10),UInt8.ofNat (48+k%10)]
end Go.Ev
namespace Go.Ev
open Go Go.Proofs
set_option maxRecDepth 100000
def prsU:List (Nat×Nat):=(List.range 120).map (·,24)++(List.range 24).map (·,6)++(List.range 6).map (·,2)++(List.range 2).map (·,1)
def quoB (r s:Nat):List UInt8:=if s / Nat.gcd r s=1 then aS (r / Nat.gcd r s) else aS (r / Nat.gcd r s)++47::aS (s / Nat.gcd r s)
abbrev EnM:=List AV×AV
def e119 (p:Nat×Nat):EnM:=([.str (aS p.1),.str (aS p.2)],.str (quoB p.1 p.2))
def e173 (p:Nat×Nat):EnM:=([.str (quoB p.1 p.2)],.str (aS (p.1 / p.2)))
def e133 (p:Nat×Nat):EnM:=([.str (aS p.1),.str (aS (p.1 / p.2*p.2))],.str (aS (p.1%p.2)))
def prsM:List (Nat×Nat):=[24,6,2,1].flatMap fun s=>(List.range 5).map (·,s)
def e172 (p:Nat×Nat):EnM:=([.str (aS p.1),.str (aS p.2)],.str (aS (p.1*p.2)))
def e108 (n:Nat):EnM:=([I n],.str (aS (oN n)))
def e107 (n:Nat):EnM:=([.str (aS n)],.tup [I n,.bool true])
def e49 (n:Nat):EnM:=([I n],.str (aS n))
def okE (f:Nat) (e:EnM):Bool:=zpd f e.1 e.2
theorem zu6:(((List.range 120).map (·,24)).all fun p=>okE 119 (e119 p))=true:=by kernel_rfl
theorem zu7:(((List.range 24).map (·,6)++(List.range 6).map (·,2)++(List.range 2).map (·,1)).all fun p=>okE 119 (e119 p))=true:=by kernel_rfl
theorem zxn:(prsU.all fun p=>okE 173 (e173 p))=true:=by kernel_rfl
theorem zxo:(prsU.all fun p=>okE 133 (e133 p))=true:=by kernel_rfl
theorem zxp:(prsM.all fun p=>okE 172 (e172 p))=true:=by kernel_rfl
theorem ztg:((List.range 6).all fun n=>okE 108 (e108 n))=true:=by kernel_rfl
theorem zth:((List.range 121).all fun n=>okE 107 (e107 n))=true:=by kernel_rfl
theorem ok49:((List.range 120).all fun n=>okE 49 (e49 n))=true:=by kernel_rfl
theorem pL {f:Nat} {e:EnM} {B:Nat} (ha:nns e.1=true) (h:okE f e=true):Pure Tryz.prog B f e.1 (· = e.2):=zik ha h
theorem qO {α:Type} {f:Nat} {g:α->EnM} {l:List α} (h:(l.all fun p=>okE f (g p))=true) (ha:∀ p,nns (g p).1=true):gX Tryz.prog f (l.map g):=fun e he B=>by
 obtain ⟨p,hp,rfl⟩:=List.mem_map.1 he;exact pL (ha p) (List.all_eq_true.1 h p hp)
theorem qN {P:Program} {k:Nat} {l:List EnM} {g:Nat->List EnM} (h1:gX P k l) {f:Nat} (h2:gX P f (g f)):gX P f (bif Nat.beq f k then l else g f):=by
 cases q:Nat.beq f k with
 | false=>exact h2
 | true=>obtain rfl:=Nat.eq_of_beq_eq_true q;exact h1
theorem zxq:(prsU.all fun p=>okE 119 (e119 p))=true:=by
 have h1:=zu6;have h2:=zu7;rw [prsU,Zbe,Zbe,List.all_append,h1,Bool.true_and,<- Zbe];exact h2
def Nu (f:Nat):List EnM:=bif Nat.beq f 119 then prsU.map e119 else bif Nat.beq f 173 then prsU.map e173 else bif Nat.beq f 133 then prsU.map e133 else bif Nat.beq f 172 then prsM.map e172 else bif Nat.beq f 108 then (List.range 6).map e108 else bif Nat.beq f 107 then (List.range 121).map e107 else bif Nat.beq f 49 then (List.range 120).map e49 else []
theorem zxr (f:Nat):gX Tryz.prog f (Nu f) :=
 qN (g:=fun f=>bif Nat.beq f 173 then prsU.map e173 else bif Nat.beq f 133 then prsU.map e133 else bif Nat.beq f 172 then prsM.map e172 else bif Nat.beq f 108 then (List.range 6).map e108 else bif Nat.beq f 107 then (List.range 121).map e107 else bif Nat.beq f 49 then (List.range 120).map e49 else []) (qO zxq fun _=>rfl)
 (qN (g:=fun f=>bif Nat.beq f 133 then prsU.map e133 else bif Nat.beq f 172 then prsM.map e172 else bif Nat.beq f 108 then (List.range 6).map e108 else bif Nat.beq f 107 then (List.range 121).map e107 else bif Nat.beq f 49 then (List.range 120).map e49 else []) (qO zxn fun _=>rfl)
 (qN (g:=fun f=>bif Nat.beq f 172 then prsM.map e172 else bif Nat.beq f 108 then (List.range 6).map e108 else bif Nat.beq f 107 then (List.range 121).map e107 else bif Nat.beq f 49 then (List.range 120).map e49 else []) (qO zxo fun _=>rfl)
 (qN (g:=fun f=>bif Nat.beq f 108 then (List.range 6).map e108 else bif Nat.beq f 107 then (List.range 121).map e107 else bif Nat.beq f 49 then (List.range 120).map e49 else []) (qO zxp fun _=>rfl)
 (qN (g:=fun f=>bif Nat.beq f 107 then (List.range 121).map e107 else bif Nat.beq f 49 then (List.range 120).map e49 else []) (qO ztg fun _=>rfl)
 (qN (g:=fun f=>bif Nat.beq f 49 then (List.range 120).map e49 else []) (qO zth fun _=>rfl)
 (qN (g:=fun _=>[]) (qO ok49 fun _=>rfl) (fun _ h=>by cases h)))))))
def okUm (n k:Nat):Bool:=match (qV (fun _=>false) (zda Nu nonJ) tbl 1000 60).fn 109 (.of 109) [I n,.str (aS k)] .e .z endK with
 | .ok v=>o9 v (encI ((kL n n []).getD k []))
 | .no _=>false
theorem zlp {n k B:Nat} (h:okUm n k=true):Pure Tryz.prog B 109 [I n,.str (aS k)] (· = encI ((kL n n []).getD k [])):=by
 unfold okUm at h;cases hq:(qV (fun _=>false) (zda Nu nonJ) tbl 1000 60).fn 109 (.of 109) [I n,.str (aS k)] .e .z endK with
 | no n=>rw [hq] at h;cases h
 | ok v =>
  rw [hq] at h;have e:=wC h;rw [<- e];exact p5 zS mixed (fun _=>zeg zxr zjt) rfl hq
theorem um1:((List.range 1).all fun k=>okUm 1 k)=true:=by kernel_rfl
theorem um2:((List.range 2).all fun k=>okUm 2 k)=true:=by kernel_rfl
theorem um3:((List.range 6).all fun k=>okUm 3 k)=true:=by kernel_rfl
theorem um4:((List.range 24).all fun k=>okUm 4 k)=true:=by kernel_rfl
theorem zr3 {n B:Nat} (hn:n<=5):Pure Tryz.prog B 108 [I n] (· = .str (aS (oN n))):=pL (e:=e108 n) rfl (List.all_eq_true.1 ztg n (List.mem_range.2 (by omega)))
theorem zpe {n B:Nat} (hn:n<=120):Pure Tryz.prog B 107 [.str (aS n)] (· = .tup [I n,.bool true]):=pL (e:=e107 n) rfl (List.all_eq_true.1 zth n (List.mem_range.2 (by omega)))
theorem zlq {n B:Nat} (hn:n<120):Pure Tryz.prog B 49 [I n] (· = .str (aS n)):=pL (e:=e49 n) rfl (List.all_eq_true.1 ok49 n (List.mem_range.2 hn))
theorem zlr:((List.range 7).all fun n=>decide ((kL n n []).length=oN n))=true:=by decide +kernel
theorem zil {n:Nat} (hn:n<=6):(kL n n []).length=oN n:=of_decide_eq_true (List.all_eq_true.1 zlr n (List.mem_range.2 (by omega)))
theorem zxs:((List.range 20).all fun k=>okUm 5 (0+k))=true:=by kernel_rfl
theorem zxt:((List.range 20).all fun k=>okUm 5 (20+k))=true:=by kernel_rfl
theorem zxu:((List.range 20).all fun k=>okUm 5 (40+k))=true:=by kernel_rfl
theorem zxv:((List.range 20).all fun k=>okUm 5 (60+k))=true:=by kernel_rfl
theorem zxw:((List.range 20).all fun k=>okUm 5 (80+k))=true:=by kernel_rfl
theorem zxx:((List.range 20).all fun k=>okUm 5 (100+k))=true:=by kernel_rfl
end Go.Ev
namespace Go.Ev
open Go Go.Proofs
theorem um5 {k:Nat} (h:k<120):okUm 5 k=true:=by
 have key:∀ q,((List.range 20).all fun k=>okUm 5 (20*q+k))=true->20*q<=k->k<20*q+20->okUm 5 k=true:=fun q h0 h1 h2=>by
  have:=List.all_eq_true.1 h0 (k-20*q) (List.mem_range.2 (by omega))
  rwa [show 20*q+(k-20*q)=k by omega] at this
 rcases (by omega:k<20\/(20<=k/\k<40)\/(40<=k/\k<60)\/(60<=k/\k<80)\/(80<=k/\k<100)\/100<=k) with c | c | c | c | c | c
 ·exact key 0 zxs (by omega) (by omega)
 ·exact key 1 zxt (by omega) (by omega)
 ·exact key 2 zxu (by omega) (by omega)
 ·exact key 3 zxv (by omega) (by omega)
 ·exact key 4 zxw (by omega) (by omega)
 ·exact key 5 zxx (by omega) (by omega)
theorem zls {n k B:Nat} (hn:1<=n/\n<=5) (hk:k<oN n):Pure Tryz.prog B 109 [I n,.str (aS k)] (· = encI ((kL n n []).getD k [])):=by
 refine zlp ?_;rcases (by omega:n=1\/n=2\/n=3\/n=4\/n=5) with rfl | rfl | rfl | rfl | rfl
 ·exact List.all_eq_true.1 um1 k (List.mem_range.2 hk)
 ·exact List.all_eq_true.1 um2 k (List.mem_range.2 hk)
 ·exact List.all_eq_true.1 um3 k (List.mem_range.2 hk)
 ·exact List.all_eq_true.1 um4 k (List.mem_range.2 hk)
 ·exact um5 hk
end Go.Ev
namespace Go.Ev
theorem zim {n:Nat} {f:List Int}:f∈kL n n []↔sS f/\f.length=n:=by
 rw [mR .nil];constructor
 ·rintro ⟨t,rfl,h1,h2,h3⟩;exact ⟨⟨h2,fun x hx=>by have:=h3 x hx;rw [h1];exact this⟩,h1⟩
 ·rintro ⟨⟨h1,h2⟩,h3⟩;exact ⟨f,rfl,h3,h1,fun x hx=>by have:=h2 x hx;rw [h3] at this;exact this⟩
end Go.Ev
namespace Go.Ev
open Go Go.Proofs
variable {B:Nat}
set_option maxRecDepth 100000
section
variable {h0:T Blk} {n:Nat} {lines:List (List Int)} {b1 bo bc bu bd bk bz kb gm cb ub dn:Pa} {o:Nat->Option Pa}
end
end Go.Ev
namespace Go.Ev
open Go Go.Proofs
variable {B:Nat}
set_option maxRecDepth 100000
theorem zju {n:Nat} (hn:n<=5):oN n<=120:=by
 rcases (by omega:n=0\/n=1\/n=2\/n=3\/n=4\/n=5) with rfl | rfl | rfl | rfl | rfl | rfl <;> decide
def rcL (n:Nat):List Sym:=(rcZ n ((n+1) / 2) []).map (rcE n)
def m9 (n:Int):Int:=if kM n≠0 then kM n else if 10<=n then 5 else 0
theorem pH {n:Int} (he:m9 n≠0):Pure Tryz.prog B 68 [I n] (· = .tup [.zf,I (m9 n)]):=by
 refine yL fun h nx K H0 hK=>zR zS yw 1000 fun hf' => ?_;rw [F68.go,F68.t23,zA,F68.wo];refine H0.box (l:=[I n]) rfl fun nb h1 nx1 H1 => ?_;have ln:∀ op:AV->OP,zD (.ptr nb 0) h1 op=op (I n):=fun op=>H1.load (k:=0) (i:=0) rfl rfl;rw [F68.t22,zA,F68.t7,zA,F68.wu];simp only [ln,aW];refine wQ _ _ _ _ ?_;rintro _ rfl _;simp only [ln,aW,zB];refine uV _ _ _ _ _ _ ?_;rintro _ rfl _;refine H1.zx (l:=[I (kM n),I (if decide (10<=n) then 5 else 0)]) rfl fun tb h5 nx5 H5 => ?_;refine wP (l:=[kM n,if decide (10<=n) then 5 else 0]) H5 (k:=0) rfl (fun B=>vI (by simp)) (fun v hv=>by rw [hv];exact .int _ _) ?_;rintro _ rfl;have e1:wF [kM n,if decide (10<=n) then 5 else 0]=m9 n:=by
  unfold m9;show (if kM n≠0 then kM n else if (if decide (10<=n)=true then (5:Int) else 0)≠0 then (if decide (10<=n)=true then (5:Int) else 0) else 0)=_;by_cases z:kM n=0 <;> by_cases z2:10<=n <;> simp [z,z2]
 rw [e1,F68.t6,zA,F68.dw,mg,decide_eq_false he,Zak,F68.t5,zC,F68.v9,zF,F68.t4,zA,F68.rF];simp only [zV,yN];rw [F68.ret];exact hK _ _ _ _ _ H5 (gI (zK rfl) (zK rfl)) rfl
theorem zpf {n:Nat} (hn1:1<=n) (hn:n<=9) (hD:(rcL n).Nodup) (hDS:∀ s∈rcL n,DS (n*n) s) (hlen:0<(rcL n).length/\(rcL n).length<=2000):Pure Tryz.prog B 68 [I n] (SetQ (rcL n)):=by
 refine yL fun h nx K H0 hK=>zR zS yw 1000 fun hf' => ?_;rw [F68.go,F68.t23,zA,F68.wo];refine H0.box (l:=[I n]) rfl fun nb h1 nx1 H1 => ?_;have ln:∀ op:AV->OP,zD (.ptr nb 0) h1 op=op (I n):=fun op=>H1.load (k:=0) (i:=0) rfl rfl;rw [F68.t22,zA,F68.t7,zA,F68.wu];simp only [ln,aW];refine wQ _ _ _ _ ?_;rintro _ rfl _;simp only [ln,aW,zB,zjr hn1 (show n<=16 by omega),decide_eq_false (show ¬ (10:Int)<=(n:Int) by omega)];refine uV _ _ _ _ _ _ ?_;rintro _ rfl _;rw [if_neg (by decide)];refine H1.zx (l:=[I 0,I 0]) rfl fun tb h5 nx5 H5 => ?_;refine wP (l:=[0,0]) H5 (k:=0) rfl (fun B=>vI (by simp)) (fun v hv=>by rw [hv];exact .int _ _) ?_;rintro _ rfl;rw [show wF [0,0]=0 from rfl,F68.t6,zA,F68.dw,mg,decide_eq_true rfl,Zaj,F68.t5,zC,F68.v9,zG,zN,F68.t21,zA,F68.sV];refine H5.fH fun gm h6 nx6 H6 => ?_;refine H6.alloc fun gb h7 nx7 H7 => ?_;refine H7.store (k:=0) rfl (by simp) rfl fun h8 H8 => ?_;rw [F68.t20,zA,F68.au,H8.load (k:=3) (i:=0) rfl rfl];refine H8.mk1 (z:=I 0) n rfl rfl (by omega) (by decide) fun qa h9 nx9 H9 => ?_;refine H9.alloc fun qb h10 nx10 H10 => ?_;refine H10.store (k:=0) rfl (by simp) rfl fun h11 H11 => ?_;rw [F68.t19,zA,F68.fG,H11.load (k:=5) (i:=0) rfl rfl];refine H11.mk1 (z:=.bool false) n rfl rfl (by omega) (by decide) fun ua h12 nx12 H12 => ?_;refine H12.alloc fun ub h13 nx13 H13 => ?_;refine H13.store (k:=0) rfl (by simp) rfl fun h14 H14 => ?_;rw [F68.t18,zA,F68.zaj];refine H14.alloc fun zb h15 nx15 H15 => ?_;rw [F68.t17,zA,F68.tH];refine H15.store (k:=0) rfl (by simp) rfl fun h16 H16 => ?_;have hu0:List.replicate n (AV.bool false)=qF n []:=by
  rw [zby,qF];exact qL fun j _=>by simp
 have hc0:List.replicate n (I 0)=(List.replicate n (0:Int)).map I:=by simp
 rw [hu0,hc0] at H16;have HA:Hp h h16 nx15 (Gr n nb gb qb ub zb gm qa ua [] [] (List.replicate n 0)++[]):=(H16.pick 9 [6,5,8,3,1,0,4,2] (by decide) (by decide)).cast rfl;rw [F68.t16,zA,F68.zak,HA.load (k:=5) (i:=0) rfl rfl,zbz];show (CS Tryz.prog B).fn 149 (.of 149) [I (([]:List Nat).length:Int),.ptr nb 0,.ptr gb 0,.ptr qb 0,.ptr ub 0,.ptr zb 0] h16 nx15 _=_;refine zdm hn1 hn hD hDS ((n+1) / 2) [] (List.replicate n 0) [] [] [] _ h16 nx15 _ (by simp) (by simp) ⟨by simp,fun v hv=>by rw [(List.mem_replicate.1 hv).2];omega,fun i hi=>absurd hi (Nat.not_lt_zero i),fun i hi=>absurd hi (Nat.not_lt_zero i)⟩ (by rw [List.append_nil];rfl) (by simp) HA fun ps' A' q' h17 nx17 r1 r2 r3 H17 => ?_;have r2:ps'.map (·.2)=rcL n:=r2;rw [F68.t15,zA,F68.rC,H17.load (k:=1) (i:=0) rfl rfl];refine zct (D:=rcL n) (n:=n) (by omega) (H17.cast rfl) r2 hD (fun p hp=>(r3 p hp).mono fun x hx=>by simp [hx]) (fun p hp=>(hDS p.2 (r2 ▸ List.mem_map.2 ⟨p,hp,rfl⟩)).1) hlen.1 hlen.2 fun v h' nx' L s H' hf hp hs => ?_;simp only [zV,yN];rw [F68.ret];exact hK _ _ _ _ _ H' (gI hf (zK rfl)) ⟨s,hp,hs,rfl⟩
def mvR (r c:List Nat) (e:Bool) (i j:Nat):Nat×Nat:=if e then (c.getD j 0,r.getD i 0) else (r.getD i 0,c.getD j 0)
theorem zdn {n:Nat} {mv mv':Nat->Nat->Nat×Nat} (h:∀ i j,i<n->j<n->mv i j=mv' i j):sqM n mv=sqM n mv':=by
 unfold sqM;refine Zca fun c hc => ?_;have hc:=List.mem_range.1 hc;have hn:0<n:=Nat.pos_of_ne_zero fun q=>by subst q;simp at hc
 unfold sqV;rw [h _ _ (m0 hc) (Nat.mod_lt _ hn)]
theorem zpg {r:List Nat} {i:Nat} (h:i<r.length):(zI r)[i]? = some ((r.getD i 0:Nat):Int):=by
 rw [List.getElem?_map,Zac,List.getElem?_eq_getElem h];rfl
theorem zgr {r:List Nat} {n i:Nat} (h:∀ x∈r,x<n) (hi:i<r.length):r.getD i 0<n:=by
 refine h _ ?_;rw [Zac,List.getElem?_eq_getElem hi];exact Zas hi
theorem zph {n c:Nat} {mv:Nat->Nat->Nat×Nat} (h:c<n*n):(sqM n mv).take (c+1)=(sqM n mv).take c++[sqV n mv c]:=by
 have:(sqM n mv)[c]? = some (sqV n mv c):=by rw [sqM,List.getElem?_map,List.getElem?_range h];rfl
 rw [Zau,this];rfl
theorem kV {r c:List Nat} {e:Bool} {n:Nat} (hr:r.length=n) (hc:c.length=n) (hn1:1<=n) (hn:n<=16) (hrl:∀ x∈r,x<n) (hcl:∀ x∈c,x<n):Pure Tryz.prog B 152 [encI (zI r),encI (zI c),.bool e] (· = encS (sqM n (mvR r c e),false)):=by
 refine yL fun h nx K H0 hK=>zR zS yw 1000 fun hf' => ?_;have hnn:n*n<=256:=Zbu hn hn;have hzr:(zI r).length=n:=by simp [hr]
 have hzc:(zI c).length=n:=by simp [hc]
 have hsl:=qZ n (mvR r c e);rw [zi.go,zi.t38,zA,zi.wo];refine H0.alloc fun b3 h1 nx1 H1 => ?_;rw [zi.t37,zA,zi.wu,zP,hzr,zi.t36,zA,zi.dw];refine H1.alloc fun b5 h2 nx2 H2 => ?_;rw [zi.t35,zA,zi.t32,zA,zi.rF,zi.t31,zH];refine zi.zvv (fun m x6 h' nx'=>∃ (i:Nat) (o:Option Pa),x6=I i/\n-i=m/\i<=n/\Hp h h' nx' [.gro o 1 (n*i) (((sqM n (mvR r c e)).take (n*i)).map I),.arr b5 [qp o 1 (n*i),.bool false],.arr b3 [.zf,.bool false]]) (m:=n) (by omega) ⟨0,none,rfl,by omega,by omega,H2.aK 1⟩ ?_;rintro m z6 z7 z8 z9 z10 z11 z12 h3 nx3 R ⟨i,o,rfl,rfl,hi,H3⟩ hR;rw [zi.t29,zA,zi.t6,zA,zi.t4_s,xq];by_cases hlt:i<n
 case neg =>
  obtain rfl:i=n:=by omega
  rw [Zav (by omega)] at H3;rw [decide_eq_false (by omega),zi.t5,zC,zi.v10,zG,yG,yU,zi.t34,zA,zi.zl7,H3.zh (k:=1) (n:=2) rfl rfl];refine H3.qg (k:=2) (n:=2) rfl rfl (by cases o <;> rfl) fun h4 H4 => ?_;simp only [zV,yN];rw [zi.ret,H4.zh (k:=2) (n:=2) rfl rfl];have e2:AV.lst 1 (i*i) ((sqM i (mvR r c e)).map I)=encI (sqM i (mvR r c e)):=by
   have h1:i*i=(sqM i (mvR r c e)).length:=hsl.symm
   conv=>lhs;rw [h1]
  have hz:=H4.zae (k:=0) rfl (fixI _);rw [e2] at hz;exact hK _ _ _ _ (encS (sqM i (mvR r c e),false)) H4 (vG hz (zK rfl) rfl) rfl
 have hil:i<r.length:=by omega
 have hri:=zgr hrl hil;rw [decide_eq_true (by omega),zi.t5,zC,zi.v10,zF,zN,zi.t28,zA,zi.t26,zH,zi.t25,zA,zi.t7_s,zi.t24,zH];refine zi.zvu (fun m x7 h' nx'=>∃ (j:Nat) (o:Option Pa),x7=I j/\n-j=m/\j<=n/\Hp h h' nx' [.gro o 1 (n*i+j) (((sqM n (mvR r c e)).take (n*i+j)).map I),.arr b5 [qp o 1 (n*i+j),.bool false],.arr b3 [.zf,.bool false]]) (m:=n) (by omega) ⟨0,o,rfl,by omega,by omega,H3⟩ ?_
 clear H3
 rintro m y7 y8 y9 y11 y12 h4 nx4 R2 ⟨j,o,rfl,rfl,hj,H4⟩ hR2;have hni:n*(i+1)=n*i+n:=Nat.mul_succ n i;have hni2:n*(i+1)<=n*n:=Zcf n (by omega);rw [zi.t22,zA,zi.t10,zA,zi.sV,xq];by_cases hltj:j<n
 case neg =>
  obtain rfl:j=n:=by omega
  rw [decide_eq_false (by omega),zi.t9,zC,zi.v11,zG,yG,yU,zi.zl6,qx (by omega)];refine hR (j-(i+1)) _ _ _ _ _ _ _ _ _ (by omega) ⟨i+1,o,rfl,rfl,by omega,?_⟩;rw [hni];exact H4
 have hjl:j<c.length:=by omega
 have hcj:=zgr hcl hjl;have hcn:n*i+j<n*n:=by omega
 have ev:sqV n (mvR r c e) (n*i+j)=((n*(mvR r c e i j).1+(mvR r c e i j).2:Nat):Int):=by
  unfold sqV;have d1:(n*i+j) / n=i:=by rw [Nat.mul_add_div (by omega),Nat.div_eq_of_lt hltj];omega
  have d2:(n*i+j)%n=j:=by rw [Nat.mul_add_mod,Zcb hltj]
  rw [d1,d2]
  push_cast
  rfl
 have bnd:∀ a:Nat,a<n->n*a<=256:=fun a ha=>Zbn (Zcf n (Nat.le_of_lt ha)) hnn;rw [decide_eq_true (by omega),zi.t9,zC,zi.v11,zF,zN,zi.t21,zA,zi.t19,zH,zi.t18,zA,zi.zaj,tN (i:=i) rfl (by omega),ldL (eF (zpg hil)),tN (i:=j) rfl (by omega),ldL (eF (zpg hjl)),zi.t17,zA,zi.t15,zA,zi.tH,zi.t14,zC,zi.v12];have rest:∀ (x y:Nat) (x12:AV) (O:uo Prop) (Kk:Ks Prop),mvR r c e i j=(x,y)->x<n->y<n->(∀ (o':Option Pa) (h':T Blk) (nx':Pa),Hp h h' nx' [.gro o' 1 (n*i+j+1) (((sqM n (mvR r c e)).take (n*i+j+1)).map I),.arr b5 [qp o' 1 (n*i+j+1),.bool false],.arr b3 [.zf,.bool false]]->Kk (zi.fr (encI (zI r)) (encI (zI c)) (.bool e) (.ptr b3 0) (I n) (.ptr b5 0) (I i) (I j) (I (x:Int)) (I (y:Int)) (.bool true) (.bool true) x12) h' nx'=.ok True)->IR.run zi.t16 (CS Tryz.prog B) 1000 O Kk (zi.fr (encI (zI r)) (encI (zI c)) (.bool e) (.ptr b3 0) (I n) (.ptr b5 0) (I i) (I j) (I (x:Int)) (I (y:Int)) (.bool true) (.bool true) x12) h4 nx4=.ok True:=by
  intro x y x12 O Kk hm hx hy hKk;rw [hm] at ev;have hbx:=bnd x hx;have e1:(x:Int)*(n:Int)=((n*x:Nat):Int):=by rw [Int.mul_comm];exact (Int.natCast_mul n x).symm
  rw [zi.sQ,sFx,H4.load (k:=1) (i:=0+0) rfl rfl,aV (by rw [e1];omega),e1,qx (by omega),show (((n*x:Nat):Int)+(y:Int))=sqV n (mvR r c e) (n*i+j) by rw [ev];exact (Int.natCast_add (n*x) y).symm];refine H4.zx (l:=[I (sqV n (mvR r c e) (n*i+j))]) rfl fun tb h5 nx5 H5 => ?_;refine H5.appN (k:=1) (o:=o) (c:=1) (esz:=1) (new:=[I (sqV n (mvR r c e) (n*i+j))]) rfl (jl.rd (l:=[I (sqV n (mvR r c e) (n*i+j))]) (n:=1) (e:=1) (H5.own _ (Zag ..)) rfl) rfl rfl (by decide) (by decide) (by omega) fun o' h6 nx6 _ H6 => ?_;rw [sFx];refine H6.store (k:=2) (i:=0+0) rfl (by simp) (uL _ _ _) fun h7 H7 => ?_;refine hKk o' h7 nx6 (H7.drop.cast ?_);rw [zph hcn,Zbd]
  rfl
 have next:∀ (x y:Nat) (x12:AV) (o':Option Pa) (h':T Blk) (nx':Pa),Hp h h' nx' [.gro o' 1 (n*i+j+1) (((sqM n (mvR r c e)).take (n*i+j+1)).map I),.arr b5 [qp o' 1 (n*i+j+1),.bool false],.arr b3 [.zf,.bool false]]->IR.run zi.t20 (CS Tryz.prog B) 1000 ((((fnO zi.res K).blk 0 (IR.run zi.t34 (CS Tryz.prog B) 1000 (fnO zi.res K) (jv zi.res K))).blk 1 (IR.run zi.t27 (CS Tryz.prog B) 1000 ((fnO zi.res K).blk 0 (IR.run zi.t34 (CS Tryz.prog B) 1000 (fnO zi.res K) (jv zi.res K))) R)).blk 2 (IR.run zi.t27 (CS Tryz.prog B) 1000 ((fnO zi.res K).blk 0 (IR.run zi.t34 (CS Tryz.prog B) 1000 (fnO zi.res K) (jv zi.res K))) R)) R2 (zi.fr (encI (zI r)) (encI (zI c)) (.bool e) (.ptr b3 0) (I n) (.ptr b5 0) (I i) (I j) (I (x:Int)) (I (y:Int)) (.bool true) (.bool true) x12) h' nx'=.ok True:=by
  intro x y x12 o' h' nx' H';rw [zi.ze0,qx (by omega)];exact hR2 (n-(j+1)) _ _ _ _ _ _ _ (by omega) ⟨j+1,o',rfl,rfl,by omega,H'⟩
 cases e with
 | true =>
  rw [zF,zi.zak];exact rest (c.getD j 0) (r.getD i 0) _ _ _ rfl hcj hri fun o' h' nx' H'=>next _ _ _ o' h' nx' H'
 | false =>
  rw [zG,zN];exact rest (r.getD i 0) (c.getD j 0) _ _ _ rfl hri hcj fun o' h' nx' H'=>next _ _ _ o' h' nx' H'
def aN (n:Nat):List Nat:=(List.range n).map fun i=>n-1-i
def dG (n k:Nat):List Nat:=(List.range n).map fun i=>(i+k)%n
theorem pN {n i:Nat} {f:Nat->Nat} (h:i<n):((List.range n).map f).getD i 0=f i:=by
 rw [Zac,List.getElem?_map,List.getElem?_range h];rfl
theorem zjv (f:Nat->Nat) (i:Nat):(zI ((List.range (i+1)).map f)).map I=(zI ((List.range i).map f)).map I++[I ((f i:Nat):Int)]:=by
 rw [Zby,Zbd,zI,Zbd,Zbd];rfl
theorem zr4 {n:Nat} (hn:n<=1000):Pure Tryz.prog B 151 [I n] (· = encI (zI (aN n))):=by
 refine yL fun h nx K H0 hK=>zR zS yw 10000 fun hf' => ?_;rw [je.go,je.t18,zA,je.wo,je.t17,zA,je.wu,je.t16,zA,je.t13,zA,je.dw,je.t12,zH];refine je.zaw (fun m x2 x3 h' nx'=>∃ (i:Nat) (o:Option Pa),x3=I i/\x2=qp o 1 i/\n-i=m/\i<=n/\∃ L',Hp h h' nx' (.gro o 1 i ((zI ((List.range i).map fun i=>n-1-i)).map I)::L')) (m:=n) (by omega) ⟨0,none,rfl,rfl,by omega,by omega,[],H0.aK 1⟩ ?_;rintro m z2 z3 z4 h3 nx3 R ⟨i,o,rfl,rfl,rfl,hi,L3,H3⟩ hR;rw [je.t10,zA,je.t5,zA,je.rF,xq];by_cases hlt:i<n
 case neg =>
  obtain rfl:i=n:=by omega
  rw [decide_eq_false (by omega),je.t4,zC,je.v4,zG,yG,yU,je.t15,zA,je.rC];simp only [zV,yN];rw [je.ret];have e2:AV.lst 1 i ((zI ((List.range i).map fun j=>i-1-j)).map I)=encI (zI (aN i)):=by
   have:i=(zI ((List.range i).map fun j=>i-1-j)).length:=by simp
   conv=>lhs;rw [show AV.lst 1 i ((zI ((List.range i).map fun j=>i-1-j)).map I)=AV.lst 1 (zI ((List.range i).map fun j=>i-1-j)).length ((zI ((List.range i).map fun j=>i-1-j)).map I) by rw [<- this]]
   rfl
  have hz:=H3.zae (k:=0) rfl (fixI _);rw [e2] at hz;exact hK _ _ _ _ _ H3 hz rfl
 rw [decide_eq_true (by omega),je.t4,zC,je.v4,zF,zN,je.t9,zA,je.t7,zH,je.aI,fD (by omega),fD (by omega),show ((n:Int)-1-(i:Int))=((n-1-i:Nat):Int) by omega];refine H3.zx (l:=[I ((n-1-i:Nat):Int)]) rfl fun tb h5 nx5 H5 => ?_;refine H5.appN (k:=1) (o:=o) (c:=1) (esz:=1) (new:=[I ((n-1-i:Nat):Int)]) rfl (jl.rd (l:=[I ((n-1-i:Nat):Int)]) (n:=1) (e:=1) (H5.own _ (Zag ..)) rfl) rfl rfl (by decide) (by decide) (by omega) fun o' h6 nx6 _ H6 => ?_;rw [je.sV,qx (by omega)];refine hR (n-(i+1)) _ _ _ _ _ (by omega) ⟨i+1,o',rfl,rfl,rfl,by omega,L3,?_⟩;rw [zjv];exact H6.drop
theorem zdo {n k:Nat} (hn1:1<=n) (hn:n<=1000) (hk:k<=1000):Pure Tryz.prog B 153 [I n,I k] (· = encI (zI (dG n k))):=by
 refine yL fun h nx K H0 hK=>zR zS yw 10000 fun hf' => ?_;rw [jf.go,jf.t18,zA,jf.wo,jf.t17,zA,jf.wu,jf.t16,zA,jf.t13,zA,jf.dw,jf.t12,zH];refine jf.zaw (fun m x3 x4 h' nx'=>∃ (i:Nat) (o:Option Pa),x4=I i/\x3=qp o 1 i/\n-i=m/\i<=n/\∃ L',Hp h h' nx' (.gro o 1 i ((zI ((List.range i).map fun i=>(i+k)%n)).map I)::L')) (m:=n) (by omega) ⟨0,none,rfl,rfl,by omega,by omega,[],H0.aK 1⟩ ?_;rintro m z3 z4 z5 h3 nx3 R ⟨i,o,rfl,rfl,rfl,hi,L3,H3⟩ hR;rw [jf.t10,zA,jf.t5,zA,jf.rF,xq];by_cases hlt:i<n
 case neg =>
  obtain rfl:i=n:=by omega
  rw [decide_eq_false (by omega),jf.t4,zC,jf.v5,zG,yG,yU,jf.t15,zA,jf.rC];simp only [zV,yN];rw [jf.ret];have e2:AV.lst 1 i ((zI ((List.range i).map fun j=>(j+k)%i)).map I)=encI (zI (dG i k)):=by
   have:i=(zI ((List.range i).map fun j=>(j+k)%i)).length:=by simp
   conv=>lhs;rw [show AV.lst 1 i ((zI ((List.range i).map fun j=>(j+k)%i)).map I)=AV.lst 1 (zI ((List.range i).map fun j=>(j+k)%i)).length ((zI ((List.range i).map fun j=>(j+k)%i)).map I) by rw [<- this]]
   rfl
  have hz:=H3.zae (k:=0) rfl (fixI _);rw [e2] at hz;exact hK _ _ _ _ _ H3 hz rfl
 rw [decide_eq_true (by omega),jf.t4,zC,jf.v5,zF,zN,jf.t9,zA,jf.t7,zH,jf.aI,qx (by omega),show ((i:Int)+(k:Int))=((i+k:Nat):Int) by omega,zeu (by omega)];refine H3.zx (l:=[I (((i+k)%n:Nat):Int)]) rfl fun tb h5 nx5 H5 => ?_;refine H5.appN (k:=1) (o:=o) (c:=1) (esz:=1) (new:=[I (((i+k)%n:Nat):Int)]) rfl (jl.rd (l:=[I (((i+k)%n:Nat):Int)]) (n:=1) (e:=1) (H5.own _ (Zag ..)) rfl) rfl rfl (by decide) (by decide) (by omega) fun o' h6 nx6 _ H6 => ?_;rw [jf.sV,qx (by omega)];refine hR (n-(i+1)) _ _ _ _ _ (by omega) ⟨i+1,o',rfl,rfl,rfl,by omega,L3,?_⟩;rw [zjv];exact H6.drop
theorem zpi (n:Nat):(aN n).length=n/\∀ x∈aN n,x<n:=⟨by simp [aN],fun x hx=>by
 obtain ⟨i,hi,rfl⟩:=List.mem_map.1 hx;have:=List.mem_range.1 hi;omega⟩
theorem zgs {n:Nat} (hn:1<=n) (k:Nat):(dG n k).length=n/\∀ x∈dG n k,x<n:=⟨by simp [dG],fun x hx=>by
 obtain ⟨i,hi,rfl⟩:=List.mem_map.1 hx;exact Nat.mod_lt _ hn⟩
theorem zlt (n:Nat):(List.range n).length=n/\∀ x∈List.range n,x<n:=⟨by simp,fun x hx=>List.mem_range.1 hx⟩
abbrev sqR (n:Nat) (r c:List Nat) (e:Bool):Sym:=(sqM n (mvR r c e),false)
abbrev rdH (n:Nat) (e:Bool):List Sym:=[sqR n (List.range n) (List.range n) e,sqR n (List.range n) (aN n) e,sqR n (aN n) (List.range n) e,sqR n (aN n) (aN n) e]
def rdL (n i:Nat):List Sym:=(List.range i).flatMap fun k:Nat=>rdH n (decide ((k:Int)=1))
theorem zgt (n i:Nat):rdL n (i+1)=rdL n i++rdH n (decide ((i:Int)=1)):=by unfold rdL;rw [Zby,Zbg];simp
theorem bM (n:Nat):∀ i,(rdL n i).length=4*i
 | 0=>rfl
 | i+1=>by rw [zgt,Zap,bM n i];simp;omega
theorem zti {n i:Nat} (hn:n<=16):∀ g∈rdL n i,g.1.length<=1000000:=fun g hg=>by
 obtain ⟨k,_,h⟩:=List.mem_flatMap.1 hg;have hnn:n*n<=256:=Zbu hn hn;simp only [rdH,Zaf,List.not_mem_nil,or_false] at h;rcases h with rfl | rfl | rfl | rfl <;> (show (sqM n _).length<=1000000;rw [qZ];omega)
theorem zlu (a b:List Sym):zT (a++b)=zT a++zT b:=by unfold zT;rw [Zbg]
theorem dQ {h h1:T Blk} {nx1 p0:Pa} {L:List Ob} {o:Option Pa} {D:List Sym} {K:Kw Prop} (H1:Hp h h1 nx1 (.gro o 2 D.length (zT D)::L)) (hl:D.length<=100000) (hw:∀ g∈D,g.1.length<=1000000)
  (hK:∀ h',Hp h h' nx1 L->K (jm (xQ D)) h' nx1=.ok True):(CS Tryz.prog B).fn 100 p0 [qp o 2 D.length] h1 nx1 K=.ok True:=by
 obtain ⟨h7,kp,H7,hfz⟩:=Hp.zuj (o:=o) (e:=2) (n:=D.length) (l:=zT D) H1 u6;refine zug kp (args':=[jm D]) (.cons hfz .nil) (zln hl hw _ _ _ _ ?_);rintro _ rfl _;exact hK h7 H7
theorem zpj {n:Nat} (hn1:1<=n) (hn:n<=16):Pure Tryz.prog B 70 [I n] (· = jm (xQ (rdL n 2))):=by
 refine yL fun h nx K H0 hK=>zR zS yw 10000 fun hf' => ?_;obtain ⟨p1,p2⟩:=zlt n;obtain ⟨q1,q2⟩:=zpi n;rw [F70.go,F70.t20,zA,F70.wo,F70.t19,zA,F70.wu,F70.t18,zA,F70.dw]
 (refine zo4 (by omega) _ _ _ _ ?_;rintro _ rfl _)
 (refine zr4 (by omega) _ _ _ _ ?_;rintro _ rfl _)
 rw [F70.t17,zA,F70.t14,zA,F70.rF,F70.t13,zH];refine F70.zvq (fun m x2 x5 h' nx'=>∃ (i:Nat) (o:Option Pa),x5=I i/\x2=qp o 2 (rdL n i).length/\2-i=m/\i<=2/\∃ L',Hp h h' nx' (.gro o 2 (rdL n i).length (zT (rdL n i))::L')) (m:=2) (by omega) ⟨0,none,rfl,rfl,by omega,by omega,[],H0.aK 2⟩ ?_;rintro m z2 z5 z6 h3 nx3 R ⟨i,o,rfl,rfl,rfl,hi,L3,H3⟩ hR;have hl4:=bM n i;rw [F70.t11,zA,F70.t6,zA,F70.t4_s,xq];by_cases hlt:i<2
 case neg =>
  obtain rfl:i=2:=by omega
  rw [decide_eq_false (by omega),F70.t5,zC,F70.v6,zG,yG,yU,F70.t16,zA,F70.aX];refine dQ H3 (by omega) (zti hn) fun h' H' => ?_;simp only [zV,yN];rw [F70.ret];exact hK _ _ _ _ _ H' (zK (wV _)) rfl
 have hid:idL n=zI (List.range n):=rfl;rw [decide_eq_true (by omega),F70.t5,zC,F70.v6,zF,zN,F70.t10,zA,F70.t8,zH,F70.t7_s,F70.r5_0,F70.zax,sO,hid]
 (refine kV p1 p1 hn1 hn p2 p2 _ _ _ _ ?_;rintro _ rfl _)
 rw [F70.r5_1,F70.zao,sO]
 (refine kV p1 q1 hn1 hn p2 q2 _ _ _ _ ?_;rintro _ rfl _)
 rw [F70.r5_2,F70.zaq,sO]
 (refine kV q1 p1 hn1 hn q2 p2 _ _ _ _ ?_;rintro _ rfl _)
 rw [F70.r5_3,F70.zg0,sO]
 (refine kV q1 q1 hn1 hn q2 q2 _ _ _ _ ?_;rintro _ rfl _)
 rw [F70.r5_4,F70.zg1];refine H3.zx (l:=zT (rdH n (decide ((i:Int)=1)))) rfl fun tb h5 nx5 H5 => ?_;rw [F70.r5_5,F70.ztl,tq];refine H5.appN (k:=1) (o:=o) (c:=4) (esz:=2) (new:=zT (rdH n (decide ((i:Int)=1)))) rfl (jl.rd (l:=zT (rdH n (decide ((i:Int)=1)))) (n:=4) (e:=2) (H5.own _ (Zag ..)) rfl) rfl rfl (by decide) (by decide) (by omega) fun o' h6 nx6 _ H6 => ?_;rw [F70.r5_6,F70.ztm,F70.au,qx (by omega)];have e1:(rdL n i).length+4=(rdL n (i+1)).length:=by rw [bM,bM];omega
 refine hR (2-(i+1)) _ _ _ _ _ (by omega) ⟨i+1,o',rfl,by rw [<- e1],rfl,by omega,L3,?_⟩;rw [<- e1,zgt,zlu];exact H6.drop
theorem zu8 {n a b:Nat}:sqR n (dG n a) (dG n b) false=tS n a b:=by
 unfold sqR tS
 congr 1
 refine zdn fun i j hi hj => ?_;unfold mvR mvT dG;rw [if_neg (by decide),pN hi,pN hj]
theorem bK (n:Nat):∀ a,(shL n a).length=n*a
 | 0=>rfl
 | a+1=>by rw [pE,Zap,bK n a];simp [Nat.mul_succ]
theorem tS_w {n a b:Nat} (hn:n<=16):(tS n a b).1.length<=1000000:=by
 have hnn:n*n<=256:=Zbu hn hn;show (sqM n _).length<=1000000;rw [qZ];omega
theorem zgu {n:Nat} (hn1:1<=n) (hn:n<=16):Pure Tryz.prog B 71 [I n] (· = jm (xQ (shL n n))):=by
 refine yL fun h nx K H0 hK=>zR zS yw 10000 fun hf' => ?_;have hnn:n*n<=256:=Zbu hn hn;rw [F71.go,F71.t29,zA,F71.wo,F71.t28,zA,F71.wu,F71.t27,zA,F71.t24,zA,F71.dw,F71.t23,zH];refine F71.zvr (fun m x2 x3 h' nx'=>∃ (a:Nat) (o:Option Pa),x3=I a/\x2=qp o 2 (shL n a).length/\n-a=m/\a<=n/\∃ L',Hp h h' nx' (.gro o 2 (shL n a).length (zT (shL n a))::L')) (m:=n) (by omega) ⟨0,none,rfl,rfl,by omega,by omega,[],H0.aK 2⟩ ?_;rintro m z2 z3 z4 z5 z6 h3 nx3 R ⟨a,o,rfl,rfl,rfl,ha,L3,H3⟩ hR;rw [F71.t21,zA,F71.t5,zA,F71.rF,xq];by_cases hlt:a<n
 case neg =>
  obtain rfl:a=n:=by omega
  have hl:=bK a a;rw [decide_eq_false (by omega),F71.t4,zC,F71.v5,zG,yG,yU,F71.t26,zA,F71.zvs];refine dQ H3 (by omega) (fun g hg => ?_) fun h' H' => ?_
  ·obtain ⟨a',h1,h2⟩:=List.mem_flatMap.1 hg;obtain ⟨b',h3,rfl⟩:=List.mem_map.1 h2;exact tS_w hn
  simp only [zV,yN];rw [F71.ret];exact hK _ _ _ _ _ H' (zK (wV _)) rfl
 have hla:=bK n a;have hna:n*a<=n*n:=Zcf n ha;obtain ⟨p1,p2⟩:=zgs hn1 a;rw [decide_eq_true (by omega),F71.t4,zC,F71.v5,zF,zN,F71.t20,zA,F71.t18,zH,F71.t17,zA,F71.aI,F71.t16,zH];refine F71.zl5 (fun m x2 x4 h' nx'=>∃ (b:Nat) (o:Option Pa),x4=I b/\x2=qp o 2 (shL n a++(List.range b).map (tS n a)).length/\n-b=m/\b<=n/\∃ L',Hp h h' nx' (.gro o 2 (shL n a++(List.range b).map (tS n a)).length (zT (shL n a++(List.range b).map (tS n a)))::L')) (m:=n) (by omega) ⟨0,o,rfl,by simp,by omega,by omega,L3,by simpa using H3⟩ ?_;rintro m y2 y4 y6 h4 nx4 R2 ⟨b,o,rfl,rfl,rfl,hb,L4,H4⟩ hR2;rw [F71.t14,zA,F71.t9,zA,F71.t7_s,xq];by_cases hltb:b<n
 case neg =>
  obtain rfl:b=n:=by omega
  rw [decide_eq_false (by omega),F71.t8,zC,F71.v6,zG,yG,yU,F71.zl1,qx (by omega)];exact hR (b-(a+1)) _ _ _ _ _ _ _ (by omega) ⟨a+1,o,rfl,by rw [pE],rfl,by omega,L4,by rw [pE];exact H4⟩
 obtain ⟨q1,q2⟩:=zgs hn1 b;rw [decide_eq_true (by omega),F71.t8,zC,F71.v6,zF,zN,F71.t13,zA,F71.t11,zH,F71.fG]
 (refine zdo hn1 (by omega) (by omega) _ _ _ _ ?_;rintro _ rfl _)
 (refine zdo hn1 (by omega) (by omega) _ _ _ _ ?_;rintro _ rfl _)
 (refine kV p1 q1 hn1 hn p2 q2 _ _ _ _ ?_;rintro _ rfl _)
 have es:encS (sqM n (mvR (dG n a) (dG n b) false),false)=encS (tS n a b):=congrArg encS zu8;rw [es];refine H4.zx (l:=[encI (tS n a b).1,.bool false]) rfl fun tb h5 nx5 H5 => ?_;rw [tq];have hle:(shL n a++(List.range b).map (tS n a)).length<=512:=by rw [Zap,hla];simp;omega
 refine H5.appN (k:=1) (o:=o) (c:=1) (esz:=2) (new:=[encI (tS n a b).1,.bool false]) rfl (jl.rd (l:=[encI (tS n a b).1,.bool false]) (n:=1) (e:=2) (H5.own _ (Zag ..)) rfl) rfl rfl (by decide) (by decide) (by omega) fun o' h6 nx6 _ H6 => ?_;rw [F71.tH,qx (by omega)];have e0:shL n a++(List.range (b+1)).map (tS n a)=(shL n a++(List.range b).map (tS n a))++[tS n a b]:=by rw [Zby,Zbd,Zbe];rfl
 generalize shL n a++(List.range b).map (tS n a)=S at *
 refine hR2 (n-(b+1)) _ _ _ _ _ (by omega) ⟨b+1,o',rfl,by rw [e0,Zap];rfl,rfl,by omega,L4,?_⟩;rw [e0,zcn,Zap];exact H6.drop
def mirB (p:List Int):Bool:=(List.range p.length).all fun i=>decide (p.getD (p.length-1-i) 0=(p.length:Int)-1-p.getD i 0)
theorem zgv {p:List Int} (hl:p.length<=1000) (hp:∀ x∈p,0<=x/\x<1000):Pure Tryz.prog B 154 [encI p] (· = .bool (mirB p)):=by
 refine yL fun h nx K H0 hK=>zR zS yw 10000 fun hf' => ?_;rw [yg.go,yg.t22,zA,yg.wo,yg.t21,zA,yg.wu,zP,yg.t20,zA,yg.t17,zA,yg.dw,yg.t16,zH];refine yg.zl5 (fun m x3 h' nx'=>∃ i:Nat,x3=I i/\p.length-i=m/\i<=p.length/\((List.range i).all fun i=>decide (p.getD (p.length-1-i) 0=(p.length:Int)-1-p.getD i 0))=true/\Hp h h' nx' []) (m:=p.length) (by omega) ⟨0,rfl,by omega,by omega,rfl,H0⟩ ?_;rintro m z1 z3 z4 z5 h3 nx3 R ⟨i,rfl,rfl,hi,hal,H3⟩ hR;rw [yg.t14,zA,yg.t5,zA,yg.rF,xq];by_cases hlt:i<p.length
 case neg =>
  obtain rfl:i=p.length:=by omega
  rw [decide_eq_false (by omega),yg.t4,zC,yg.v4,zG,yG,yU,yg.t19,zA,yg.zey];simp only [zV,yN];rw [yg.ret];exact hK _ _ _ _ _ H3 (zK rfl) (by rw [mirB,hal])
 have h1:=hp _ (Zaa (getD_some hlt));have hj:p.length-1-i<p.length:=by omega
 rw [decide_eq_true (by omega),yg.t4,zC,yg.v4,zF,zN,yg.t13,zA,yg.t11,zH,yg.t10,zA,yg.aI,fD (by omega),fD (by omega),tN (i:=p.length-1-i) (by omega) hj,ldL (eF (getD_some hj)),fD (by omega),tN (i:=i) rfl hlt,ldL (eF (getD_some hlt)),fD (by omega),mg,yg.t9,zC,yg.v5];by_cases c:p.getD (p.length-1-i) 0=(p.length:Int)-1-p.getD i 0
 ·rw [decide_eq_true c,Zaj,zG,zN,yg.tH,qx (by omega)];refine hR (p.length-(i+1)) _ _ _ _ _ _ (by omega) ⟨i+1,rfl,rfl,by omega,?_,H3⟩;rw [Zby,List.all_append,hal];simp only [List.all_cons,List.all_nil,decide_eq_true c]
  rfl
 ·rw [decide_eq_false c,Zak,zF,yg.t8,zA,yg.t7_s];simp only [zV,zho,yN];rw [yg.ret];refine hK _ _ _ _ _ H3 (zK rfl) ?_;have:mirB p=false:=Bool.eq_false_iff.2 fun q=>c (of_decide_eq_true (List.all_eq_true.1 q i (List.mem_range.2 hlt)));rw [this]
abbrev natL (p:List Int):List Nat:=p.map Int.toNat
theorem zr5 {p:List Int} (h:∀ x∈p,0<=x):zI (natL p)=p:=by
 unfold zI natL;rw [Zck]
 conv=>rhs;rw [<- List.map_id p]
 refine Zca fun x hx => ?_;have:=h x hx;show ((x.toNat:Nat):Int)=x;omega
abbrev sqP (n:Nat) (p:List Int):Sym:=sqR n (natL p) (natL p) false
def rcT (n k:Nat):List Sym:=(((kL n n []).take k).filter mirB).map (sqP n)
theorem zpk {n k:Nat} {p:List Int} (h:(kL n n [])[k]? = some p):rcT n (k+1)=if mirB p then rcT n k++[sqP n p] else rcT n k:=by
 unfold rcT;rw [Zau,h,List.filter_append];cases c:mirB p with
 | true =>
  show (_++List.filter _ [p]).map (sqP n)=_;rw [List.filter_cons_of_pos c,if_pos rfl,Zbd];rfl
 | false =>
  show (_++List.filter _ [p]).map (sqP n)=_;rw [List.filter_cons_of_neg (by rw [c];decide),if_neg (by decide)];simp
theorem zr6 (n k:Nat):(rcT n k).length<=k:=by
 unfold rcT;rw [Zar];refine Zbn (List.length_filter_le _ _) ?_;rw [Zbc];omega
theorem zpl {n:Nat} (hn1:1<=n) (hn5:n<=5):Pure Tryz.prog B 72 [I n] (· = jm (xQ (rcT n (oN n)))):=by
 refine yL fun h nx K H0 hK=>zR zS yw 10000 fun hf' => ?_;have hlen:=zil (n:=n) (by omega);have hf120:=zju hn5;have hnn:n*n<=256:=Zbu (show n<=16 by omega) (show n<=16 by omega);rw [F72.go,F72.t25,zA,F72.wo,F72.t24,zA,F72.wu,F72.t23,zA,F72.dw]
 (refine zr3 hn5 _ _ _ _ ?_;rintro _ rfl _)
 (refine zpe (zju hn5) _ _ _ _ ?_;rintro _ rfl _)
 rw [yZ,jB,F72.t22,zA,F72.t19,zA,F72.rF,F72.t18,zH];refine F72.zvt (fun m x2 x4 h' nx'=>∃ (k:Nat) (o:Option Pa),x4=I k/\x2=qp o 2 (rcT n k).length/\oN n-k=m/\k<=oN n/\∃ L',Hp h h' nx' (.gro o 2 (rcT n k).length (zT (rcT n k))::L')) (m:=oN n) (by omega) ⟨0,none,rfl,rfl,by omega,by omega,[],H0.aK 2⟩ ?_;rintro m z2 z4 z5 z6 z7 h3 nx3 R ⟨k,o,rfl,rfl,rfl,hk,L3,H3⟩ hR;have hl:=zr6 n k;rw [F72.t16,zA,F72.t6,zA,F72.t4_s,xq];by_cases hlt:k<oN n
 case neg =>
  obtain rfl:k=oN n:=by omega
  rw [decide_eq_false (by omega),F72.t5,zC,F72.v6,zG,yG,yU,F72.t21,zA,F72.ze0];refine dQ H3 (by omega) (fun g hg => ?_) fun h' H' => ?_
  ·obtain ⟨p,_,rfl⟩:=List.mem_map.1 hg;show (sqM n _).length<=1000000;rw [qZ];omega
  simp only [zV,yN];rw [F72.ret];exact hK _ _ _ _ _ H' (zK (wV _)) rfl
 have hx:(kL n n [])[k]? = some ((kL n n []).getD k []):=by rw [Zac,List.getElem?_eq_getElem (by omega)];rfl
 obtain ⟨hpp,hpl⟩:=zim.1 (Zaa hx);have hsn:=zpk hx;rw [decide_eq_true (by omega),F72.t5,zC,F72.v6,zF,zN,F72.t15,zA,F72.t13,zH,F72.t12,zA,F72.t7_s]
 (refine zlq (by omega) _ _ _ _ ?_;rintro _ rfl _)
 (refine zls ⟨hn1,hn5⟩ hlt _ _ _ _ ?_;rintro _ rfl _)
 generalize (kL n n []).getD k []=p at *
 have hb:∀ x∈p,0<=x/\x<(n:Int):=fun x hx=>by have:=hpp.2 x hx;rw [hpl] at this;exact this
 rw [F72.t11,zA,F72.sV]
 (refine zgv (by omega) (fun x hx=>by have:=hb x hx;omega) _ _ _ _ ?_;rintro _ rfl _)
 rw [F72.t10,zC,F72.v7];cases c:mirB p with
 | false =>
  rw [c,if_neg (by decide)] at hsn;rw [zG,zN,F72.rC,qx (by omega)];exact hR (oN n-(k+1)) _ _ _ _ _ _ _ (by omega) ⟨k+1,o,rfl,by rw [hsn],rfl,by omega,L3,by rw [hsn];exact H3⟩
 | true =>
  rw [c,if_pos rfl] at hsn;have hz:=zr5 (p:=p) fun x hx=>(hb x hx).1;have n1:(natL p).length=n:=by simpa using hpl
  have n2:∀ x∈natL p,x<n:=fun x hx=>by
   obtain ⟨y,hy,rfl⟩:=List.mem_map.1 hx;have:=hb y hy;omega
  rw [zF,F72.au,<- hz];refine kV n1 n1 hn1 (by omega) n2 n2 _ _ _ _ ?_;rintro _ rfl _;rw [hz];refine H3.zx (l:=[encI (sqP n p).1,.bool false]) rfl fun tb h15 nx15 H15 => ?_;rw [tq];refine H15.appN (k:=1) (o:=o) (c:=1) (esz:=2) (new:=[encI (sqP n p).1,.bool false]) rfl (jl.rd (l:=[encI (sqP n p).1,.bool false]) (n:=1) (e:=2) (H15.own _ (Zag ..)) rfl) rfl rfl (by decide) (by decide) (by omega) fun o'' h16 nx16 _ H16 => ?_;rw [F72.rC,qx (by omega)];refine hR (oN n-(k+1)) _ _ _ _ _ _ _ (by omega) ⟨k+1,o'',rfl,by rw [hsn,Zap];rfl,rfl,by omega,L3,?_⟩;rw [hsn,zcn,Zap];exact H16.drop
theorem zcv {n i:Nat} (h:i<n):(List.range n).getD i 0=i:=by
 rw [Zac,List.getElem?_range h];rfl
theorem zxy {n c:Nat} {mv mv':Nat->Nat->Nat×Nat} (hc:c<n*n) (h:((sqM n mv,false):Sym)=(sqM n mv',false)):sqV n mv c=sqV n mv' c:=by
 have e:sqM n mv=sqM n mv':=congrArg Prod.fst h;have h1:(sqM n mv)[c]? = some (sqV n mv c):=by rw [sqM,List.getElem?_map,List.getElem?_range hc];rfl
 have h2:(sqM n mv')[c]? = some (sqV n mv' c):=by rw [sqM,List.getElem?_map,List.getElem?_range hc];rfl
 rw [e,h2] at h1;exact (Option.some.inj h1).symm
theorem zjw {n i j:Nat} {mv:Nat->Nat->Nat×Nat} (hj:j<n):sqV n mv (n*i+j)=((n*(mv i j).1+(mv i j).2:Nat):Int):=by
 unfold sqV;have d1:(n*i+j) / n=i:=by rw [Nat.mul_add_div (by omega),Nat.div_eq_of_lt hj];omega
 have d2:(n*i+j)%n=j:=by rw [Nat.mul_add_mod,Zcb hj]
 rw [d1,d2]
 push_cast
 rfl
theorem cell_lt {n i j:Nat} (hi:i<n) (hj:j<n):n*i+j<n*n:=by
 have h1:n*(i+1)<=n*n:=Zcf n (by omega);have h2:n*(i+1)=n*i+n:=Nat.mul_succ n i;omega
theorem bJ {n i j:Nat} {mv mv':Nat->Nat->Nat×Nat} (hi:i<n) (hj:j<n) (h:((sqM n mv,false):Sym)=(sqM n mv',false)):n*(mv i j).1+(mv i j).2=n*(mv' i j).1+(mv' i j).2:=by
 have:=zxy (cell_lt hi hj) h;rw [zjw hj,zjw hj] at this;omega
theorem zlv {n:Nat} (hn:2<=n):(dihL n).Nodup:=by
 have key:∀ k k',k<8->k'<8->k≠k'->dS n k≠dS n k':=fun k k' hk hk' hne e=>by
  have e0:=bJ (i:=0) (j:=0) (by omega) (by omega) e;have e1:=bJ (i:=0) (j:=1) (by omega) (by omega) e;obtain ⟨A,hA⟩:∃ A,A=n*(n-1):=⟨_,rfl⟩;have hA2:n*(n-1-1)+n=A:=by
   have:=Nat.mul_succ n (n-1-1);rw [show (n-1-1).succ=n-1 by omega] at this;omega
  have hAn:n<=A:=by rw [hA];exact Nat.le_mul_of_pos_right n (by omega)
  rcases (by omega:k=0\/k=1\/k=2\/k=3\/k=4\/k=5\/k=6\/k=7) with rfl | rfl | rfl | rfl | rfl | rfl | rfl | rfl <;>
  rcases (by omega:k'=0\/k'=1\/k'=2\/k'=3\/k'=4\/k'=5\/k'=6\/k'=7) with rfl | rfl | rfl | rfl | rfl | rfl | rfl | rfl <;>
  first
  | exact hne rfl
  |(simp [mvD,<- hA] at e0 e1
    omega)
 rw [List.Nodup,Zbf];refine (List.Pairwise.and_mem.1 List.pairwise_lt_range).imp ?_;rintro a b ⟨ha,hb,hab⟩;exact key a b (List.mem_range.1 ha) (List.mem_range.1 hb) (by omega)
theorem zin {n:Nat}:∀ a b a' b',a<n->b<n->a'<n->b'<n->tS n a b=tS n a' b'->a=a'/\b=b':=fun a b a' b' ha hb ha' hb' e=>by
 have e0:=bJ (i:=0) (j:=0) (by omega) (by omega) e;simp only [mvT,Zay,Zcb ha,Zcb hb,Zcb ha',Zcb hb'] at e0;have d1:(n*a+b) / n=a:=by rw [Nat.mul_add_div (by omega),Nat.div_eq_of_lt hb];omega
 have d2:(n*a'+b') / n=a':=by rw [Nat.mul_add_div (by omega),Nat.div_eq_of_lt hb'];omega
 have h1:a=a':=by rw [<- d1,<- d2,e0]
 subst h1;exact ⟨rfl,by omega⟩
theorem zgw (n:Nat):(shL n n).Nodup:=by
 unfold shL;refine zjs (S:=fun a b=>a<n/\b<n/\a<b) ((List.Pairwise.and_mem.1 List.pairwise_lt_range).imp fun {a b} h=>⟨List.mem_range.1 h.1,List.mem_range.1 h.2.1,h.2.2⟩) (fun a ha => ?_) fun a _ b _ hab x hx y hy e => ?_
 ·rw [Zbf];refine (List.Pairwise.and_mem.1 List.pairwise_lt_range).imp ?_;rintro b c ⟨hb,hc,hbc⟩ e;have:=(zin a b a c (List.mem_range.1 ha) (List.mem_range.1 hb) (List.mem_range.1 ha) (List.mem_range.1 hc) e).2;omega
 ·obtain ⟨c,hc,rfl⟩:=List.mem_map.1 hx;obtain ⟨d,hd,rfl⟩:=List.mem_map.1 hy;have:=(zin a c b d hab.1 (List.mem_range.1 hc) hab.2.1 (List.mem_range.1 hd) e).1;omega
theorem zpm {n:Nat}:∀ (r:Nat) (pre:List Nat),(∀ x∈pre,x<n)->∀ f∈rcZ n r pre,∀ x∈f,x<n
 | 0,pre,h,f,hf=>by rw [rcZ,Zaw] at hf;rw [hf];exact h
 | r+1,pre,h,f,hf=>by
  rw [rcZ,Zat] at hf;obtain ⟨x,hx,hf⟩:=hf;split at hf
  ·cases hf
  ·exact zpm r _ (fun y hy=>by
    rcases List.mem_append.1 hy with q | q
    ·exact h y q
    ·rw [List.mem_singleton.1 q];exact List.mem_range.1 hx) f hf
theorem ztj {n:Nat}:∀ s∈rcL n,DS (n*n) s:=fun s hs=>by
 obtain ⟨pre,hp,rfl⟩:=List.mem_map.1 hs;exact zew fun i j hi hj=>zpc (zpm _ _ (by simp) pre hp) hi hj
theorem zr7 {n:Nat} {a b:List Nat} (h:rcE n a=rcE n b):gB n a=gB n b:=by
 have hl:∀ c,(gB n c).length=n:=fun c=>by simp [gB]
 refine Zba fun i => ?_;by_cases hi:i<n
 ·have:=bJ (i:=i) (j:=i) hi hi h;simp only [mvQ] at this;have e:(gB n a).getD i 0=(gB n b).getD i 0:=by
   have h2:(n+1)*(gB n a).getD i 0=(n+1)*(gB n b).getD i 0:=by rw [Nat.succ_mul,Nat.succ_mul];exact this
   exact Nat.eq_of_mul_eq_mul_left (by omega) h2
  rw [Zac,Zac,List.getElem?_eq_getElem (by rw [hl];exact hi),List.getElem?_eq_getElem (by rw [hl];exact hi)] at e;rw [List.getElem?_eq_getElem (by rw [hl];exact hi),List.getElem?_eq_getElem (by rw [hl];exact hi)];exact congrArg some e
 ·rw [List.getElem?_eq_none (by rw [hl];omega),List.getElem?_eq_none (by rw [hl];omega)]
abbrev rcQ (n:Nat):List (List Nat):=(rcZ n ((n+1) / 2) []).map (gB n)
def pK:Nat->Nat
 | 0=>1
 | k+1=>pK k*2*(k+1)
theorem zpn:((List.range 9).all fun n=>eP ((rcQ (n+1)).map fun q=>(zI q,false))&&decide ((rcQ (n+1)).length=pK ((n+1) / 2)))=true:=by decide +kernel
theorem zpo {n:Nat} (h1:1<=n) (h9:n<=9):(rcQ n).Nodup/\(rcL n).length=pK (n / 2):=by
 have:=List.all_eq_true.1 zpn (n-1) (List.mem_range.2 (by omega));rw [show n-1+1=n by omega,Zad,decide_eq_true_eq] at this;obtain ⟨q1,q2⟩:=this;refine ⟨?_,by rw [<- q2];simp [rcL]⟩;have:=dX q1;exact (List.pairwise_map.1 this).imp fun {a b} h e=>h (by rw [e])
theorem zgx {n:Nat} (h1:1<=n) (h9:n<=9):(rcL n).Nodup:=by
 have:=(zpo h1 h9).1;unfold rcL;rw [List.Nodup,Zbf];exact (List.pairwise_map.1 this).imp fun {a b} h e=>h (zr7 e)
theorem zr8:((List.range 5).all fun n=>decide ((rcQ (n+1)).map zI=((kL (n+1) (n+1) []).take (oN (n+1))).filter mirB))=true:=by decide +kernel
theorem zu9 {n:Nat} (h1:1<=n) (h5:n<=5):rcL n=rcT n (oN n):=by
 have:=of_decide_eq_true (List.all_eq_true.1 zr8 (n-1) (List.mem_range.2 (by omega)));rw [show n-1+1=n by omega] at this;unfold rcT;rw [<- this,rcL,Zck,Zck];refine Zca fun pre _ => ?_;show (sqM n (mvQ (gB n pre)),false)=(sqM n (mvR (natL (zI (gB n pre))) (natL (zI (gB n pre))) false),false);have e:natL (zI (gB n pre))=gB n pre:=by
  unfold natL zI;rw [Zck]
  conv=>rhs;rw [<- List.map_id (gB n pre)]
  exact Zca fun x _=>rfl
 rw [e]
 rfl
theorem bD {n k:Nat} (hk:k<8):dS n k=sqR n (if k%2=1 then aN n else List.range n) (if k / 2%2=1 then aN n else List.range n) (decide (k / 4%2=1)):=by
 unfold dS sqR
 congr 1
 refine zdn fun i j hi hj => ?_;have b1:(aN n).getD i 0=n-1-i:=pN hi;have b2:(aN n).getD j 0=n-1-j:=pN hj;have r1:=zcv hi;have r2:=zcv hj;rw [Zac] at b1 b2 r1 r2;unfold mvD mvR;rcases (by omega:k=0\/k=1\/k=2\/k=3\/k=4\/k=5\/k=6\/k=7) with rfl | rfl | rfl | rfl | rfl | rfl | rfl | rfl <;> simp [b1,b2,r1,r2]
theorem zjx {n:Nat} (x:Sym):x∈dihL n↔x∈rdL n 2:=by
 have e:dihL n=[dS n 0,dS n 1,dS n 2,dS n 3,dS n 4,dS n 5,dS n 6,dS n 7]:=rfl;have e2:rdL n 2=rdH n false++rdH n true:=rfl;rw [e,e2];simp only [bD (show 0<8 by decide),bD (show 1<8 by decide),bD (show 2<8 by decide),bD (show 3<8 by decide),bD (show 4<8 by decide),bD (show 5<8 by decide),bD (show 6<8 by decide),bD (show 7<8 by decide)];simp [rdH];constructor
 ·rintro (h | h | h | h | h | h | h | h) <;> simp [h]
 ·rintro (h | h | h | h | h | h | h | h) <;> simp [h]
def dihD (n:Nat):List Sym:=if n=1 then [dS 1 0] else dihL n
theorem zgy {n:Nat} (x:Sym):x∈dihD n↔x∈rdL n 2:=by
 unfold dihD;by_cases c:n=1
 ·subst c;rw [if_pos rfl,<- zjx];have h:dihL 1=[dS 1 0,dS 1 0,dS 1 0,dS 1 0,dS 1 0,dS 1 0,dS 1 0,dS 1 0]:=by decide +kernel
  rw [h];simp
 ·rw [if_neg c];exact zjx x
theorem zpp {n:Nat} (h:n≠1):(dihD n).length=8:=by rw [dihD,if_neg h];simp
theorem zcw {D s:List Sym} {T:List Sym} (hp:s.Perm D) (hs:s.Pairwise fun a b=>fB a b<=0) (hD:D.Nodup) (hm:∀ x,x∈D↔x∈T):s=xQ T :=
 zb9 (zca ((hp.nodup_iff).2 hD) hs) (zll T) fun x=>by rw [zlm,<- hm x];exact hp.mem_iff
theorem zxz:Pure Tryz.prog B 66 [I 1] (· = .tup [jm [([0],false)],I 0]) :=
 jE (S:=fun _=>false) (J:=zf0) (fuel:=1000) (n:=60) zS mixed (fun _=>zcb) (by kernel_rfl) (by kernel_rfl)
theorem zgz {n:Nat} (hn1:1<=n) (hn:n<=16):(dihD n).Nodup/\Pure Tryz.prog B 66 [I n] (SetQ (dihD n)):=by
 by_cases c:n=1
 ·subst c;refine ⟨by rw [dihD,if_pos rfl];simp,?_⟩;intro p h nx K hK;refine zxz _ _ _ _ ?_;rintro _ rfl hf;refine hK _ ⟨[([0],false)],?_,by simp,rfl⟩ hf;rw [dihD,if_pos rfl,show dS 1 0=([0],false) by decide +kernel]
 ·have hd:=zlv (n:=n) (by omega);have e:dihD n=dihL n:=if_neg c;rw [e];exact ⟨hd,zij hn1 hn hd⟩
theorem zx0:pK 0=1/\pK 1=2/\pK 2=8/\pK 3=48/\pK 4=384/\pK 5=3840:=by decide
theorem zpq {k:Nat} (h:k<=5):pK k<=3840/\(pK k<=1536↔k<=4)/\1<=pK k:=by
 rcases (by omega:k=0\/k=1\/k=2\/k=3\/k=4\/k=5) with rfl | rfl | rfl | rfl | rfl | rfl <;> decide
theorem law10 {n:Int} (haw:∀ {B},Pure Tryz.prog B 18 [] (· = .bool true)):Pure Tryz.prog B 10 [I n] (· = .bool true):=by
 refine yL fun h nx K H0 hK=>zR zS yw 1000 fun hf => ?_;have awk:∀ (h:T Blk) (nx:Pa) (Z:Kw Prop),Z (.bool true) h nx=.ok True->(CS Tryz.prog B).fn 18 (.of 18) [] h nx Z=.ok True:=fun h nx Z hZ=>haw _ _ _ _ fun v hv _=>by rw [hv];exact hZ
 have ret:K (.bool true) h nx=.ok True:=hK _ _ _ _ _ H0 (zK rfl) rfl;rw [F10.go,F10.t48,zA,F10.wo,F10.t47,zA,F10.wu];by_cases hr:n<1\/16<n
 ·have e3:kM n=3:=if_pos hr;have e3':m9 n=3:=by rw [m9,e3];rfl
  refine zcu (by rw [e3];decide) _ _ _ _ ?_;rintro _ rfl _;rw [e3,yZ,jB,F10.t46,zA,F10.dw];refine zex (by rw [e3];decide) _ _ _ _ ?_;rintro _ rfl _;rw [e3,yZ,jB,F10.t45,zA,F10.rF];refine pH (by rw [e3'];decide) _ _ _ _ ?_;rintro _ rfl _;rw [e3',yZ,jB,F10.t44,zA,F10.t8,zA,F10.t4_s,xq];have rest:∀ (x8 x9 x11 x12 x13 x14:AV),IR.run F10.t6 (CS Tryz.prog B) 1000 (fnO F10.res K) (IR.run F10.t43 (CS Tryz.prog B) 1000 (fnO F10.res K) (jv F10.res K)) (F10.fr (I n) (.bool false) .zf (I 3) .zf (I 3) .zf (I 3) x8 x9 (.bool true) x11 x12 x13 x14) h nx=.ok True:=by
   intro x8 x9 x11 x12 x13 x14;rw [F10.t6,zA,F10.t5_s,F10.r5_0,F10.zax]
   (refine pD (by decide) _ _ _ _ ?_;rintro _ rfl _)
   rw [F10.r5_1,F10.zao];simp only [gF,xR]
   (refine pD (by decide) _ _ _ _ ?_;rintro _ rfl _)
   rw [F10.r5_2,F10.zaq];simp only [gF,yK,xR]
   (refine pD (by decide) _ _ _ _ ?_;rintro _ rfl _)
   rw [F10.r5_3,F10.zg0];simp only [yK,xR];refine awk _ _ _ ?_;rw [F10.r5_4,F10.zg1];simp only [yK];simp only [zV,yN];rw [F10.ret];exact ret
  by_cases c:n<1
  ·rw [decide_eq_true c];simp only [uF,yK];rw [F10.t7,zC,F10.v10,zF];exact rest ..
  ·rw [decide_eq_false c];simp only [gG,tK,yR,decide_eq_true (show (16:Int)<n by omega)];rw [F10.t7,zC,F10.v10,zF];exact rest ..
 obtain ⟨k,rfl⟩:∃ k:Nat,n=(k:Int):=⟨n.toNat,by omega⟩;have hn1:1<=k:=by omega
 have hn:k<=16:=by omega
 have hkk:k*k<=256:=Zbu hn hn;have ekk:(k:Int)*(k:Int)=((k*k:Nat):Int):=(Int.natCast_mul k k).symm;obtain ⟨hd1,hd2⟩:=zgz (B:=B) hn1 hn;refine hd2 _ _ _ _ ?_;rintro _ ⟨s1,p1,o1,rfl⟩ _;have hl2:=bK k k;rw [yZ,jB,F10.t46,zA,F10.dw];refine zpb hn1 hn zin (zgw k) hl2 _ _ _ _ ?_;rintro _ ⟨s2,p2,o2,rfl⟩ _;have l2:s2.length=k*k:=by rw [p2.length_eq,hl2]
 rw [yZ,jB,F10.t45,zA,F10.rF];have row:∀ (Kk:Kw Prop),(∀ (rv:AV) (re:Int),((10<=k/\rv=.zf/\re=5)\/(k<=9/\re=0/\∃ s3:List Sym,s3.Perm (rcL k)/\s3.Pairwise (fun a b=>fB a b<=0)/\rv=jm s3))->Kk (.tup [rv,I re]) h nx=.ok True)->(CS Tryz.prog B).fn 68 (.of 68) [I k] h nx Kk=.ok True:=fun Kk hKk=>by
  by_cases c:10<=k
  ·have e3:m9 k=5:=by rw [m9,zjr hn1 hn,if_neg (fun q=>q rfl),if_pos (by omega)]
   refine pH (by rw [e3];decide) _ _ _ _ ?_;rintro _ rfl _;rw [e3];exact hKk _ _ (.inl ⟨c,rfl,rfl⟩)
  ·have hp:=zpq (k:=k / 2) (by omega);have hl:=(zpo hn1 (show k<=9 by omega)).2;refine zpf hn1 (by omega) (zgx hn1 (by omega)) ztj (by rw [hl];exact ⟨hp.2.2,by have:=hp.2.1.2 (by omega);omega⟩) _ _ _ _ ?_;rintro _ ⟨s3,q1,q2,rfl⟩ _;exact hKk _ _ (.inr ⟨by omega,rfl,s3,q1,q2,rfl⟩)
 refine row _ fun rv re hre => ?_;rw [yZ,jB,F10.t44,zA,F10.t8,zA,F10.t4_s,xq,decide_eq_false (by omega)];simp only [gG,tK,yR,decide_eq_false (show ¬ (16:Int)<(k:Int) by omega)];rw [F10.t7,zC,F10.v10,zG,zN,F10.t43,zA,F10.au,F10.t42,zA,F10.t21,zA,F10.fG,F10.t20,zH];refine F10.zl0 (fun m x8 x9 h' nx'=>∃ j:Nat,x9=I ((j+1:Nat):Int)/\x8=I ((pK j:Nat):Int)/\8-j=m/\j<=k / 2/\j<=5/\h'=h/\nx'=nx) (m:=8) (by omega) ⟨0,rfl,rfl,by omega,by omega,by omega,rfl,rfl⟩ ?_;rintro m z8 z9 z11 h3 nx3 R ⟨j,rfl,rfl,rfl,hj1,hj2,rfl,rfl⟩ hR;obtain ⟨pk1,pk2,pk3⟩:=zpq hj2;have behind:∀ (x11:AV),((j=5/\10<=k)\/(j=k / 2/\k<=9))->IR.run F10.t41 (CS Tryz.prog B) 1000 (fnO F10.res K) (jv F10.res K) (F10.fr (I k) (.bool false) (jm s1) (I 0) (jm s2) (I 0) rv (I re) (I ((pK j:Nat):Int)) (I ((j+1:Nat):Int)) (.bool false) x11 (.bool false) (.bool false) (.bool false)) h3 nx3=.ok True:=by
  intro x11 hj;rw [F10.t41,zA,F10.t26,zA,F10.zah,tK];rcases hj with ⟨rfl,hk10⟩ | ⟨rfl,hk9⟩
  ·rcases hre with ⟨_,rfl,rfl⟩ | ⟨q,_⟩
   case inr=>omega
   rw [decide_eq_true (by rw [zx0.2.2.2.2.2];omega),F10.t25,zC,F10.v12,zF,F10.t24,zA,F10.zl4,F10.zl8,F10.zpr]
   (refine pD (by decide) _ _ _ _ ?_;rintro _ rfl _)
   rw [F10.zsc,F10.zps];simp only [gF,sO,decide_true,yK];rw [F10.zsb,F10.zpt];simp only [gF,zP];rw [aV (by rw [ekk];omega),ekk,sO,decide_eq_true (by rw [l2]),yK,F10.zsa,F10.zpu];simp only [xR];refine awk _ _ _ ?_;rw [F10.zr9,F10.zpv];simp only [yK];simp only [zV,yN];rw [F10.ret];exact ret
  ·rcases hre with ⟨q,_⟩ | ⟨_,rfl,s3,p3,o3,rfl⟩
   ·omega
   have l3:s3.length=pK (k / 2):=by rw [p3.length_eq,(zpo hn1 hk9).2]
   have:pK (k / 2)<=1536:=pk2.2 (by omega);rw [decide_eq_false (by omega),F10.t25,zC,F10.v12,zG,zN,F10.t40,zA,F10.t31,zA,F10.zl6,F10.zl9,F10.zpw];simp only [mg,decide_true,Zaj,gG,yR];rw [F10.zse,F10.zpx];simp only [mg,decide_true,Zaj,gG,yR,zP,l3];rw [F10.zsd,F10.zpy];simp only [gG,zP];rw [aV (by rw [ekk];omega),ekk,mg,l2,decide_eq_true rfl,Zaj,yR,F10.t30,zC,F10.v13,zG,zN,F10.t39,zA,F10.t36,zA,F10.zvw,tK];by_cases c5:5<k
   ·have l1:s1.length=8:=by rw [p1.length_eq,zpp (by omega)]
    rw [decide_eq_true (by omega),F10.t35,zC,F10.v14,zF,F10.t34,zA,F10.zl7,zP,sO,l1,decide_eq_true (by decide)];simp only [xR];refine awk _ _ _ ?_;simp only [yK];simp only [zV,yN];rw [F10.ret];exact ret
   have e1:s1=xQ (rdL k 2):=zcw p1 o1 hd1 zgy;have e2:s2=xQ (shL k k):=zcw p2 o2 (zgw k) fun _=>Iff.rfl;have e3:s3=xQ (rcT k (oN k)):=by
    rw [<- zu9 hn1 (by omega)];exact zcw p3 o3 (zgx hn1 hk9) fun _=>Iff.rfl
   have w1:∀ g∈s1,g.1.length<=1000000:=fun g hg=>zti hn g ((zgy g).1 (p1.mem_iff.1 hg));have w2:∀ g∈s2,g.1.length<=1000000:=fun g hg=>by
    obtain ⟨a',h1,h2⟩:=List.mem_flatMap.1 (p2.mem_iff.1 hg);obtain ⟨b',h3,rfl⟩:=List.mem_map.1 h2;exact tS_w hn
   have w3:∀ g∈s3,g.1.length<=1000000:=fun g hg=>by have:=(ztj g (p3.mem_iff.1 hg)).1;omega
   have k1:s1.length<=1000000:=by
    have:=p1.length_eq;have:(dihD k).length<=8:=by unfold dihD;split <;> simp
    omega
   rw [decide_eq_false (by omega),F10.t35,zC,F10.v14,zG,zN,F10.t38,zA,F10.zvx,F10.zma,F10.zpz]
   (refine zpj hn1 hn _ _ _ _ ?_;rintro _ rfl _)
   rw [<- e1,F10.zsl,F10.zp0]
   (refine dU k1 w1 _ _ _ _ ?_;rintro _ rfl _)
   rw [F10.zsk,F10.zp1];simp only [gF,xR]
   (refine zgu hn1 hn _ _ _ _ ?_;rintro _ rfl _)
   rw [<- e2,F10.zsj,F10.zp2];simp only [xR]
   (refine dU (by omega) w2 _ _ _ _ ?_;rintro _ rfl _)
   rw [F10.zsi,F10.zp3];simp only [yK,gF,xR]
   (refine zpl hn1 (by omega) _ _ _ _ ?_;rintro _ rfl _)
   rw [<- e3,F10.zsh,F10.zp4];simp only [xR]
   (refine dU (by omega) w3 _ _ _ _ ?_;rintro _ rfl _)
   rw [F10.zsg,F10.zp5];simp only [yK,xR];refine awk _ _ _ ?_;rw [F10.zsf,F10.zp6];simp only [yK];simp only [zV,yN];rw [F10.ret];exact ret
 rw [F10.t18,zA,F10.t13,zA,F10.zaj,show (I 2:AV)=I ((2:Nat):Int) from rfl,zev (by omega) (by decide),sLeq];by_cases c1:j+1<=k / 2
 ·rw [decide_eq_true (by omega)];simp only [gF,sLeq,yK];by_cases c2:j<=4
  ·have hp:=pk2.2 c2;have hp1:=(zpq (k:=j+1) (by omega)).1;have e1:((pK j:Nat):Int)*((2:Nat):Int)=((pK j*2:Nat):Int):=(Int.natCast_mul _ _).symm;have e2:((pK j*2:Nat):Int)*((j+1:Nat):Int)=((pK (j+1):Nat):Int):=(Int.natCast_mul _ _).symm;rw [decide_eq_true (by omega),F10.t12,zC,F10.v11,zF,zN,F10.t17,zA,F10.t15,zH,F10.rC,show (I 2:AV)=I ((2:Nat):Int) from rfl,aV (by rw [e1];omega),e1,aV (by rw [e2];omega),e2,F10.sQ,qx (by omega)];exact hR (8-(j+1)) _ _ _ _ _ (by omega) ⟨j+1,rfl,rfl,rfl,c1,by omega,rfl,rfl⟩
  ·have:¬ pK j<=1536:=fun q=>c2 (pk2.1 q);rw [decide_eq_false (by omega),F10.t12,zC,F10.v11,zG,yG,yU];exact behind _ (.inl ⟨by omega,by omega⟩)
 ·rw [decide_eq_false (by omega)];simp only [uZ,yR];rw [F10.t12,zC,F10.v11,zG,yG,yU];exact behind _ (by omega)
end Go.Ev
