import Derived.Test.YtkjkjpmahgeneaaGreatDoorWordsa
import Derived.Test.YtkjkjpmahgeneaaGreatDoorCodea
import Derived.Test.YtkjkjpmahgeneaaGreatDoorEvD
import Derived.Test.YtkjkjpmahgeneaaGreatDoorLaws
import Derived.Shelf.SlSortCmp.Whole1
import Derived.Deep.Slices
import Derived.Sort.Grow
import Derived.Sort.Row
import GoSem.Core.Next
import Derived.IntWalk
import Derived.Test.YtkjkjpmahgeneaaGreatDoorIrT
import Derived.KernelRfl
import Derived.Test.YtkjkjpmahgeneaaGreatDoorCodeb
set_option linter.unusedSimpArgs false
set_option linter.unusedVariables false
noncomputable section
namespace Go.Ev
theorem zcr {a b:Sym} (h:rV a b=true):rV b a=false:=by
 cases c:rV b a with
 | false=>rfl
 | true=>have:=zci h c;rw [wD] at this;cases this
def jL (S:List Sym) (a:Sym):Bool:=S.all fun b => !rV (zN a b) a
def oM (G S:List Sym):List Sym:=G.filter (jL S)
def o7 (C S:List Sym):List Sym:=C.flatMap fun a=>S.map (zN a)
theorem aO {C S:List Sym} {x:Sym}:x∈o7 C S↔∃ a∈C,∃ b∈S,zN a b=x:=by
 simp [o7]
section
variable {G S:List Sym} {n:Nat}
theorem pq.inv2 (hS:pq S n) {b:Sym} (hb:b∈S):∃ c∈S,∀ a,DP n a->zN (zN a b) c=a:=by
 obtain ⟨c,hc,e⟩:=hS.inv b hb;exact ⟨c,hc,fun a ha=>by rw [(jE n).assoc a b c ha (hS.dp b hb) (hS.dp c hc),e,(jE n).er a ha]⟩
theorem wC (hS:pq S n) {a x b:Sym} (ha:DP n a) (hb:b∈S) (e:zN a b=x):∃ c∈S,zN x c=a:=by
 obtain ⟨c,hc,q⟩:=hS.inv2 hb;exact ⟨c,hc,by rw [<- e];exact q a ha⟩
theorem zcs (hS:pq S n) {a x b c:Sym} (ha:DP n a) (hb:b∈S) (hc:c∈S) (e:zN a b=x):zN x c=zN a (zN b c)/\zN b c∈S :=
 ⟨by rw [<- e,(jE n).assoc a b c ha (hS.dp b hb) (hS.dp c hc)],hS.cl b hb c hc⟩
theorem zi4 (hG:pq G n) {i j:Nat} {a b:Sym} (hi:G[i]? = some a) (hj:G[j]? = some b) (h:i<j):rV a b=true:=by
 obtain ⟨hi1,rfl⟩:=List.getElem?_eq_some_iff.1 hi;obtain ⟨hj1,rfl⟩:=List.getElem?_eq_some_iff.1 hj;exact List.pairwise_iff_getElem.1 (pM hG.ord) i j hi1 hj1 h
theorem zsi (hG:pq G n) {i j:Nat} {a b:Sym} (hi:G[i]? = some a) (hj:G[j]? = some b) (h:rV a b=true):i<j:=by
 rcases Nat.lt_trichotomy i j with q | rfl | q
 ·exact q
 ·rw [hi] at hj;cases hj;rw [wD] at h;cases h
 ·have:=zi4 hG hj hi q;rw [zcr this] at h;cases h
theorem bK (hG:pq G n) (hS:pq S n) (hs:∀ a∈S,a∈G) {i:Nat} {a:Sym} (hi:G[i]? = some a):∃ (j:Nat) (m:Sym),j<=i/\G[j]? = some m/\jL S m=true/\(∃ b∈S,zN a b=m)/\∀ k x,G[k]? = some x->(∃ b∈S,zN a b=x)->j<=k:=by
  have haG:=Zaa hi;have hda:=hG.dp a haG;have hex:∃ (k:Nat) (x:Sym),G[k]? = some x/\∃ b∈S,zN a b=x:=⟨i,a,hi,idS n,hS.one,(jE n).er a hda⟩;have key:∀ N:Nat,(∃ (k:Nat) (x:Sym),k<=N/\G[k]? = some x/\∃ b∈S,zN a b=x)->∃ (j:Nat) (m:Sym),G[j]? = some m/\(∃ b∈S,zN a b=m)/\∀ (k:Nat) (x:Sym),G[k]? = some x->(∃ b∈S,zN a b=x)->j<=k:=by
    intro N
    induction N with
    | zero=>rintro ⟨k,x,hk,hx,hb⟩;obtain rfl:k=0:=by omega
            exact ⟨0,x,hx,hb,fun _ _ _ _=>Nat.zero_le _⟩
    | succ N ih =>
      rintro ⟨k,x,hk,hx,hb⟩;by_cases c:∃ (k:Nat) (x:Sym),k<=N/\G[k]? = some x/\∃ b∈S,zN a b=x
      · exact ih c
      · have hkN:k=N+1:=by
          rcases Nat.lt_or_ge k (N+1) with q | q
          · exact absurd ⟨k,x,by omega,hx,hb⟩ c
          · omega
        subst hkN;refine ⟨_,x,hx,hb,fun k' x' hk' hb' => ?_⟩;rcases Nat.lt_or_ge k' (N+1) with q | q
        · exact absurd ⟨k',x',by omega,hk',hb'⟩ c
        · exact q
  obtain ⟨k0,x0,h1,h2⟩:=hex;obtain ⟨j,m,hj,hm,hmin⟩:=key k0 ⟨k0,x0,Zai _,h1,h2⟩;refine ⟨j,m,hmin i a hi ⟨idS n,hS.one,(jE n).er a hda⟩,hj,List.all_eq_true.2 fun b hb => ?_,hm,hmin⟩;obtain ⟨c,hc,e⟩:=hm;obtain ⟨e2,hcb⟩:=zcs hS hda hc hb e;have hin:zN m b∈G:=hG.cl m (Zaa hj) b (hs b hb);obtain ⟨k,hk⟩:=List.getElem?_of_mem hin;have hle:=hmin k _ hk ⟨_,hcb,e2.symm⟩;cases q:rV (zN m b) m with
  | false=>rfl
  | true=>have:=zsi hG hk hj q;omega
theorem zi5 (hG:pq G n) (hS:pq S n) (hs:∀ a∈S,a∈G) {i:Nat} {a:Sym} (hi:G[i]? = some a):a∈o7 ((G.take i).filter (jL S)) S↔jL S a=false:=by
 rw [aO];have hda:=hG.dp a (Zaa hi);constructor
 ·rintro ⟨m,hm,b,hb,e⟩;obtain ⟨hm1,hm2⟩:=List.mem_filter.1 hm;obtain ⟨j,hj⟩:=List.getElem?_of_mem hm1;have hjl:=(List.getElem?_eq_some_iff.1 hj).1;rw [Zay] at hjl;rw [List.getElem?_take_of_lt (by omega)] at hj;have hlt:=zi4 hG hj hi (by omega);obtain ⟨c,hc,e2⟩:=wC hS (hG.dp m (Zaa hj)) hb e;cases q:jL S a with
  | false=>rfl
  | true =>
   have:=List.all_eq_true.1 q c hc;rw [e2,hlt] at this;cases this
 ·intro hl;obtain ⟨j,m,hj1,hj,hm,⟨b,hb,e⟩,_⟩:=bK hG hS hs hi;have hne:j≠i:=by
   rintro rfl;rw [hi] at hj;cases hj;rw [hm] at hl;cases hl
  refine ⟨m,List.mem_filter.2 ⟨?_,hm⟩,wC hS hda hb e⟩;exact Zaa (i:=j) (by rw [List.getElem?_take_of_lt (by omega)];exact hj)
theorem zl2 (hG:pq G n) (hS:pq S n) {C:List Sym} (hC:∀ m∈C,m∈G) {a b:Sym} (ha:a∈G) (hb:b∈S) (hn:a∉o7 C S):zN a b∉o7 C S:=by
 intro h;obtain ⟨m,hm,c,hc,e⟩:=aO.1 h;obtain ⟨d,hd,q⟩:=hS.inv2 hb;have hdm:=hG.dp m (hC m hm);refine hn (aO.2 ⟨m,hm,zN c d,hS.cl c hc d hd,?_⟩);rw [<- (jE n).assoc m c d hdm (hS.dp c hc) (hS.dp d hd),e];exact q a (hG.dp a ha)
theorem zd1 (hS:pq S n) {a b c:Sym} (ha:DP n a) (hb:b∈S) (hc:c∈S) (e:zN a b=zN a c):b=c:=(jE n).cl a b c ha (hS.dp b hb) (hS.dp c hc) e
end
end Go.Ev
namespace Go.Ev
open Go Go.Proofs
variable {B:Nat}
set_option maxRecDepth 100000
theorem zl3 {h0 h:T Blk} {nx p:Pa} {L:List Ob} {f:List Int} {K:Kw Prop} (hf:0<f.length) (hl:f.length<=1000) (H:Hp h0 h nx L)
  (hK:∀ id cap h' nx',vT f.length cap->Hp h0 h' nx' (.arr id (f.map I)::L)->K (.sl id 0 f.length cap 1) h' nx'=.ok True):(CS Tryz.prog B).fn 106 p [encI f] h nx K=.ok True:=by
 refine gH (p:=.of 106) (K:=K) (zR zW yw 9 fun hf => ?_) fun _ _ _ _ q=>q;cases f with
 | nil=>simp at hf
 | cons x t =>
  rw [eU.go];have e:∀ A C:OP,(zx .eql (.nil .sl) (encI (x::t)) .zf fun v1=>yD v1 A C)=C:=fun A C=>nr rfl;rw [e];exact H.zpp (new:=(x::t).map I) (c:=(x::t).length) (fun e h1 n1 H1=>zyt 1) (by simp) (List.all_eq_true.2 fun v hv=>by obtain ⟨z,_,rfl⟩:=List.mem_map.1 hv;rfl) (by decide) (by omega) hK
def zct (L:List Ob) (p:AV×Sym):Prop:=∃ rid cap,p.1=.sl rid 0 p.2.1.length cap 1/\vT p.2.1.length cap/\Ob.arr rid (p.2.1.map I)∈L
theorem zct.mono {L L':List Ob} {p:AV×Sym} (h:zct L p) (hl:∀ x∈L,x∈L'):zct L' p:=by
 obtain ⟨r,c,e,hc,m⟩:=h;exact ⟨r,c,e,hc,hl _ m⟩
theorem zsj {h0 h:T Blk} {nx:Pa} {L:List Ob} {id:Pa} {l:List Int} {cap:Option Nat} (H:Hp h0 h nx L) (hm:Ob.arr id (l.map I)∈L) (hc:vT l.length cap):Frz False (fun _=>True) (fun _=>False) h (.sl id 0 l.length cap 1) (encI l):=by
 obtain ⟨op,t,h1,h2⟩:=H.own _ hm;rw [Zaj] at h1 h2;refine .sl _ _ _ _ _ op _ t _ trivial hc h1 (by omega) (by simp) (List.all_eq_true.2 fun v hv=>by obtain ⟨z,_,rfl⟩:=List.mem_map.1 hv;rfl) fun i v hi => ?_;have hil:i<l.length:=by have:=(List.getElem?_eq_some_iff.1 hi).1;simpa using this
 have:=zY t 0 l.length i hil;rw [h2,hi] at this;rw [<- Option.some.inj this];obtain ⟨z,_,rfl⟩:=List.mem_map.1 (Zaa hi);exact .int _ _
theorem zvt {h0 h:T Blk} {nx:Pa} {L:List Ob} {k n:Nat} {o:Option Pa} {out:List (AV×Sym)} (H:Hp h0 h nx L) (hk:L[k]? = some (.gro o 2 n (yZ out))) (hr:∀ p∈out,zct L p):Frz False (fun _=>True) (fun _=>False) h (qp o 2 n) (jl (out.map (·.2))):=by
 have own:=H.own _ (Zaa hk);have hlen:=qM out;cases o with
 | none =>
  obtain ⟨e,rfl⟩:=own;rw [e] at hlen;obtain rfl:out=[]:=Zbd (by simp at hlen;omega);exact .zdi 2
 | some id =>
  obtain ⟨t,h1,h2,h3⟩:=own;have hn:n=(out.map (·.2)).length:=by rw [Zaj];omega
  subst hn;refine .sl _ _ _ _ _ true _ t _ trivial trivial h1 (by omega) (uR _) (List.all_eq_true.2 fun v hv=>rU.jk (zcq v hv)) fun i v hi => ?_;have hil:i<(out.map (·.2)).length*2:=by have:=(List.getElem?_eq_some_iff.1 hi).1;rwa [uR] at this
  have:=zY t 0 ((out.map (·.2)).length*2) i hil;rw [h3,xB] at this;rw [m0,List.getElem?_map] at hi;cases hq:out[i / 2]? with
  | none=>rw [hq] at hi;cases hi
  | some p =>
   rw [hq] at hi this;obtain ⟨rid,cap,e,hc,hm⟩:=hr p (Zaa hq);have hi:=Option.some.inj hi;have this:=Option.some.inj this;by_cases c:i%2=0
   ·simp only [if_pos c] at hi this;rw [<- this,<- hi,e];exact zsj H hm hc
   ·simp only [if_neg c] at hi this;rw [<- this,<- hi];exact .bool _
theorem zl4 {N:Pa->Prop} {O:AV->Prop} {A:Prop} {hh:T Blk} {a b a' b':AV} (h1:Frz A N O hh a a') (h2:Frz A N O hh b b'):Frz A N O hh (.tup [a,b]) (.tup [a',b']):=by
 refine .tup _ _ rfl fun i v v' hi hi' => ?_
 match i with
 | 0=>simp at hi hi';subst hi;subst hi';exact h1
 | 1=>simp at hi hi';subst hi;subst hi';exact h2
 | i+2=>simp at hi
theorem zll {G S:List Sym} {n:Int} (hG:G.length<=100000) (hw:∀ g∈G,g.1.length<=100000) (hS:S.length<=100000) (hw2:∀ g∈S,g.1.length<=100000) (hse0:subE G S n=0) (hn0:0<n):zjw Tryz.prog 39 [jl G,jl S,I n] (.tup [jl (oM G S),I 0]):=by
 intro B K hK0;have hK:∀ v h' nx' L v',Hp .e h' nx' L->Frz False (fun _=>True) (fun _=>False) h' v v'->v'=.tup [jl (oM G S),I 0]->K v h' nx'=.ok True:=fun v h' nx' L v' _ hF e=>hK0 _ _ _ (e ▸ hF);refine zR zW yw 10000000 fun hf' => ?_;have H0:Hp .e .e .z []:=Hp.init hf';rw [F39.go,F39.t37,zA,F39.xq];refine H0.box (l:=[jl S]) rfl fun b3 h1 nx1 H1 => ?_;rw [F39.t36,zA,F39.t7,zA,F39.xu,H1.load (k:=0) (i:=0) rfl rfl];refine bD hG hw hS hw2 H1 (fun e h2 nx2 X he hne H2 => ?_) fun n' u1 q1 u2 q2 g o1 o2 h2 nx2 X hn ok1 ok2 hse _ _ _ _ _ _ _ _ hsub H2 => ?_
 ·rw [yY,jB,j3];refine H2.alloc fun b6 h3 nx3 H3 => ?_;refine H3.jo (k:=0) (n:=2) rfl rfl rfl fun h4 H4 => ?_;rw [hse0] at he;exact absurd he hne
 subst hn;have zaq:=ok1.n256;have H2:Hp .e h2 nx2 [.arr b3 [jl S]]:=Hp.pre (_::_::_::X) H2;rw [yY,jB,j3];refine H2.alloc fun b6 h3 nx3 H3 => ?_;refine H3.jo (k:=0) (n:=2) rfl rfl rfl fun h4 H4 => ?_;rw [F39.t6,zA,F39.fO,vw,decide_eq_true rfl,Zah,F39.t5,zG,F39.v12,zD,zO,F39.t35,zA,F39.eX];refine H4.tC fun gm h5 nx5 H5 => ?_;refine H5.alloc fun b7 h6 nx6 H6 => ?_;refine H6.store (k:=0) rfl (by simp) rfl fun h7 H7 => ?_;rw [F39.t34,zA,F39.t9_s];refine H7.alloc fun b8 h8 nx8 H8 => ?_;rw [F39.t33,zA,F39.t30,zA,F39.sN];refine bA _ _ _ _ ?_;rintro _ rfl _;rw [F39.t29,zP,F39.t28];have H9:=H8.oZ 2;have T:∃ T:List Ob,T=[.arr b6 [qp o1 2 u1.length,qp o2 2 u2.length],.arr b3 [jl S]]:=⟨_,rfl⟩;obtain ⟨T,hT⟩:=T;have hout:∀ i,((G.take i).filter (jL S)).length<=G.length:=fun i=>by
  have:=List.length_filter_le (jL S) (G.take i);rw [Zay] at this;omega
 refine zj8 H9 F39.zwe (fun v w k=>F39.zwf k) (by omega)
  (fun i L'=>∃ (o:Option Pa) (out:List (AV×Sym)) (rows:List Ob),out.map (·.2)=(G.take i).filter (jL S)/\(∀ p∈out,zct rows p)/\L'=.gro o 2 out.length (yZ out)::.arr b8 [qp o 2 out.length]::.arr b7 [.map gm]::.map gm (wu (o7 ((G.take i).filter (jL S)) S))::(T++rows))
  (fun _=>False) (fun _ _=>False) ⟨none,[],[],by simp,by simp,by subst hT;rfl⟩
  (fun i x Rb Rb' h10 nx10 L' M E O1 O2 hx hJ H10 hM hE hR hX => ?_) (fun h10 nx10 L' hJ H10 => ?_) (fun _ _ _ hX _=>hX.elim) (fun _ _ _ _ hX _=>hX.elim)
 case refine_2 =>
  obtain ⟨o,out,rows,ho,hr,rfl⟩:=hJ;rw [Zan (Zai _)] at H10 ho;rw [F39.t32,zA,F39.zfm,H10.load (k:=1) (i:=0) rfl rfl];simp only [zT,yL];rw [F39.ret];refine hK _ _ _ _ (.tup [jl (oM G S),I 0]) H10 (zl4 ?_ (.int _ _)) rfl;have:=zvt (k:=0) H10 rfl fun p hp=>(hr p hp).mono fun x hx=>by simp [hx]
  rw [ho] at this;exact this
 obtain ⟨o,out,rows,ho,hr,rfl⟩:=hJ;have hol:out.length=((G.take i).filter (jL S)).length:=by rw [<- ho,Zaj]
 have hxm:=Zaa hx;have hdx:=ok1.dp x hxm;have htake:G.take (i+1)=G.take i++[x]:=by rw [Zar,hx];rfl
 have hCm:∀ m∈(G.take i).filter (jL S),m∈G:=fun m hm=>List.mem_of_mem_take (List.mem_filter.1 hm).1;have hks:∀ b∈o7 ((G.take i).filter (jL S)) S,DS n' b:=fun b hb=>by
  obtain ⟨m,hm,c,hc,rfl⟩:=aO.1 hb;exact (ok1.dp _ (ok1.cl m (hCm m hm) c (hsub c hc))).1
 rw [F39.aZ];refine H10.alloc fun b9 h11 nx11 H11 => ?_;refine H11.jo (k:=0) (n:=2) rfl rfl rfl fun h12 H12 => ?_;refine hM _ _ _ [_] H12 fun h13 H13 => ?_;rw [F39.t27,zP,F39.t26,zA,F39.t14,zA,F39.zam,H13.load (k:=4) (i:=0) rfl rfl,H13.zh (k:=0) (n:=2) rfl rfl];refine zcg (a:=x) zaq hdx.1 hks H13 (k:=5) rfl ?_;rw [F39.t13,zG,F39.v16];have zt0:=zi5 ok1 ok2 hsub hx;by_cases c:x∈o7 ((G.take i).filter (jL S)) S
 ·rw [decide_eq_true c,zC,y8,j8];have hfl:(G.take (i+1)).filter (jL S)=(G.take i).filter (jL S):=by
   rw [htake,List.filter_append,List.filter_cons_of_neg (by rw [zt0.1 c];decide)];simp
  exact hE _ _ _ [_] _ ⟨o,out,rows,by rw [hfl];exact ho,hr,by rw [hfl]⟩ H13
 have hlx:jL S x=true:=by
  cases q:jL S x with
  | true=>rfl
  | false=>exact absurd (zt0.2 q) c
 have hfl:(G.take (i+1)).filter (jL S)=(G.take i).filter (jL S)++[x]:=by
  rw [htake,List.filter_append,List.filter_cons_of_pos hlx];rfl
 rw [decide_eq_false c,zD,zO,F39.t25,zA,F39.t23,zA,F39.zaj];subst hT;rw [H13.load (k:=7) (i:=0) rfl rfl];refine bA _ _ _ _ ?_;rintro _ rfl _;rw [F39.t22,zP,F39.t21]
 refine zj8 H13 F39.zwb (fun v w k=>F39.zwc k) (by omega)
  (fun k L'=>L'=.arr b9 [encI x.1,.bool x.2]::Rb'::.gro o 2 out.length (yZ out)::.arr b8 [qp o 2 out.length]::.arr b7 [.map gm]::.map gm (wu (o7 ((G.take i).filter (jL S)) S++(S.take k).map (zN x)))::([.arr b6 [qp o1 2 u1.length,qp o2 2 u2.length],.arr b3 [jl S]]++rows))
  (fun _=>False) (fun _ _=>False) (by simp)
  (fun k y Sb Sb' h14 nx14 L' M' E' O1' O2' hy hJ H14 hM' hE' hR' hX' => ?_) (fun h14 nx14 L' hJ H14 => ?_) (fun _ _ _ hX _=>hX.elim) (fun _ _ _ _ hX _=>hX.elim)
 ·subst hJ;have hym:=Zaa hy;have hdy:=ok2.dp y hym;have htk:S.take (k+1)=S.take k++[y]:=by rw [Zar,hy];rfl
  have hxy:DS n' (zN x y):=(ok1.dp _ (ok1.cl x hxm y (hsub y hym))).1;rw [F39.au];refine H14.alloc fun b10 h15 nx15 H15 => ?_;refine H15.jo (k:=0) (n:=2) rfl rfl rfl fun h16 H16 => ?_;refine hM' _ _ _ [_] H16 fun h17 H17 => ?_;rw [F39.t20,zP,F39.t19,zA,F39.oO,H17.zh (k:=2) (n:=2) rfl rfl,H17.zh (k:=0) (n:=2) rfl rfl];refine mF (a:=x) (b:=y) (fun z hz=>by rw [hdx.1.1];exact hdy.1.2 z hz) (by rw [hdy.1.1];omega) _ _ _ _ ?_;rintro _ rfl _;refine H17.alloc fun b11 h18 nx18 H18 => ?_;refine H18.jo (k:=0) (n:=2) rfl rfl rfl fun h19 H19 => ?_;rw [F39.zak,H19.load (k:=7) (i:=0) rfl rfl,H19.zh (k:=0) (n:=2) rfl rfl,H19.zh (k:=0) (n:=2) rfl rfl];refine zcf (a:=zN x y) (fun z hz=>by have:=hxy.2 z hz;omega) (by rw [hxy.1];omega) _ _ _ _ ?_;rintro _ rfl _;rw [H19.zh (k:=0) (n:=2) rfl rfl,zB,H19.load (k:=7) (i:=0) rfl rfl,zB];refine H19.putS (a:=zN x y) zaq hxy (fun b hb => ?_) (fun hin => ?_) (k:=8) rfl fun h20 H20 => ?_
  ·rcases List.mem_append.1 hb with q | q
   ·exact hks b q
   ·obtain ⟨z,hz,rfl⟩:=List.mem_map.1 q;exact (ok1.dp _ (ok1.cl x hxm z (hsub z (List.mem_of_mem_take hz)))).1
  ·rcases List.mem_append.1 hin with q | q
   ·exact zl2 ok1 ok2 hCm hxm hym c q
   ·obtain ⟨z,hz,e⟩:=List.mem_map.1 q;have:=zd1 ok2 hdx (List.mem_of_mem_take hz) hym e;subst this;obtain ⟨j,hj⟩:=List.getElem?_of_mem hz;have hjl:=(List.getElem?_eq_some_iff.1 hj).1;rw [Zay] at hjl;rw [List.getElem?_take_of_lt (by omega)] at hj;have:=zi4 ok2 hj hy (by omega);rw [wD] at this;cases this
  ·refine hE' _ _ _ [_,_] _ ?_ H20;rw [htk,Zbc,<- Zbp]
   rfl
 ·subst hJ;rw [Zan (Zai _)] at H14;rw [F39.zwd,H14.load (k:=3) (i:=0) rfl rfl,sFx,H14.load (k:=0) (i:=0+0) rfl rfl,sFx,H14.load (k:=0) (i:=0+1) rfl rfl];refine zl3 (f:=x.1) (by rw [hdx.1.1];omega) (by rw [hdx.1.1];omega) H14 fun rid cap h15 nx15 hcap H15 => ?_;rw [H15.load (k:=1) (i:=0+1) rfl rfl,zB,sFx,zB,H15.load (k:=4) (i:=0) rfl rfl,zB,pI rfl rfl];refine H15.zy (l:=[.sl rid 0 x.1.length cap 1,.bool x.2]) rfl fun tb h16 nx16 H16 => ?_;rw [H16.load (k:=5) (i:=0) rfl rfl,zB,zac];refine H16.appN (k:=4) (o:=o) (c:=1) (esz:=2) (new:=[.sl rid 0 x.1.length cap 1,.bool x.2]) rfl (ji.rd (l:=[.sl rid 0 x.1.length cap 1,.bool x.2]) (n:=1) (e:=2) (H16.own _ (Zal ..)) rfl) rfl rfl (by decide) (by decide) (by have:=hout i;omega) fun o'' h17 nx17 _ H17 => ?_;refine H17.store (k:=5) rfl (by simp) (uJ _ _ _) fun h18 H18 => ?_;have hp:Hp .e h18 nx17 ([.arr tb [.sl rid 0 x.1.length cap 1,.bool x.2],.arr b9 [encI x.1,.bool x.2]]++Rb'::(.gro o'' 2 (out.length+1) (yZ out++[.sl rid 0 x.1.length cap 1,.bool x.2])::.arr b8 [qp o'' 2 (out.length+1)]::.arr b7 [.map gm]::.map gm (wu (o7 ((G.take i).filter (jL S)) S++S.map (zN x)))::([.arr b6 [qp o1 2 u1.length,qp o2 2 u2.length],.arr b3 [jl S]]++(.arr rid (x.1.map I)::rows)))):=by
   refine H18.perm ?_;show List.Perm (_::_::_::_::_::_::_::_::_::_::rows) (_::_::_::_::_::_::_::_::_::_::rows);exact .cons _ (Zbr (l₁:=[_,_,_,_,_,_,_,_]) (a:=Ob.arr rid (x.1.map I)) (l₂:=rows)).symm
  refine hE _ _ _ [_,_] _ ⟨o'',out++[(.sl rid 0 x.1.length cap 1,x)],.arr rid (x.1.map I)::rows,?_,?_,?_⟩ hp
  ·rw [Zbc,ho,hfl];rfl
  ·intro p hp;rcases List.mem_append.1 hp with q | q
   ·exact (hr p q).mono fun z hz=>Zao _ hz
   ·obtain rfl:=List.mem_singleton.1 q;exact ⟨rid,cap,rfl,hcap,Zal ..⟩
  ·rw [hfl];have e1:o7 ((G.take i).filter (jL S)++[x]) S=o7 ((G.take i).filter (jL S)) S++S.map (zN x):=by simp [o7]
   have e2:yZ (out++[(.sl rid 0 x.1.length cap 1,x)])=yZ out++[.sl rid 0 x.1.length cap 1,.bool x.2]:=by unfold yZ;rw [List.flatMap_append];rfl
   rw [e1,e2,Zas]
   subst_vars
   rfl
end Go.Ev
namespace Go.Ev
theorem zd2 {α:Type} [DecidableEq α]:∀ (l r:List α),l.Nodup->(∀ x∈l,x∈r)->∃ s,r.Perm (l++s)
 | [],r,_,_=>⟨r,.refl _⟩
 | a::l,r,hn,hs=>by
  obtain ⟨h1,h2⟩:=List.nodup_cons.1 hn;have ha:=hs a (by simp);obtain ⟨s,hp⟩:=zd2 l (r.erase a) h2 fun x hx=>(List.mem_erase_of_ne (by rintro rfl;exact h1 hx)).2 (hs x (by simp [hx]));exact ⟨s,(List.perm_cons_erase ha).trans (.cons a hp)⟩
theorem zhd {α:Type} [DecidableEq α] {l r:List α} (h1:l.Nodup) (h2:∀ x∈l,x∈r) (h3:r.length<=l.length):r.Perm l:=by
 obtain ⟨s,hs⟩:=zd2 l r h1 h2;have hl:=hs.length_eq;obtain rfl:s=[]:=Zbd (by rw [Zas] at hl;omega);simpa using hs
theorem zd3 {α:Type} {l:List α} (h:l.Nodup) {i j:Nat} {x:α} (hi:l[i]? = some x) (hj:l[j]? = some x):i=j:=by
 obtain ⟨a1,a2⟩:=List.getElem?_eq_some_iff.1 hi;obtain ⟨b1,b2⟩:=List.getElem?_eq_some_iff.1 hj;have hp:=List.pairwise_iff_getElem.1 h;rcases Nat.lt_trichotomy i j with c | c | c
 ·exact absurd (a2.trans b2.symm) (hp i j a1 b1 c)
 ·exact c
 ·exact absurd (b2.trans a2.symm) (hp j i b1 a1 c)
theorem getD_some {l:List Int} {i:Nat} (h:i<l.length):l[i]? = some (l.getD i 0):=by
 rw [Zac,List.getElem?_eq_getElem h];rfl
theorem fM.surj {g:List Int} (h:fM g) {j:Nat} (hj:j<g.length):∃ i,i<g.length/\g[i]? = some (j:Int):=by
 have hp:((List.range g.length).map fun (i:Nat)=>(i:Int)).Perm g:=zhd h.1 (fun x hx=>by
  have:=h.2 x hx;exact List.mem_map.2 ⟨x.toNat,List.mem_range.2 (by omega),by omega⟩) (by simp)
 have hm:(j:Int)∈g:=hp.mem_iff.1 (List.mem_map.2 ⟨j,List.mem_range.2 hj,rfl⟩);obtain ⟨i,hi⟩:=List.mem_iff_getElem?.1 hm;exact ⟨i,(List.getElem?_eq_some_iff.1 hi).1,hi⟩
theorem zcu {n:Nat} {c:Bool} {g f:List Int} (hg:fM g) (hgn:g.length=n):∀ (i k:Nat),i<=n->k<i->(kA n c g f i)[(g.getD k 0).toNat]? = some (xOf n c (f.getD k 0))
 | 0,k,_,h=>by omega
 | i+1,k,hi,h=>by
  rw [qA];have hk:=hg.2 _ (Zaa (getD_some (l:=g) (i:=k) (by omega)));have hi':=hg.2 _ (Zaa (getD_some (l:=g) (i:=i) (by omega)));by_cases e:k=i
  ·subst e;rw [List.getElem?_set,if_pos rfl,if_pos (by rw [jV];omega)]
  ·rw [List.getElem?_set_ne,zcu hg hgn i k (by omega) (by omega)];intro q;have e1:g.getD i 0=g.getD k 0:=by omega
   have:=zd3 hg.1 (getD_some (l:=g) (i:=i) (by omega)) (e1 ▸ getD_some (l:=g) (i:=k) (by omega));omega
theorem zcv {c:Bool} {g f:List Int} (hg:fM g) (hgn:g.length=f.length) {k:Nat} (h:k<f.length):(yN c g f)[(g.getD k 0).toNat]? = some (xOf f.length c (f.getD k 0)):=zcu hg hgn _ k (Zai _) h
theorem jW (c:Bool) (g f:List Int):(yN c g f).length=f.length:=jV _ _ _ _ _
theorem zsk (n:Nat) (a b:Bool) (x:Int):xOf n a (xOf n b x)=xOf n (a != b) x:=by
 cases a <;> cases b <;> simp [xOf] <;> omega
theorem DP.surj {n:Nat} {a:Sym} (ha:DP n a) {j:Nat} (hj:j<n):∃ i,i<n/\a.1.getD i 0=(j:Int):=by
 have h1:=ha.1.1;obtain ⟨i,hi,e⟩:=ha.perm.surj (show j<a.1.length by omega);exact ⟨i,by omega,by rw [Zac,e];rfl⟩
theorem xH {n:Nat} {a:Sym} (ha:DP n a) {f:List Int} (hf:f.length=n) {k:Nat} (hk:k<n):(yN a.2 a.1 f)[(a.1.getD k 0).toNat]? = some (xOf n a.2 (f.getD k 0)):=by
 have h1:=ha.1.1;have:=zcv (c:=a.2) ha.perm (show a.1.length=f.length by omega) (show k<f.length by omega);rw [hf] at this;exact this
theorem gS {n:Nat} {a b:Sym} (ha:DP n a) (hb:DP n b) {f:List Int} (hf:f.length=n):yN (zN a b).2 (zN a b).1 f=yN a.2 a.1 (yN b.2 b.1 f):=by
 have hc:=(jE n).dm a b ha hb;have hl:=jW b.2 b.1 f;refine qN (n:=n) (by rw [jW,hf]) (by rw [jW,jW,hf]) fun j hj => ?_;obtain ⟨i,hi,e⟩:=hc.surj hj;have g1:=xH hc hf hi;obtain ⟨_,b1,b2⟩:=hb.1.get hi;have hk:(b.1.getD i 0).toNat<n:=by omega
 have g2:=xH hb hf hi;have g3:=xH ha (show (yN b.2 b.1 f).length=n by omega) hk;rw [Zac (l:=yN b.2 b.1 f),g2] at g3;have e2:a.1.getD (b.1.getD i 0).toNat 0=(j:Int):=by
  rw [<- e,Zac (l:=(zN a b).1),uT hb.1 hi];rfl
 rw [e2,Int.toNat_natCast] at g3;rw [e,Int.toNat_natCast] at g1;rw [g1,g3]
 congr 1
 exact (zsk n a.2 b.2 _).symm
theorem mB {n:Nat} {f:List Int} (hf:f.length=n):yN (idS n).2 (idS n).1 f=f:=by
 have hd:=(jE n).de;refine qN (n:=n) (by rw [jW,hf]) hf fun j hj => ?_;have e:(idS n).1.getD j 0=(j:Int):=by
  show ((List.range n).map fun j:Nat=>(j:Int)).getD j 0=_;rw [Zac,List.getElem?_map,List.getElem?_range hj];rfl
 have:=xH hd hf hj;rw [e,Int.toNat_natCast] at this;rw [this,Zac,List.getElem?_eq_getElem (by omega)];rfl
theorem pq.linv {G:List Sym} {n:Nat} (h:pq G n) {a:Sym} (ha:a∈G):∃ b∈G,zN b a=idS n:=by
 have L:=jE n;obtain ⟨b,hb,e1⟩:=h.inv a ha;obtain ⟨c,hc,e2⟩:=h.inv b hb;have da:=h.dp a ha;have db:=h.dp b hb;have dc:=h.dp c hc;have:a=c:=by
  have:=L.assoc a b c da db dc;rw [e1,e2,L.el c dc,L.er a da] at this;exact this.symm
 exact ⟨b,hb,by rw [this];exact e2⟩
def idL (n:Nat):List Int:=(List.range n).map fun j:Nat=>(j:Int)
theorem pR (n:Nat):(idL n).length=n:=by simp [idL]
theorem zkb {n i:Nat} (h:i<n):(idL n).getD i 0=(i:Int):=by
 rw [idL,Zac,List.getElem?_map,List.getElem?_range h];rfl
def invS (a:Sym):Sym:=(yN false a.1 (idL a.1.length),a.2)
theorem zkc {n:Nat} {a:Sym} (ha:DP n a) {k:Nat} (hk:k<n):(invS a).1[(a.1.getD k 0).toNat]? = some (k:Int):=by
 have h1:=ha.1.1;have:=zcv (c:=false) ha.perm (f:=idL a.1.length) (by rw [pR]) (k:=k) (by rw [pR];omega);rw [zkb (by omega)] at this;exact this
theorem vL {n:Nat} {a:Sym} (ha:DP n a):DP n (invS a):=by
 have h1:=ha.1.1;have hl:(invS a).1.length=n:=by show (yN _ _ _).length=n;rw [jW,pR,h1]
 have hv:∀ j,j<n->∃ i,i<n/\a.1.getD i 0=(j:Int)/\(invS a).1[j]? = some (i:Int):=fun j hj=>by
  obtain ⟨i,hi,e⟩:=ha.surj hj;have:=zkc ha hi;rw [e,Int.toNat_natCast] at this;exact ⟨i,hi,e,this⟩
 refine ⟨⟨hl,fun x hx => ?_⟩,?_⟩
 ·obtain ⟨j,hj⟩:=List.getElem?_of_mem hx;obtain ⟨i,hi,_,e⟩:=hv j (by rw [<- hl];exact (List.getElem?_eq_some_iff.1 hj).1);rw [hj] at e;cases e;omega
 ·rw [List.Nodup,Zbe];intro i j hi hj hij e;obtain ⟨a1,_,b1,c1⟩:=hv i (by omega);obtain ⟨a2,_,b2,c2⟩:=hv j (by omega);rw [List.getElem?_eq_getElem hi] at c1;rw [List.getElem?_eq_getElem hj] at c2;have e1:=Option.some.inj c1;have e2:=Option.some.inj c2;have:a1=a2:=by omega
  subst this;rw [b1] at b2;omega
theorem zkd {n:Nat} {a:Sym} (ha:DP n a):zN (invS a) a=idS n:=by
 refine Prod.ext (qN (n:=n) (by show (kJ _ _).length=n;rw [uU,ha.1.1]) (by simp [idS]) fun i hi => ?_) (by show (a.2 != a.2)=false;cases a.2 <;> rfl);rw [uT ha.1 hi,Zac (l:=(invS a).1),zkc ha hi];show some (i:Int)=((List.range n).map fun j:Nat=>(j:Int))[i]?;rw [List.getElem?_map,List.getElem?_range hi];rfl
theorem zpz {n:Nat} {a:Sym} (ha:DP n a):zN a (invS a)=idS n:=by
 have L:=jE n;have hb:=vL ha;have hc:=vL hb;have e1:=zkd ha;have e2:=zkd hb;have:a=invS (invS a):=by
  have q:=L.assoc (invS (invS a)) (invS a) a hc hb ha;rw [e2,e1,L.el a ha,L.er _ hc] at q;exact q
 rw [show zN a (invS a)=zN (invS (invS a)) (invS a) by rw [<- this]];exact e2
theorem zhe {n:Nat} {a b:Sym} (ha:DP n a) (hb:DP n b) (h:zN a b=idS n):b=invS a:=by
 have L:=jE n;have hi:=vL ha;have q:=L.assoc (invS a) a b hi ha hb;rw [zkd ha,h,L.el b hb,L.er _ hi] at q;exact q
def conj (a b:Sym):Sym:=zN (zN a b) (invS a)
theorem zp0 {n:Nat} {a b c:Sym} (ha:DP n a) (hb:DP n b) (hc:DP n c):conj a (zN b c)=zN (conj a b) (conj a c):=by
 have L:=jE n;have hi:=vL ha;have hab:=L.dm a b ha hb;have hac:=L.dm a c ha hc;have hci:=L.dm _ _ hac hi;unfold conj;rw [L.assoc (zN a b) (invS a) (zN (zN a c) (invS a)) hab hi hci,<- L.assoc (invS a) (zN a c) (invS a) hi hac hi,<- L.assoc (invS a) a c hi ha hc,zkd ha,L.el c hc,<- L.assoc (zN a b) c (invS a) hab hc hi,L.assoc a b c ha hb hc]
theorem zl5 {n:Nat} {a b c:Sym} (ha:DP n a) (hb:DP n b) (hc:DP n c):conj (zN a b) c=conj a (conj b c):=by
 have L:=jE n;have hia:=vL ha;have hib:=vL hb;have hab:=L.dm a b ha hb;have e:invS (zN a b)=zN (invS b) (invS a):=by
  refine (zhe hab (L.dm _ _ hib hia) ?_).symm;rw [L.assoc a b _ ha hb (L.dm _ _ hib hia),<- L.assoc b (invS b) (invS a) hb hib hia,zpz hb,L.el _ hia,zpz ha]
 have hbc:=L.dm b c hb hc;unfold conj;rw [e,L.assoc a b c ha hb hc,<- L.assoc (zN a (zN b c)) (invS b) (invS a) (L.dm _ _ ha hbc) hib hia,L.assoc a (zN b c) (invS b) ha hbc hib]
theorem zsl {n:Nat} {a b:Sym} (ha:DP n a) (hb:DP n b):DP n (conj a b):=(jE n).dm _ _ ((jE n).dm _ _ ha hb) (vL ha)
def zj2 (G S:List Sym):Bool:=G.all fun a=>S.all fun b=>decide (conj a b∈S)
theorem zl6 {G S u1 q1 u2 q2:List Sym} {n:Nat} (hG:pq G n) (hS:pq S n) (hu1:∀ c∈u1,c∈G) (h1:CloS n u1 q1) (hq1:∀ a,a∈q1↔a∈G) (hu2:∀ c∈u2,c∈S) (h2:CloS n u2 q2) (hq2:∀ a,a∈q2↔a∈S) :
  (u1.all fun a=>u2.all fun b=>decide (conj a b∈S))=zj2 G S:=by
 rw [Bool.eq_iff_iff];simp only [zj2,Zaf,decide_eq_true_eq];have L:=jE n;constructor
 ·intro h;have k1:∀ a∈u1,∀ b∈S,conj a b∈S:=fun a ha b hb=>by
   have da:=hG.dp a (hu1 a ha)
   have:=h2.ind (fun b=>DP n b/\conj a b∈S) ⟨L.de,by unfold conj;rw [L.er a da,zpz da];exact hS.one⟩ (fun x hx c hc=>by
    have dc:=hS.dp c (hu2 c hc);exact ⟨L.dm _ _ dc hx.1,by rw [zp0 da dc hx.1];exact hS.cl _ (h a ha c hc) _ hx.2⟩) b ((hq2 b).2 hb)
   exact this.2
  intro a ha
  have:=h1.ind (fun a=>DP n a/\∀ b∈S,conj a b∈S) ⟨L.de,fun b hb=>by
   have e:invS (idS n)=idS n:=(zhe L.de L.de (L.el _ L.de)).symm;unfold conj
   rw [e,L.er _ (L.dm _ _ L.de (hS.dp b hb)),L.el b (hS.dp b hb)];exact hb⟩ (fun x hx c hc=>by
    have dc:=hG.dp c (hu1 c hc);exact ⟨L.dm _ _ dc hx.1,fun b hb=>by rw [zl5 dc hx.1 (hS.dp b hb)];exact k1 c hc _ (hx.2 b hb)⟩) a ((hq1 a).2 ha)
  exact this.2
 ·intro h a ha b hb;exact h a (hu1 a ha) b (hu2 b hb)
end Go.Ev
namespace Go.Ev
open Go Go.Proofs
variable {B:Nat}
set_option maxRecDepth 100000
theorem zvu {a:Sym} {n:Nat} (ha:DP n a) (hn:n<=1000):Pure Tryz.prog B 124 [encS a] (· = encS (invS a)):=by
 have hl:=ha.1.1;refine yJ fun h nx K H0 hK=>zR zW yw 10000 fun hf' => ?_;rw [yu.go,yu.t20,zA,yu.xq];refine H0.box (l:=[encI a.1,.bool a.2]) rfl fun b1 h1 nx1 H1 => ?_;refine H1.alloc fun b2 h2 nx2 H2 => ?_;have ld0:∀ {hh nn L'} (HH:Hp h hh nn (L'++[.arr b2 [.zf,.bool false],.arr b1 [encI a.1,.bool a.2]])) (op:AV->OP),zF (.ptr b1 (0+0)) hh op=op (encI a.1):=fun {hh nn L'} HH op=>HH.load (k:=L'.length+1) (i:=0) (l:=[encI a.1,.bool a.2]) (by rw [List.getElem?_append_right (by omega)];simp) rfl;have ld1:∀ {hh nn L'} (HH:Hp h hh nn (L'++[.arr b2 [.zf,.bool false],.arr b1 [encI a.1,.bool a.2]])) (op:AV->OP),zF (.ptr b1 (0+1)) hh op=op (.bool a.2):=fun {hh nn L'} HH op=>HH.load (k:=L'.length+1) (i:=1) (l:=[encI a.1,.bool a.2]) (by rw [List.getElem?_append_right (by omega)];simp) rfl;have mk:mkSl 8 (I (a.1.length:Int)) (I (a.1.length:Int))=true:=by
  show (Nat.ble a.1.length a.1.length&&Nat.ble a.1.length 1000000&&Nat.ble (8*a.1.length) 281474976710656)=true;rw [Zab (Zai _),Zab (by omega),Zab (by omega)];rfl
 rw [yu.t19,zA,yu.xu];simp only [Bool.and_self,jJ,sFx];rw [ld0 (L':=[]) H2,zI,mk];simp only [Bool.and_self,jJ];rw [ld1 (L':=[]) H2];refine H2.mk1 a.1.length rfl rfl (by omega) (by decide) fun tb h3 nx3 H3 => ?_;rw [ld1 (L':=[_]) H3];simp only [zB,zI];rw [ld0 (L':=[_]) H3]
 try simp only [zB]
 rw [pI rfl rfl];refine H3.alloc fun b3 h4 nx4 H4 => ?_;rw [pI rfl rfl]
 try simp only [zB]
 rw [ld1 (L':=[_,_]) H4]
 try simp only [zB,zI]
 rw [ld0 (L':=[_,_]) H4]
 try simp only [zB]
 refine H4.jo (k:=0) (n:=2) rfl rfl rfl fun h5 H5 => ?_;rw [yu.t18,zA,yu.t15,zA,yu.fO,sFx,ld0 (L':=[_,_]) H5,zI];have e0:List.replicate a.1.length (I 0)=(kA a.1.length false a.1 (idL a.1.length) 0).map I:=by simp [kA]
 rw [e0] at H5;rw [yu.t14,zP]
 refine yu.zwh (fun m x8 h' nx'=>∃ i:Nat,x8=I i/\m=a.1.length-i/\i<=a.1.length/\Hp h h' nx' [.arr b3 [.sl tb 0 a.1.length (some a.1.length) 1,.bool a.2],.arr tb ((kA a.1.length false a.1 (idL a.1.length) i).map I),.arr b2 [.zf,.bool false],.arr b1 [encI a.1,.bool a.2]]) (m:=a.1.length) (by omega)
  ⟨0,rfl,by omega,by omega,H5⟩ ?_
 rintro m z4 z5 z8 z9 h6 nx6 R ⟨i,rfl,rfl,hi,H6⟩ hR;rw [yu.t12,zA,yu.rY,qm];by_cases hlt:i<a.1.length
 case neg =>
  rw [decide_eq_false (by omega),yu.t11,zA,yu.t4,zG,yu.v9,zD,y8,j8,yu.t17,zA,yu.au,H6.zh (k:=0) (n:=2) rfl rfl];refine H6.jo (k:=2) (n:=2) rfl rfl rfl fun h7 H7 => ?_;simp only [zT,yL];rw [yu.ret,H7.zh (k:=2) (n:=2) rfl rfl];obtain rfl:i=a.1.length:=by omega
  have hal:=jV a.1.length false a.1 (idL a.1.length) a.1.length;have e:invS a=(kA a.1.length false a.1 (idL a.1.length) a.1.length,a.2):=by
   unfold invS yN;rw [pR]
  refine hK _ _ _ _ (encS (invS a)) H7 (pT ?_ (zH rfl) rfl) rfl;rw [e];have:=H7.zby (k:=1) (e:=1) (n:=a.1.length) (cap:=some a.1.length) rfl (Zai _) (by simp [hal]) zpo;show aP h h7 _ (AV.lst 1 (kA _ _ _ _ _).length _);rw [hal];exact this
 rw [decide_eq_true (by omega),yu.t11,zA,yu.t4,zG,yu.v9,zC,zO];have hx:a.1[i]? = some a.1[i]:=List.getElem?_eq_getElem hlt;have hgb:=ha.perm.2 _ (Zam hlt);have hgd:a.1.getD i 0=a.1[i]:=by rw [Zac,hx];rfl
 rw [yu.t10,zA,yu.t8,zP,yu.t7,zA,yu.t5_s,fG rfl hlt,ldL (tK hx),yu.t6_s,sFx,H6.load (k:=0) (i:=0+0) rfl rfl,sIx (i:=(a.1[i]).toNat) (by omega) (by omega)];refine H6.store (k:=1) rfl (by rw [Zaj,jV];omega) rfl fun h7 H7 => ?_;rw [yu.t9_s,wo (by omega)];refine hR _ _ _ _ _ _ _ (by omega) ⟨i+1,rfl,rfl,by omega,H7.cast ?_⟩;rw [qA,hgd,zkb hlt];simp [List.map_set,xOf]
def nrmV (G S:List Sym) (n:Int):AV:=if subE G S n≠0 then .tup [.bool false,I (subE G S n)] else .tup [.bool (zj2 G S),I 0]
theorem wQ {α:Type} {l:List α} {p:α->Bool} {i:Nat} {x:α} (hx:l[i]? = some x) (h:(l.take i).all p=true) (hp:p x=true):(l.take (i+1)).all p=true:=by
 rw [Zar,hx,List.all_append,h];simp [hp]
theorem mD {α:Type} {l:List α} {p:α->Bool} (h:(l.take l.length).all p=true):l.all p=true:=by rwa [Zan (Zai _)] at h
theorem ziu {G S:List Sym} {n:Int} (hG:G.length<=100000) (hw:∀ g∈G,g.1.length<=100000) (hS:S.length<=100000) (hw2:∀ g∈S,g.1.length<=100000):Pure Tryz.prog B 40 [jl G,jl S,I n] (· = nrmV G S n):=by
 refine yJ fun h nx K H0 hK=>zR zW yw 10000000 fun hf' => ?_;rw [F40.go,F40.t43,zA,F40.xq,F40.t42,zA,F40.xu];refine bD hG hw hS hw2 H0 (fun e h2 nx2 X he hne H2 => ?_) fun n' u1 q1 u2 q2 g o1 o2 h2 nx2 X hn ok1 ok2 hse hu1 hul1 hC1 hq1 hu2 hul2 hC2 hq2 hsub H2 => ?_
 ·rw [yY,jB,j3];refine H2.alloc fun b6 h3 nx3 H3 => ?_;refine H3.jo (k:=0) (n:=2) rfl rfl rfl fun h4 H4 => ?_;rw [F40.t41,zA,F40.t6,zA,F40.fO,vw,decide_eq_false hne,Zak,F40.t5,zG,F40.v10,zC,F40.t4,zA,F40.rY];simp only [zT,yL];rw [F40.ret];exact hK _ _ _ _ _ H4 (j5 (zH rfl) (zH rfl)) (by rw [nrmV,<- he,if_pos hne])
 subst hn;have zaq:=ok1.n256;have hgen:=zl6 ok1 ok2 hu1 hC1 hq1 hu2 hC2 hq2;rw [yY,jB,j3];refine H2.alloc fun b6 h3 nx3 H3 => ?_;refine H3.jo (k:=0) (n:=2) rfl rfl rfl fun h4 H4 => ?_;rw [F40.t41,zA,F40.t6,zA,F40.fO,vw,decide_eq_true rfl,Zah,F40.t5,zG,F40.v10,zD,zO,F40.t40,zA,F40.t37,zA,F40.t7_s,sAx0,H4.load (k:=0) (i:=0) rfl rfl,H4.zah (k:=3) rfl];have hd2:∀ b∈q2,DS n' b:=fun b hb=>(ok2.dp b ((hq2 b).1 hb)).1;have no:∀ {h' nx' L'},Hp h h' nx' L'->(∃ a∈u1,∃ b∈u2,conj a b∉S)->K (.tup [.bool false,I 0]) h' nx'=.ok True:=fun H' ⟨a,ha,b,hb,hc⟩=>by
  refine hK _ _ _ _ _ H' (j5 (zH rfl) (zH rfl)) ?_;rw [nrmV,hse,if_neg (by decide),<- hgen]
  congr 3
  refine (Bool.eq_false_iff.2 fun q => ?_).symm;have:=List.all_eq_true.1 (List.all_eq_true.1 q a ha) b hb;exact hc (of_decide_eq_true this)
 rw [F40.t36,zP]
 refine F40.zwg (fun m x13 h' nx'=>∃ i:Nat,x13=I i/\m=u1.length-i/\i<=u1.length/\(u1.take i).all (fun a=>u2.all fun b=>decide (conj a b∈S))=true/\Hp h h' nx' (.arr b6 [qp o1 2 u1.length,qp o2 2 u2.length]::.map g (wu q2)::.gro o2 2 u2.length (yI u2)::.gro o1 2 u1.length (yI u1)::(X++[]))) (m:=u1.length) (by omega)
  ⟨0,rfl,by omega,by omega,by simp,H4⟩ ?_
 rintro m z3 z4 z8 z9 z13 z14 z15 z16 z17 z18 z19 h6 nx6 R ⟨i,rfl,rfl,hi,hal,H6⟩ hR;rw [F40.t34,zA,F40.eX,qm];by_cases hlt:i<u1.length
 case neg =>
  rw [decide_eq_false (by omega),F40.t33,zA,F40.t9,zG,F40.v14,zD,y8,j8,F40.t39,zA,F40.zfo];simp only [zT,yL];rw [F40.ret];obtain rfl:i=u1.length:=by omega
  exact hK _ _ _ _ _ H6 (j5 (zH rfl) (zH rfl)) (by rw [nrmV,hse,if_neg (by decide),<- hgen,mD hal])
 rw [decide_eq_true (by omega),F40.t33,zA,F40.t9,zG,F40.v14,zC,zO,F40.t32,zA,F40.t30,zP,F40.t29,zA,F40.sN];have hx:u1[i]? = some u1[i]:=List.getElem?_eq_getElem hlt;have hxm:=Zaa hx;have hdx:=ok1.dp _ (hu1 _ hxm);obtain ⟨iu,ou,e1,e2⟩:=zi1 (k:=3) H6 rfl hx;rw [e1,e2];refine H6.alloc fun b8 h7 nx7 H7 => ?_;refine H7.jo (k:=0) (n:=2) rfl rfl rfl fun h8 H8 => ?_;rw [F40.t28,zA,F40.aZ,sAx1,H8.load (k:=1) (i:=0+1) rfl rfl,H8.zah (k:=3) rfl,F40.t27,zP]
 refine F40.zmz (fun m x17 h' nx'=>∃ k:Nat,x17=I k/\m=u2.length-k/\k<=u2.length/\(u2.take k).all (fun b=>decide (conj u1[i] b∈S))=true/\Hp h h' nx' (.arr b8 [encI u1[i].1,.bool u1[i].2]::.arr b6 [qp o1 2 u1.length,qp o2 2 u2.length]::.map g (wu q2)::.gro o2 2 u2.length (yI u2)::.gro o1 2 u1.length (yI u1)::(X++[]))) (m:=u2.length) (by omega)
  ⟨0,rfl,by omega,by omega,by simp,H8⟩ ?_
 rintro m y3 y4 y9 y17 y18 y19 h9 nx9 R' ⟨k,rfl,rfl,hk,hal2,H9⟩ hR';rw [F40.t25,zA,F40.zam,qm];by_cases hlt2:k<u2.length
 case neg =>
  rw [decide_eq_false (by omega),F40.t24,zA,F40.t13,zG,F40.v18,zD,y8,j8,F40.zfm,wo (by omega)];obtain rfl:k=u2.length:=by omega
  exact hR _ _ _ _ _ _ _ _ _ _ _ _ _ _ (by omega) ⟨i+1,rfl,rfl,by omega,wQ hx hal (mD hal2),H9.drop⟩
 rw [decide_eq_true (by omega),F40.t24,zA,F40.t13,zG,F40.v18,zC,zO,F40.t23,zA,F40.t21,zP,F40.t20,zA,F40.zas];have hy:u2[k]? = some u2[k]:=List.getElem?_eq_getElem hlt2;have hym:=Zaa hy;have hdy:=ok2.dp _ (hu2 _ hym);obtain ⟨iv,ov,e3,e4⟩:=zi1 (k:=3) H9 rfl hy;rw [e3,e4];refine H9.alloc fun b9 h10 nx10 H10 => ?_;refine H10.jo (k:=0) (n:=2) rfl rfl rfl fun h11 H11 => ?_;rw [F40.t19,zA,F40.zaj,H11.zh (k:=1) (n:=2) rfl rfl,H11.zh (k:=0) (n:=2) rfl rfl,H11.zh (k:=1) (n:=2) rfl rfl];refine mF (a:=u1[i]) (b:=u2[k]) (fun z hz=>by rw [hdx.1.1];exact hdy.1.2 z hz) (by rw [hdy.1.1];omega) _ _ _ _ ?_;rintro _ rfl _;rw [H11.zh (k:=1) (n:=2) rfl rfl,zB,zB];refine zvu (a:=u1[i]) hdx (by omega) _ _ _ _ ?_;rintro _ rfl _;have hdi:=vL hdx;have hdxy:=(jE n').dm _ _ hdx hdy;rw [zB];refine mF (a:=zN u1[i] u2[k]) (b:=invS u1[i]) (fun z hz=>by rw [hdxy.1.1];exact hdi.1.2 z hz) (by rw [hdi.1.1];omega) _ _ _ _ ?_;rintro _ rfl _;rw [zB];have hdc:DP n' (conj u1[i] u2[k]):=zsl hdx hdy;refine zcg (a:=conj u1[i] u2[k]) zaq hdc.1 hd2 H11 (k:=3) rfl ?_;rw [yX,F40.t18,zG,F40.v19];by_cases c:conj u1[i] u2[k]∈q2
 ·rw [decide_eq_true c,Zah,zD,zO,F40.zfn,wo (by omega)];exact hR' _ _ _ _ _ _ _ _ _ (by omega) ⟨k+1,rfl,rfl,by omega,wQ hy hal2 (decide_eq_true ((hq2 _).1 c)),H11.drop⟩
 ·rw [decide_eq_false c,Zak,zC,F40.t17,zA,F40.au];simp only [zT,xV,yL];rw [F40.ret];exact no H11 ⟨_,hxm,_,hym,fun q=>c ((hq2 _).2 q)⟩
end Go.Ev
namespace Go.Ev
abbrev AscS (l:List Sym):Prop:=l.Pairwise fun a b=>rV a b=true
theorem zp1 {a b:Sym} (h:a≠b) (h2:rV a b=false):rV b a=true:=by
 unfold rV at h2 ⊢;by_cases c:a.1=b.1
 ·rw [if_pos c] at h2;rw [if_pos c.symm];have:a.2≠b.2:=fun q=>h (Prod.ext c q)
  revert h2 this;cases a.2 <;> cases b.2 <;> simp
 ·rw [if_neg c] at h2;rw [if_neg (fun q=>c q.symm)];rw [uP] at h2 ⊢;have n1:=Go.Proofs.cO a.1 b.1;have e:¬ Go.Proofs.jy a.1 b.1<0:=fun q=>by simp [q] at h2
  have e2:Go.Proofs.jy a.1 b.1≠0:=fun q=>c (Go.Proofs.sW q);exact decide_eq_true (by omega)
theorem AscS.nd {l:List Sym} (h:AscS l):l.Nodup:=h.imp fun hab e=>by rw [e,wD] at hab;cases hab
theorem zgl:∀ {a b:List Sym},AscS a->AscS b->(∀ x,x∈a↔x∈b)->a=b
 | [],[],_,_,_=>rfl
 | [],y::b,_,_,h=>by have:=(h y).2 (by simp);cases this
 | x::a,[],_,_,h=>by have:=(h x).1 (by simp);cases this
 | x::a,y::b,ha,hb,h=>by
  have ha':=List.pairwise_cons.1 ha;have hb':=List.pairwise_cons.1 hb;have e:x=y:=by
   have h1:=(h x).1 (by simp);have h2:=(h y).2 (by simp);rcases List.mem_cons.1 h1 with q | q
   ·exact q
   ·rcases List.mem_cons.1 h2 with r | r
    ·exact r.symm
    ·have h3:=hb'.1 x q;have h4:=ha'.1 y r;rw [zcr h3] at h4;cases h4
  subst e
  congr 1
  refine zgl ha'.2 hb'.2 fun z => ?_;have hz:=h z;simp only [Zag] at hz;constructor
  ·intro q;rcases hz.1 (.inr q) with rfl | r
   ·have:=ha'.1 z q;rw [wD] at this;cases this
   ·exact r
  ·intro q;rcases hz.2 (.inr q) with rfl | r
   ·have:=hb'.1 z q;rw [wD] at this;cases this
   ·exact r
end Go.Ev
namespace Go.Ev
open Go Go.Proofs
theorem zp2 {a b:Sym} (h:a≠b) (h2:rF a b<=0):rV a b=true:=by
 rw [wX] at h2;unfold rV;by_cases c:a.1=b.1
 ·rw [if_pos c] at h2 ⊢;have:a.2≠b.2:=fun q=>h (Prod.ext c q)
  revert h2 this;cases a.2 <;> cases b.2 <;> simp
 ·rw [if_neg c] at h2 ⊢;rw [uP];have:=mS c;exact decide_eq_true (by omega)
theorem zit {s:List Sym} (hn:s.Nodup) (h:s.Pairwise fun a b=>rF a b<=0):AscS s:=(List.pairwise_and_iff.2 ⟨hn,h⟩).imp fun ⟨h1,h2⟩=>zp2 h1 h2
end Go.Ev
namespace Go.Ev
open Go Go.Proofs
variable {B:Nat}
set_option maxRecDepth 100000
theorem zsm {P:Program} {f:Nat} {p:Pa} {args args':List AV} {h:T Blk} {nx:Pa} {K:Kw Prop} (hv:∀ (E:Env) (vs:List Value),VRL E args vs->VRL E args' vs) (hk:(CS P B).fn f p args' h nx K=.ok True):(CS P B).fn f p args h nx K=.ok True:=by
 rw [tY] at hk ⊢;exact ⟨fun E w vs H hv'=>hk.1 E w vs H (hv _ _ hv'),rfl⟩
theorem zsn {E:Env} {e:Nat} {vv:Value} (h:VR E .zf vv):VR E (.lst e 0 []) vv:=by
 simp only [VR] at h ⊢;exact ⟨rfl,by simp,none,0,h,.inl (by simp)⟩
theorem zcw:∀ (q:List Sym) (i:Nat),(yI q).take (i*2)=yI (q.take i)
 | q,0=>by simp [yI]
 | [],i+1=>by simp [yI]
 | p::q,i+1=>by
  rw [List.take_succ_cons,show (i+1)*2=i*2+1+1 by omega];show encI p.1::.bool p.2::(yI q).take (i*2)=_;rw [zcw q i]
  rfl
def LG (v:AV) (l:List Sym):Prop:=(v=.zf/\l=[])\/(v=jl l/\l≠[])
theorem LG.len {v:AV} {l:List Sym} (h:LG v l) {op:AV->OP}:sLen v op=op (I l.length):=by
 rcases h with ⟨rfl,rfl⟩ | ⟨rfl,_⟩
 ·exact yW
 ·exact zI ..
theorem LG.frz {v:AV} {l:List Sym} (h:LG v l) {N:Pa->Prop} {O:AV->Prop} {hh:T Blk}:Frz True N O hh v (jl l):=by
 rcases h with ⟨rfl,rfl⟩ | ⟨rfl,_⟩
 ·exact .zdi 2
 ·exact zH (m5 _)
theorem LG.call {P:Program} {f:Nat} {p:Pa} {v:AV} {rest:List AV} {l:List Sym} (h:LG v l) {hh:T Blk} {nx:Pa} {K:Kw Prop} (hk:(CS P B).fn f p (jl l::rest) hh nx K=.ok True):(CS P B).fn f p (v::rest) hh nx K=.ok True:=by
 rcases h with ⟨rfl,rfl⟩ | ⟨rfl,_⟩
 ·refine zsm (fun E vs hv => ?_) hk;simp only [VRL] at hv ⊢;obtain ⟨a,m,q,r,s⟩:=hv;exact ⟨a,m,q,zsn r,s⟩
 ·exact hk
theorem LG.halves {v:AV} {l:List Sym} {i:Nat} (h:LG v l) (hi:i<=l.length):∃ lo hi':AV,(∀ op:AV->OP,jX 2 v none (some (I (i:Int))) none op=op lo)/\(∀ op:AV->OP,jX 2 v (some (I (i:Int))) none none op=op hi') /\
  (∀ (h:T Blk) (no:OP) (K':List AV->Nat->OP),uB lo h no K'=K' (yI (l.take i)) i)/\(∀ (h:T Blk) (no:OP) (K':List AV->Nat->OP),uB hi' h no K'=K' (yI (l.drop i)) (l.length-i)):=by
 rcases h with ⟨rfl,rfl⟩ | ⟨rfl,h0⟩
 ·obtain rfl:i=0:=by simpa using hi
  exact ⟨.zf,.zf,fun op=>rfl,fun op=>rfl,fun h no K'=>rfl,fun h no K'=>rfl⟩
 ·have hn:1<=l.length:=by cases l with
   | nil=>exact absurd rfl h0
   | cons _ _=>simp
  refine ⟨.lst 2 (i-0) (((yI l).drop (0*2)).take ((i-0)*2)),.lst 2 (l.length-i) (((yI l).drop (i*2)).take ((l.length-i)*2)),fun op => ?_,fun op => ?_,fun h no K' => ?_,fun h no K' => ?_⟩
  ·show (bif Nat.beq 2 2&&Nat.ble 1 l.length then dX 2 l.length (yI l) none (some (I (i:Int))) none op else .no 17)=_;rw [Zaw,Zab hn];show (match bnd (some (I (i:Int))) l.length l.length with | none=>Out.no 17 | some h=>match bnd none h 0 with | none=>.no 17 | some q=>op (.lst 2 (h-q) (((yI l).drop (q*2)).take ((h-q)*2))))=_;rw [xC hi];rfl
  ·show (bif Nat.beq 2 2&&Nat.ble 1 l.length then dX 2 l.length (yI l) (some (I (i:Int))) none none op else .no 17)=_;rw [Zaw,Zab hn];show (match bnd (some (I (i:Int))) l.length 0 with | none=>Out.no 17 | some q=>op (.lst 2 (l.length-q) (((yI l).drop (q*2)).take ((l.length-q)*2))))=_;rw [xC hi]
  ·show K' _ (i-0)=_;rw [Nat.sub_zero,Nat.zero_mul,List.drop_zero,zcw]
  ·show K' _ (l.length-i)=_;rw [xP,Zan (by rw [uR,Zcb];omega)]
end Go.Ev
namespace Go.Ev
open Go.Proofs (jy cO sW kD gZ)
abbrev AscT (l:List (List Int)):Prop:=l.Pairwise fun a b=>yQ a b=true
theorem dD (a:List Int):yQ a a=false:=by rw [uP,kD];rfl
theorem zl7 {a b:List Int} (h:yQ a b=true):yQ b a=false:=by
 rw [uP] at h ⊢;have:=of_decide_eq_true h;have:=cO a b;exact decide_eq_false (by omega)
theorem zl8 {a b:List Int} (h:a≠b) (h2:yQ a b=false):yQ b a=true:=by
 rw [uP] at h2 ⊢;have n1:=cO a b;have e:¬ jy a b<0:=fun q=>by simp [q] at h2
 have e2:jy a b≠0:=fun q=>h (sW q);exact decide_eq_true (by omega)
def uZ (l:List (List Int)) (f:List Int):List (List Int):=if f∈l then l else l.takeWhile (yQ · f)++f::l.dropWhile (yQ · f)
def gB (l:List (List Int)):List (List Int):=l.foldl uZ []
theorem zp3 {p:List Int->Bool}:∀ {l:List (List Int)} {i:Nat},i<=l.length->(l.take i).all p=true->(∀ h:i<l.length,p l[i]=false)->l.take i=l.takeWhile p/\l.drop i=l.dropWhile p
 | [],i,h,_,_=>by simp
 | x::l,0,_,_,hn=>by
  have:=hn (by simp);simp at this;simp [List.takeWhile_cons,List.dropWhile_cons,this]
 | x::l,i+1,h,ha,hn=>by
  rw [List.take_succ_cons,List.all_cons,Zad] at ha;obtain ⟨e1,e2⟩:=zp3 (l:=l) (i:=i) (by simpa using h) ha.2 (fun h'=>by have:=hn (by simpa using h');simpa using this);rw [List.take_succ_cons,Zcm,List.takeWhile_cons,List.dropWhile_cons,ha.1,e1,e2];simp
theorem zd4 {l:List (List Int)} {a x:List Int}:x∈uZ l a↔x=a\/x∈l:=by
 unfold uZ;split
 ·rename_i h;exact ⟨.inr,fun q=>q.elim (fun e=>e ▸ h) id⟩
 ·have:=List.takeWhile_append_dropWhile (p:=(yQ · a)) (l:=l)
  conv=>rhs;rw [<- this]
  simp only [Zap,Zag];constructor
  ·rintro (h | h | h)
   ·exact .inr (.inl h)
   ·exact .inl h
   ·exact .inr (.inr h)
  ·rintro (h | h | h)
   ·exact .inr (.inl h)
   ·exact .inl h
   ·exact .inr (.inr h)
theorem zl9 {l:List (List Int)} {a:List Int} (h:AscT l):AscT (uZ l a):=by
 unfold uZ;split
 ·exact h
 ·rename_i h0;have e:=List.takeWhile_append_dropWhile (p:=(yQ · a)) (l:=l);have h':=h;rw [<- e] at h';obtain ⟨h1,h2,h3⟩:=List.pairwise_append.1 h';have ht:∀ x∈l.takeWhile (yQ · a),yQ x a=true:=fun x hx=>(List.all_eq_true.1 (List.all_takeWhile (p:=(yQ · a)) (l:=l))) x hx;have hd:∀ x∈l.dropWhile (yQ · a),yQ a x=true:=by
   cases q:l.dropWhile (yQ · a) with
   | nil=>intro x hx;cases hx
   | cons y r =>
    have hy:yQ y a=false:=by
     have:=List.head?_dropWhile_not (p:=(yQ · a)) (l:=l);rw [q] at this;simpa using this
    have hym:y∈l:=by rw [<- e,q];simp
    have hya:yQ a y=true:=zl8 (fun e=>h0 (e ▸ hym)) hy;intro x hx;rcases List.mem_cons.1 hx with rfl | hx
    ·exact hya
    ·rw [q] at h2;exact vJ hya ((List.pairwise_cons.1 h2).1 x hx)
  refine List.pairwise_append.2 ⟨h1,List.pairwise_cons.2 ⟨hd,h2⟩,fun x hx y hy => ?_⟩;rcases List.mem_cons.1 hy with rfl | hy
  ·exact ht x hx
  ·exact vJ (ht x hx) (hd y hy)
theorem zd5 (l:List (List Int)):∀ (acc:List (List Int)),AscT acc->AscT (l.foldl uZ acc)/\∀ x,x∈l.foldl uZ acc↔x∈acc\/x∈l:=by
 induction l with
 | nil=>intro acc h;exact ⟨h,fun x=>by simp⟩
 | cons a l ih =>
  intro acc h;obtain ⟨h1,h2⟩:=ih (uZ acc a) (zl9 h);refine ⟨h1,fun x => ?_⟩;rw [List.foldl_cons,h2,zd4,Zag];constructor
  ·rintro ((q | q) | q)
   ·exact .inr (.inl q)
   ·exact .inl q
   ·exact .inr (.inr q)
  ·rintro (q | q | q)
   ·exact .inl (.inr q)
   ·exact .inl (.inl q)
   ·exact .inr q
theorem wS (l:List (List Int)):AscT (gB l):=(zd5 l [] .nil).1
theorem bg {l:List (List Int)} {x:List Int}:x∈gB l↔x∈l:=by rw [gB,(zd5 l [] .nil).2];simp
theorem zma (l:List (List Int)) (a:List Int):(uZ l a).length<=l.length+1:=by
 unfold uZ;split
 ·omega
 ·have:=congrArg List.length (List.takeWhile_append_dropWhile (p:=(yQ · a)) (l:=l));simp only [Zas,Zbf] at this ⊢;omega
theorem dS (l:List (List Int)):∀ acc:List (List Int),(l.foldl uZ acc).length<=acc.length+l.length:=by
 induction l with
 | nil=>intro acc;simp
 | cons a l ih=>intro acc;rw [List.foldl_cons,Zbf];have:=ih (uZ acc a);have:=zma acc a;omega
theorem m9:∀ {a b:List (List Int)},AscT a->AscT b->(∀ x,x∈a↔x∈b)->a=b
 | [],[],_,_,_=>rfl
 | [],y::b,_,_,h=>by have:=(h y).2 (by simp);cases this
 | x::a,[],_,_,h=>by have:=(h x).1 (by simp);cases this
 | x::a,y::b,ha,hb,h=>by
  have ha':=List.pairwise_cons.1 ha;have hb':=List.pairwise_cons.1 hb;have e:x=y:=by
   have h1:=(h x).1 (by simp);have h2:=(h y).2 (by simp);rcases List.mem_cons.1 h1 with q | q
   ·exact q
   ·rcases List.mem_cons.1 h2 with r | r
    ·exact r.symm
    ·have h3:=hb'.1 x q;have h4:=ha'.1 y r;rw [zl7 h3] at h4;cases h4
  subst e
  congr 1
  refine m9 ha'.2 hb'.2 fun z => ?_;have hz:=h z;simp only [Zag] at hz;constructor
  ·intro q;rcases hz.1 (.inr q) with rfl | r
   ·have:=ha'.1 z q;rw [dD] at this;cases this
   ·exact r
  ·intro q;rcases hz.2 (.inr q) with rfl | r
   ·have:=hb'.1 z q;rw [dD] at this;cases this
   ·exact r
theorem zmb {l:List (List Int)} (h:AscT l) {f:List Int} {i:Nat} (ha:(l.take i).all (yQ · f)=true) (hi:i<=l.length) (hn:∀ q:i<l.length,yQ l[i] f=false):f∈l↔∃ q:i<l.length,l[i]=f:=by
 constructor
 ·intro hf;obtain ⟨j,hj⟩:=List.getElem?_of_mem hf;obtain ⟨hj1,hj2⟩:=List.getElem?_eq_some_iff.1 hj;rcases Nat.lt_trichotomy j i with q | q | q
  ·have:l[j]∈l.take i:=Zaa (i:=j) (by rw [List.getElem?_take_of_lt q];exact List.getElem?_eq_getElem hj1);have:=List.all_eq_true.1 ha _ this;rw [hj2,dD] at this;cases this
  ·subst q;exact ⟨hj1,hj2⟩
  ·have hi':i<l.length:=by omega
   have:=List.pairwise_iff_getElem.1 h i j hi' hj1 q;rw [hj2,hn hi'] at this;cases this
 ·rintro ⟨q,rfl⟩;exact Zam q
end Go.Ev
namespace Go.Ev
open Go Go.Proofs Go.RowKit Go.Sort
theorem HR.zke {P:Program} {B:Nat} {E:Env} {h:T Blk} {nx:Pa} {w:World} {α:Type} [Inhabited α] {enc:α->Value} {av:α->AV} (hva:∀ x,VR E (av x) (enc x)) (hsc:∀ x,jk (av x)=true)
  (H:HR P B E h nx w) {id:Pa} {op:Bool} {m off b n k:Nat} {t:T AV} {l':List α} {os:Array Obj} (hb:T.get .no id h=.cells op m t) (hE:E id=some (b,n)) (hm:off+l'.length<=m) :
  HR P B E (T.set .no (.cells op m (yS (l'.map av) t off)) id h) nx (grow (putRow enc (Sort.ahead w k) b off l'.toArray) os)/\Ex E E w (grow (putRow enc (Sort.ahead w k) b off l'.toArray) os):=by
 have hid:T.get .no id h≠.no:=by rw [hb];intro e;cases e
 obtain ⟨b',n',o,h1,h2,h3⟩:=H.blk id hid;rw [hE] at h1;cases h1;rw [hb] at h3;obtain ⟨c,ty,fr,rfl,q1,q2,q3,q4,q5⟩:=h3;have hcs:(putCells enc off l'.toArray c).size=c.size:=by simp [putCells]
 have hbr:BR P E n (.cells op m (yS (l'.map av) t off)) (.cells (putCells enc off l'.toArray c) ty fr):=by
  refine ⟨_,ty,fr,rfl,by rw [hcs];exact q1,by rw [hcs];exact q2,q3,q4,fun i hi => ?_⟩;rw [uE];have hic:i<c.size:=by omega
  have hce:(putCells enc off l'.toArray c)[i]? = some (if off<=i/\i<off+l'.length then enc (l'.toArray[i-off]!) else c[i]):=by
   simp [putCells,Array.getElem?_eq_getElem hic]
  rw [Zaj];by_cases hr:off<=i/\i<off+l'.length
  ·rw [if_pos hr];rw [if_pos hr] at hce;have hj:i-off<l'.length:=by omega
   have e1:(l'.map av).getD (i-off) .undef=av l'[i-off]:=by
    rw [Zac,List.getElem?_map,List.getElem?_eq_getElem hj];rfl
   have e2:l'.toArray[i-off]! = l'[i-off]:=by simp [getElem!_pos,hj]
   rw [e1];exact ⟨hsc _,_,hce,by rw [e2];exact hva _⟩
  ·rw [if_neg hr];rw [if_neg hr] at hce;obtain ⟨r1,v,r2,r3⟩:=q5 i hi;rw [Array.getElem?_eq_getElem hic] at r2;exact ⟨r1,_,hce,by rw [Option.some.inj r2];exact r3⟩
 have H1:=H.put hid hE hbr;have X1:Ex E E w (w.putObj b (.cells (putCells enc off l'.toArray c) ty fr)):=Ex.put hE h2 fun L hL=>by cases hL
 have hbl:b<w.heap.size:=(Array.getElem?_eq_some_iff.1 h2).1;have hBel:Below (w.putObj b (.cells (putCells enc off l'.toArray c) ty fr)).heap.size (w.putObj b (.cells (putCells enc off l'.toArray c) ty fr)) (grow (putRow enc (Sort.ahead w k) b off l'.toArray) os):=by
  refine ⟨rfl,rfl,rfl,?_,fun j hj => ?_⟩
  ·rw [World.putObj_size];simp [grow,putRow,mapBlock,Sort.ahead]
  ·rw [World.putObj_size] at hj;have e1:(grow (putRow enc (Sort.ahead w k) b off l'.toArray) os).heap[j]? = (w.heap.modify b (onCells (putCells enc off l'.toArray)))[j]? := by
    show (w.heap.modify b (onCells (putCells enc off l'.toArray))++os)[j]? = _;rw [Array.getElem?_append_left (by simpa using hj)]
   rw [e1,Array.getElem?_modify];by_cases e:b=j
   ·subst e;rw [if_pos rfl,h2,uA _ hbl];rfl
   ·rw [if_neg e,yM _ (fun q=>e q.symm)]
 obtain ⟨r1,r2⟩:=H1.below hBel;exact ⟨r1,X1.trans r2⟩
theorem zp4 {B:Nat} {h:T Blk} {id:Pa} {op:Bool} {m off n:Nat} {o:Option Nat} {t:T AV} {ps qs:List (AV×List Int)} (hb:T.get .no id h=.cells op m t) (hm:off+n<=m) (hn:n<=1000000) (hp:yG t off n=ps.map (·.1))
  (hr:∀ p∈ps,eP h id p.1 p.2/\p.2.length<=1000000) (hnd:∀ a∈ps,∀ a'∈ps,a.2=a'.2->a=a') (hq:qs.Perm ps) (hqs:qs.Pairwise fun a b=>jy a.2 b.2<=0) :
  JOk Tryz.prog B (fun f a h'=>open Classical in if f=200/\a=[.sl id off n o 1,.fn 201 (.of 201) []]/\h'=h then some (.tup [],T.set .no (.cells op m (yS (qs.map (·.1)) t off)) id h) else none):=by
 intro E h' nx w f args vs v h2 H hv hj
 dsimp only at hj
 by_cases hc:f=200/\args=[AV.sl id off n o 1,.fn 201 (.of 201) []]/\h'=h
 case neg=>rw [if_neg hc] at hj;cases hj
 rw [if_pos hc] at hj;obtain ⟨rfl,rfl,rfl⟩:=hc;simp only [Option.some.injEq,Prod.mk.injEq] at hj;obtain ⟨rfl,rfl⟩:=hj;refine ⟨_,Tryz.func200,by kernel_rfl,by kernel_rfl,fun nn=>callsIn_wide.2 ?_⟩;obtain ⟨l⟩:=vs;simp only [VRL] at hv;obtain ⟨u,_,rfl,hu,u2,_,rfl,hu2,rfl⟩:=hv;simp only [VR,VRL] at hu2;obtain ⟨_,vs2,rfl,hvs2⟩:=hu2;obtain rfl:vs2 = #[]:=by cases vs2;simpa using hvs2
 have hln:ps.length=n:=by
  have:=congrArg List.length hp;simpa using this.symm
 obtain ⟨b,bn,c,hE,rfl,hcap⟩:=hu.tJ;obtain ⟨b',n',ob,h1,h2,h3⟩:=H.blk id (by rw [hb];intro e;cases e);rw [hE] at h1;cases h1;have h3':=h3;rw [hb] at h3;obtain ⟨cs,ty,fr,rfl,g1,g2,g3,g4,hc⟩:=h3
 let α:={x:(AV×List Int)×Value // eP h' id x.1.1 x.1.2/\x.1.2.length<=1000000/\VR E x.1.1 x.2}
 haveI:Inhabited α:=⟨⟨((encI [],[]),.slice none 0 0),.inl rfl,by simp,by simp only [VR];exact ⟨rfl,rfl,none,0,rfl,.inl ⟨rfl,fun _=>rfl⟩⟩⟩⟩
 let enc:α->Value:=fun x=>x.1.2
 let av:α->AV:=fun x=>x.1.1.1
 let cf:α->α->Int:=fun x y=>jy x.1.1.2 y.1.1.2
 have hva:∀ x:α,VR E (av x) (enc x):=fun x=>x.2.2.2;have hsc:∀ x:α,jk (av x)=true:=fun x=>x.2.1.jk;have hone:OneCell enc:=fun x=>by
  obtain ⟨p,c,e,_⟩:=x.2.1.cells H x.2.2.2;show (x.1.2).oneCell'=true;rw [e];rfl
 have hO:SWO (ltOf cf):={
  irrefl:=fun x=>by show decide (jy _ _<0)=false;rw [kD];rfl
  trans:=fun x y z p q=>by
   have p:=of_decide_eq_true p;have q:=of_decide_eq_true q;exact decide_eq_true (gZ p q)
  ntrans:=fun x y z p q=>by
   have p:=of_decide_eq_false p;have q:=of_decide_eq_false q;exact decide_eq_false (Int.not_lt.2 (zc7 (Int.not_lt.1 p) (Int.not_lt.1 q))) }
 have each:∀ j,j<n->∃ x:α,ps[j]? = some x.1.1/\w.cell? ⟨b,off+j,none⟩=some (enc x)/\w.frozen? ⟨b,off+j,none⟩=false:=by
  intro j hj;have hjp:j<ps.length:=by omega
  obtain ⟨_,v',k1,k2⟩:=hc (off+j) (by omega);have he:T.get .undef (.of (off+j)) t=ps[j].1:=by
   have e1:=zY t off n j hj;rw [hp,List.getElem?_map,List.getElem?_eq_getElem hjp] at e1;exact (Option.some.inj e1).symm
  rw [he] at k2;obtain ⟨r1,r2⟩:=hr _ (Zam hjp);refine ⟨⟨(ps[j],v'),r1,r2,k2⟩,List.getElem?_eq_getElem hjp,by simp [World.cell?,h2,k1,enc],?_⟩;have:=g1 (off+j) (Array.getElem?_eq_some_iff.1 k1).1;simp only [World.frozen?,h2];obtain ⟨lo,hi⟩:=fr;simp only [Bool.and_eq_false_iff,decide_eq_false_iff_not];simp only at this;omega
 obtain ⟨D,hD⟩:=Go.Deep.choose_lt each;have hsz:((List.range n).map D).toArray.size=n:=by simp
 have hget:∀ j,j<n->((List.range n).map D).toArray[j]! = D j:=fun j hj=>by simp [getElem!_pos,hj]
 have hH:Holds enc w b off ((List.range n).map D).toArray:=by
  intro j hj;rw [hsz] at hj;rw [hget j hj];exact (hD j hj).2
 have hcmp:CmpLays1 Tryz.prog 201 #[] enc cf b off ((List.range n).map D).toArray.size w:=by
  intro k os dk hs x y;rw [hsz] at hs;obtain ⟨H',_⟩:=H.zke (k:=k) (os:=os) (l':=dk.toList) hva hsc hb hE (by rw [show dk.toList.length=n from Array.length_toList.trans hs];exact hm);obtain ⟨p1,c1,e1,m1⟩:=(x.2.1.set (b:=.cells op m (yS (dk.toList.map av) t off))).cells H' x.2.2.2;obtain ⟨p2,c2,e2,m2⟩:=(y.2.1.set (b:=.cells op m (yS (dk.toList.map av) t off))).cells H' y.2.2.2;have:=zcd p1 p2 _ c1 _ c2 x.1.1.2 y.1.1.2 (sortWorld enc w b off k dk os) rfl rfl x.2.2.1 y.2.2.1 m1 m2;show Go.Calls Tryz.prog 201 #[x.1.2,y.1.2] _ _;rw [e1,e2];exact this.mono fun e w' ⟨he,q,hq⟩=>⟨he,q,#[],by rw [hq,grow_empty]⟩
 have key:=Any.slices_SortFunc Tryz.sortF enc hone cf hO 201 #[] b off c ((List.range n).map D).toArray w (enters_of Tryz.func201 (by kernel_rfl) rfl) hcmp hH (H.lt _ _ _ hE).2 (by rw [hsz];omega);rw [hsz] at key;refine key.mono ?_;rintro e w' ⟨rfl,d',k,os,hP,hS,rfl⟩;obtain ⟨hd1,_,hperm⟩:=hP;rw [hsz] at hd1;have e1:d'.extract 0 n=d':=by rw [<- hd1];exact Array.extract_size
 have e2:((List.range n).map D).toArray.extract 0 n=((List.range n).map D).toArray:=by
  have := @Array.extract_size _ ((List.range n).map D).toArray
  rwa [hsz] at this
 rw [e1,e2] at hperm;have hps:((List.range n).map D).map (fun x:α=>x.1.1)=ps:=by
  refine Zba fun j => ?_;rw [List.getElem?_map,List.getElem?_map];by_cases hj:j<n
  ·rw [List.getElem?_range hj,(hD j hj).1];rfl
  ·rw [List.getElem?_eq_none (by simp;omega),List.getElem?_eq_none (by omega)];rfl
 have hpm:(d'.toList.map fun x:α=>x.1.1).Perm ps:=by rw [<- hps];exact hperm.map _
 have hqe:(d'.toList.map fun x:α=>x.1.1)=qs:=by
  refine List.Perm.eq_of_pairwise (le:=fun a b=>jy a.2 b.2<=0) ?_ ?_ hqs (hpm.trans hq.symm)
  ·intro a a' ha ha' p q;have e:a.2=a'.2:=sW (by have:=cO a.2 a'.2;omega);have ma:=hpm.mem_iff.1 ha;have ma':=hq.mem_iff.1 ha';exact hnd _ ma _ ma' e
  ·rw [Zbk,Zbe];intro i j hi hj hij;have hi':i<d'.size:=by simpa using hi
   have hj':j<d'.size:=by simpa using hj
   have:=hS i j (Nat.zero_le _) hij (by omega);rw [getElem!_pos d' j hj',getElem!_pos d' i hi'] at this;have:=of_decide_eq_false this;have e:jy d'[j].1.1.2 d'[i].1.1.2 = - jy d'[i].1.1.2 d'[j].1.1.2:=cO _ _;have f:¬ jy d'[j].1.1.2 d'[i].1.1.2<0:=this;simp only [Array.getElem_toList];omega
 obtain ⟨r1,r2⟩:=H.zke (k:=k) (os:=os) (l':=d'.toList) hva hsc hb hE (by rw [show d'.toList.length=n from Array.length_toList.trans hd1];exact hm);have e3:d'.toList.map av=qs.map (·.1):=by rw [<- hqe,List.map_map];rfl
 rw [e3] at r1;exact ⟨_,E,rfl,by simp only [VR,VRL];exact ⟨_,rfl,rfl⟩,r1,r2⟩
end Go.Ev
namespace Go.Ev
open Go Go.Proofs
variable {B:Nat}
set_option maxRecDepth 100000
theorem zso {h0 h:T Blk} {nx p id:Pa} {L:List Ob} {k n:Nat} {K:Kw Prop} {q s:List (List Int)} (H:Hp h0 h nx L) (hk:L[k]? = some (.gro (some id) 1 n (q.map encI))) (hn:n<=1000000) (hw:∀ a∈q,a.length<=1000000)
  (hq:s.Perm q) (hs:s.Pairwise fun a b=>jy a b<=0) (hK:∀ h',Hp h0 h' nx (L.set k (.gro (some id) 1 n (s.map encI)))->K (.tup []) h' nx=.ok True):(CS Tryz.prog B).fn 200 p [qp (some id) 1 n,.fn 201 (.of 201) []] h nx K=.ok True:=by
 obtain ⟨t,h1,h2,h3⟩:=H.own _ (Zaa hk);rw [Zaj] at h2;have hsl:(s.map encI).length=n*1:=by rw [Zaj,hq.length_eq,h2]
 have hm1:∀ l:List (List Int),(l.map fun a=>(encI a,a)).map (·.1)=l.map encI:=fun l=>by rw [List.map_map];rfl
 refine zjq (zp4 (ps:=q.map fun a=>(encI a,a)) (qs:=s.map fun a=>(encI a,a)) (off:=0) (o:=none) h1 (by omega) hn (by rw [hm1];rw [Zby] at h3;exact h3)
  (fun a ha=>by obtain ⟨x,hx,rfl⟩:=List.mem_map.1 ha;exact ⟨.inl rfl,hw x hx⟩) (fun a ha a' ha' e=>by
   obtain ⟨x,hx,rfl⟩:=List.mem_map.1 ha;obtain ⟨y,hy,rfl⟩:=List.mem_map.1 ha';have:x=y:=e;rw [this]) (hq.map _) (List.pairwise_map.2 hs)) (v:=.tup []) (h2:=T.set .no (.cells true (n*1) (yS ((s.map fun a=>(encI a,a)).map (·.1)) t 0)) id h) (if_pos ⟨rfl,rfl,rfl⟩) (hK _ ?_)
 rw [hm1];refine H.upd hk (by simp [Ob.names]) rfl ⟨_,T.get_set_same ..,hsl,?_⟩;have:=kC t [] (s.map encI) 0 rfl;rw [Zav,List.nil_append,hsl] at this;exact this
def Kept (s r:List (List Int)) (j:Nat):Prop:=AscT r/\(∀ x,x∈r↔x∈s.take j)/\1<=r.length/\r.length<=j/\r.getLast? = s[j-1]?
theorem Kept.same {s r:List (List Int)} {j:Nat} (hj:1<=j) (h:Kept s r j) (hl:j<s.length) (e:s[j]=s[j-1]):Kept s r (j+1):=by
 obtain ⟨h1,h2,h3,h4,h5⟩:=h;have hp:s[j-1]? = some s[j-1]:=List.getElem?_eq_getElem (by omega);refine ⟨h1,fun x => ?_,h3,by omega,?_⟩
 ·rw [h2,Zar,List.getElem?_eq_getElem hl,Zap];constructor
  ·exact .inl
  ·rintro (q | q)
   ·exact q
   ·have:x=s[j-1]:=by rw [<- e];simpa using q
    rw [this];exact Zaa (i:=j-1) (by rw [List.getElem?_take_of_lt (by omega)];exact hp)
 ·rw [h5,hp,Nat.add_sub_cancel,List.getElem?_eq_getElem hl,e]
theorem Kept.new {s r:List (List Int)} {j:Nat} (hj:1<=j) (h:Kept s r j) (hs:s.Pairwise fun a b=>jy a b<=0) (hl:j<s.length) (e:s[j]≠s[j-1]):Kept s (r++[s[j]]) (j+1):=by
 obtain ⟨h1,h2,h3,h4,h5⟩:=h;have hlt:∀ x∈s.take j,yQ x s[j]=true:=fun x hx=>by
  have hpw:=List.pairwise_iff_getElem.1 hs;obtain ⟨i,hi⟩:=List.getElem?_of_mem hx;have hil:=(List.getElem?_eq_some_iff.1 hi).1;rw [Zay] at hil;rw [List.getElem?_take_of_lt (by omega),List.getElem?_eq_getElem (by omega)] at hi;obtain rfl:=Option.some.inj hi;have a1:=hpw i j (by omega) hl (by omega);have a2:=hpw (j-1) j (by omega) hl (by omega);have a3:jy s[j-1] s[j]≠0:=fun q=>e (sW q).symm;rw [uP];by_cases q:i=j-1
  ·subst q;exact decide_eq_true (by omega)
  ·have a4:=hpw i (j-1) (by omega) (by omega) (by omega);by_cases z:jy s[i] s[j-1]=0
   ·rw [sW z];exact decide_eq_true (by omega)
   ·exact decide_eq_true (gZ (b:=s[j-1]) (by omega) (by omega))
 refine ⟨List.pairwise_append.2 ⟨h1,by simp,fun x hx y hy => ?_⟩,fun x => ?_,by simp,by simp;omega,?_⟩
 ·rw [List.mem_singleton.1 hy];exact hlt x ((h2 x).1 hx)
 ·rw [Zap,h2,Zar,List.getElem?_eq_getElem hl,Zap];simp
 ·rw [Nat.add_sub_cancel,List.getElem?_eq_getElem hl];simp
theorem zd6 {C:Calls Prop} {f:Nat} {p:Pa} {args:List AV} {h:T Blk} {nx:Pa} {K:KW3}:bE C (.fn f p []) args h nx K=C.fn f p args h nx K:=by
 show C.fn f p (args++[]) h nx K=_;rw [Zch]
theorem Hp.zvv {h0 h:T Blk} {nx:Pa} {L:List Ob} {k n i:Nat} {id:Pa} {l:List AV} {K:KW3} (H:Hp h0 h nx L) (hk:L[k]? = some (.gro (some id) 1 n l)) (hi:i<n) (hl:l.length=n)
  (hK:∀ h',Hp h0 h' nx (L.set k (.gro (some id) 1 n (l.take i++List.replicate (n-i) .zf)))->K .undef h' nx=.ok True):sClr 1 [.zf] (zdk (some id) 1 n i) h nx K=.ok True:=by
 obtain ⟨t,h1,h2,h3⟩:=H.own _ (Zaa hk);have hd:zdk (some id) 1 n i=.sl id (0+i*1) (n-i) none 1:=by
  by_cases c:i=0
  ·subst c;rfl
  ·simp only [zdk,aX c,Zab (show i+1<=n by omega),cond_true,cond_false]
 rw [hd]
 show (bif Nat.beq 1 1&&Nat.ble 1 (n-i) then jr (T.get .no id h) (fun op m t=>bif Nat.ble (0+i*1+(n-i)*1) m&&Nat.beq [AV.zf].length 1&&[AV.zf].all jk then
   gI (fD (n-i) [.zf]) t (0+i*1) fun t'=>T.xg .no (.cells op m t') id h fun h'=>K .undef h' nx else .no 57) (.no 57) else bif Nat.beq (n-i) 0 then K .undef h nx else .no 57)=_
 rw [Zaw,Zab (by omega),h1];show (bif Nat.ble (0+i*1+(n-i)*1) (n*1)&&Nat.beq [AV.zf].length 1&&[AV.zf].all jk then _ else _)=_;rw [Zab (by omega)];show gI (fD (n-i) [.zf]) t (0+i*1) (fun t'=>T.xg .no (.cells true (n*1) t') id h fun h'=>K .undef h' nx)=_;rw [yO,T.jg];refine hK _ (H.upd hk (by simp [Ob.names]) rfl ⟨_,T.get_set_same ..,by simp;omega,?_⟩);have e1:fD (n-i) [AV.zf]=List.replicate (n-i) .zf:=zbv _ _;rw [e1];have e2:l.take i=yG t 0 i:=by rw [<- h3,bF _ _ _ _ (by omega)]
 have:=kC t (l.take i) (List.replicate (n-i) .zf) i e2.symm;rw [List.length_replicate] at this;rw [show 0+i*1=i by omega,show n*1=i+(n-i) by omega];exact this
theorem zi6 {h0 h:T Blk} {nx p id:Pa} {L:List Ob} {k n:Nat} {K:Kw Prop} {s:List (List Int)} (H:Hp h0 h nx L) (hk:L[k]? = some (.gro (some id) 1 n (s.map encI))) (hsl:s.length=n) (hn0:1<=n) (hn:n<=100000) (hw:∀ a∈s,a.length<=1000000)
  (hs:s.Pairwise fun a b=>jy a b<=0) (hK:∀ (r:List (List Int)) (X:List AV) h',Kept s r n->Hp h0 h' nx (L.set k (.gro (some id) 1 n (r.map encI++X)))->K (qp (some id) 1 r.length) h' nx=.ok True):(CS Tryz.prog B).fn 202 p [qp (some id) 1 n,.fn 158 (.of 158) []] h nx K=.ok True:=by
 refine gH (p:=.of 202) (K:=K) (zR zW yw 10000000 fun hf => ?_) fun _ _ _ _ q=>q;have hkl:=(List.getElem?_eq_some_iff.1 hk).1;have hstart:Kept s (s.take 1) 1:=by
  have h1:s.take 1=[s[0]'(by omega)]:=by
   rw [show (1:Nat)=0+1 from rfl,Zar,List.getElem?_eq_getElem (by omega)];rfl
  refine ⟨by rw [h1];simp,fun x=>.rfl,by rw [h1];simp,by rw [h1];simp,by rw [h1];simp⟩
 have keep:∀ {h' nx'},Hp h0 h' nx' L->Hp h0 h' nx' (L.set k (.gro (some id) 1 n (s.map encI))):=fun {h' nx'} H'=>by
  have:L.set k (.gro (some id) 1 n (s.map encI))=L:=by
   apply Zba;intro j;rw [List.getElem?_set];split
   ·rename_i e;subst e;rw [hk]
   ·rfl
  rw [this];exact H'
 rw [zi.go,zi.t48,zA,zi.xq,zi.t47,zA,zi.t5,zA,zi.xu,H.zah hk,qm,zi.t4,zG,zi.v6];by_cases c1:n<2
 ·rw [decide_eq_true (by omega),zC,zi.t3,zA,zi.fO];simp only [zT,yL];rw [zi.ret];obtain rfl:n=1:=by omega
  have:=hK (s.take 1) [] _ hstart (by rw [Zan (by omega),Zch];exact keep H);rw [Zay,hsl] at this;exact this
 rw [decide_eq_false (by omega),zD,zO,zi.t46,zA,zi.t43,zA,zi.t6_s,zi.t42,zP];refine zi.zwl (fun m x3 h' nx'=>∃ i:Nat,x3=I i/\m=n-i/\1<=i/\i<=n/\Kept s (s.take i) i/\h'=h/\nx'=nx) (m:=n-1) (by omega) ⟨1,rfl,rfl,by omega,by omega,hstart,rfl,rfl⟩ ?_;rintro m z2 z3 z4 z5 z7 z8 z9 z10 h1 nx1 R ⟨i,rfl,rfl,hi1,hi,hkp,rfl,rfl⟩ hR;rw [zi.t40,zA,zi.t9,zA,zi.t7_s,H.zah hk,qm];by_cases hlt:i<n
 case neg =>
  rw [decide_eq_false (by omega),zi.t8,zG,zi.v7,zD,y8,j8,zi.t45,zA,zi.zwm];simp only [zT,yL];rw [zi.ret];obtain rfl:i=n:=by omega
  have:=hK (s.take i) [] _ hkp (by rw [Zan (by omega),Zch];exact keep H);rw [Zay,hsl,Nat.min_self] at this;exact this
 have hii:i<s.length:=by omega
 have hx:(s.map encI)[i]? = some (encI s[i]):=by rw [List.getElem?_map,List.getElem?_eq_getElem hii];rfl
 have hy:(s.map encI)[i-1]? = some (encI s[i-1]):=by rw [List.getElem?_map,List.getElem?_eq_getElem (by omega)];rfl
 have ix:∀ (j:Nat) (z:Int),z=(j:Int)->j<n->∀ op:AV->OP,zS 1 (qp (some id) 1 n) (I z) op=op (.ptr id j):=fun j z hz hj op=>by
  show zS 1 (.sl id 0 n none 1) (I z) op=_;exact sIx hz hj
 rw [decide_eq_true (by omega),zi.t8,zG,zi.v7,zC,zO,zi.t39,zA,zi.t37,zP,zi.t36,zA,zi.sN,ix i _ rfl hlt,H.zao hk hx,aQ (by omega),ix (i-1) _ (by omega) (by omega),H.zao hk hy,zd6];refine zgq (by have:=hw _ (Zam hii);omega) _ _ _ _ ?_;rintro _ rfl _;rw [zi.t35,zG,zi.v8];by_cases ce:s[i]=s[i-1]
 case neg =>
  rw [decide_eq_false ce,zD,zO,zi.zfo,wo (by omega)];have:=hkp.new hi1 hs hii ce;have e:s.take i++[s[i]]=s.take (i+1):=by rw [Zar,List.getElem?_eq_getElem hii];rfl
  rw [e] at this;exact hR _ _ _ _ _ _ _ _ _ _ _ (by omega) ⟨i+1,rfl,rfl,by omega,by omega,this,rfl,rfl⟩
 have hsame:=hkp.same hi1 hii ce;have hlo:∀ op:AV->OP,jX 1 (qp (some id) 1 n) (some (I (i:Int))) none none op=op (.sl id (0+i*1) (n-i) none 1):=by
  intro op;rw [H.zto hk (by omega)];simp only [zdk,aX (show i≠0 by omega),Zab (show i+1<=n by omega),cond_true,cond_false]
 rw [decide_eq_true ce,zC,zi.t34,zA,zi.aZ,hlo,zi.t33,zA,zi.t28,zA,zi.zam,zi.t27,zP]
 refine zi.zmz (fun m x3 x5 h' nx'=>∃ (r:List (List Int)) (j:Nat) (X:List AV),x3=I r.length/\x5=I j/\m=n-i-j/\1<=j/\j<=n-i/\Kept s r (i+j)/\r.length<i+j/\nx'=nx1/\X.length=n-r.length/\(∀ q,i+j-1<=q->q<n->(r.map encI++X)[q]? = (s.map encI)[q]?)/\Hp h0 h' nx' (L.set k (.gro (some id) 1 n (r.map encI++X)))) (m:=n-i-1) (by omega)
  ⟨s.take i,1,(s.drop i).map encI,by rw [Zay,Nat.min_eq_left (by omega)],rfl,rfl,by omega,by omega,hsame,by rw [Zay];omega,rfl,by simp;omega,fun q _ _=>by rw [<- Zbc,List.take_append_drop],by rw [<- Zbc,List.take_append_drop];exact keep H⟩ ?_
 rintro m y3 y5 y9 y10 h6 nx6 R' ⟨r,j,X,rfl,rfl,rfl,hj1,hj,hkr,hrl,rfl,hXl,hX,H6⟩ hR';have hrk:(L.set k (.gro (some id) 1 n (r.map encI++X)))[k]? = some (.gro (some id) 1 n (r.map encI++X)):=List.getElem?_set_self hkl;have hrlen:(r.map encI++X).length=n:=by rw [Zas,Zaj,hXl];have:=hkr.2.2.2.1;omega
 rw [zi.t25,zA,zi.t15,zA,zi.zm0,jM,qm];by_cases hlt2:j<n-i
 case neg =>
  rw [decide_eq_false (by omega),zi.t14,zG,zi.v9,zD,y8,j8,zi.t32,zA,zi.zwk,H6.zto hrk (by omega)];refine H6.zvv hrk (by omega) hrlen fun h7 H7 => ?_;rw [List.set_set] at H7;have hk7:(L.set k (.gro (some id) 1 n ((r.map encI++X).take r.length++List.replicate (n-r.length) .zf)))[k]? = some (.gro (some id) 1 n ((r.map encI++X).take r.length++List.replicate (n-r.length) .zf)):=List.getElem?_set_self hkl;rw [zi.t31,zA,zi.zc9,H7.zyv hk7 (by omega)];simp only [zT,xV,yL];rw [zi.ret];have e:(r.map encI++X).take r.length=r.map encI:=by rw [List.take_left' (by simp)]
  rw [e] at H7;obtain rfl:j=n-i:=by omega
  rw [show i+(n-i)=n by omega] at hkr;exact hK r _ _ hkr H7
 have hjj:i+j<s.length:=by omega
 have hrn:r.length<n:=by omega
 have hn0:0<n:=by omega
 have hX0:0<X.length:=by omega
 have hx2:(r.map encI++X)[i+j]? = some (encI s[i+j]):=by rw [hX _ (by omega) (by omega),List.getElem?_map,List.getElem?_eq_getElem hjj];rfl
 have hy2:(r.map encI++X)[i+j-1]? = some (encI s[i+j-1]):=by rw [hX _ (by omega) (by omega),List.getElem?_map,List.getElem?_eq_getElem (by omega)];rfl
 have ix2:∀ (q:Nat) (z:Int),z=(q:Int)->q<n-i->∀ op:AV->OP,zS 1 (.sl id (0+i*1) (n-i) none 1) (I z) op=op (.ptr id (i+q)):=fun q z hz hq op=>by
  subst hz;rw [kO hq];rw [show 0+i*1+q*1=i+q by omega]
 rw [decide_eq_true (by omega),zi.t14,zG,zi.v9,zC,zO,zi.t24,zA,zi.t22,zP,zi.t21,zA,zi.au,ix2 j _ rfl hlt2,H6.zao hrk hx2,aQ (by omega),ix2 (j-1) _ (by omega) (by omega),show i+(j-1)=i+j-1 by omega,H6.zao hrk hy2,zd6];refine zgq (by have:=hw _ (Zam hjj);omega) _ _ _ _ ?_;rintro _ rfl _;rw [yX,zi.t20,zG,zi.v10];by_cases ce2:s[i+j]=s[i+j-1]
 ·rw [decide_eq_true ce2,Zah,zD,zO,zi.zda,wo (by omega)];exact hR' (n-i-(j+1)) _ _ _ _ _ _ (by omega) ⟨r,j+1,X,rfl,rfl,by omega,by omega,by omega,hkr.same (show 1<=i+j by omega) hjj ce2,by omega,rfl,hXl,fun q h1 h2=>hX q (by omega) h2,H6⟩
 ·rw [decide_eq_false ce2,Zak,zC,zi.t19,zA,zi.oO,ix2 j _ rfl hlt2,H6.zao hrk hx2,ix r.length _ rfl (by omega)];refine H6.zok hrk (by rw [hrlen];exact hrn) rfl fun h7 H7 => ?_;rw [List.set_set] at H7;rw [zi.zak,wo (by omega),zi.zda,wo (by omega)];obtain ⟨x0,X',rfl⟩:∃ x0 X',X=x0::X':=by cases X with
   | nil=>simp at hXl;omega
   | cons a b=>exact ⟨a,b,rfl⟩
  have e:(r.map encI++x0::X').set r.length (encI s[i+j])=(r++[s[i+j]]).map encI++X':=by
   have:=pH (r.map encI) x0 (encI s[i+j]) X';rw [Zaj] at this;rw [this,Zbc,Zbp];rfl
  have hX2:∀ q,r.length<q->((r++[s[i+j]]).map encI++X')[q]? = (r.map encI++x0::X')[q]? := fun q hq=>by
   rw [<- e,List.getElem?_set_ne (by omega)]
  rw [e] at H7;refine hR' (n-i-(j+1)) _ _ _ _ _ _ (by omega) ⟨r++[s[i+j]],j+1,X',by simp,rfl,by omega,by omega,by omega,hkr.new (show 1<=i+j by omega) hs hjj ce2,by simp;omega,rfl,?_,fun q h1 h2=>by rw [hX2 q (by omega)];exact hX q (by omega) h2,H7⟩;have:X'.length+1=n-r.length:=by simpa using hXl
  simp;omega
theorem Hp.zsp {id:Pa} {n:Nat} {l X:List AV} {h0 h:T Blk} {nx:Pa} {L:List Ob} {k:Nat} (H:Hp h0 h nx L) (hk:L[k]? = some (.gro (some id) 1 n (l++X))) (hf:∀ v∈l,rU v=true):aP h0 h (qp (some id) 1 l.length) (.lst 1 l.length l):=by
 have own:=H.own _ (Zaa hk);have hoff:=H.off;obtain ⟨t,h1,h2,h3⟩:=own;rw [Zas] at h2;refine .sl _ _ _ _ _ true _ t _ (hoff id (List.mem_flatMap.2 ⟨_,Zaa hk,by simp [Ob.names]⟩)) trivial h1 (by omega) (by omega) (List.all_eq_true.2 fun v hv=>rU.jk (hf v hv)) fun i v hi => ?_;have hil:=(List.getElem?_eq_some_iff.1 hi).1;have:=zY t 0 (n*1) i (by omega);rw [h3,List.getElem?_append_left hil,hi] at this;rw [<- Option.some.inj this];exact zH (hf v (Zaa hi))
theorem uY {a b c:List Int} (h1:jy a b<=0) (h2:jy b c<=0):jy a c<=0:=by
 by_cases z1:jy a b=0
 ·rw [sW z1];exact h2
 ·by_cases z2:jy b c=0
  ·rw [<- sW z2];exact h1
  ·have:=gZ (a:=a) (b:=b) (c:=c) (by omega) (by omega);omega
theorem zmc (q:List (List Int)):∃ s:List (List Int),s.Perm q/\s.Pairwise fun a b=>jy a b<=0:=by
 refine ⟨q.mergeSort fun a b=>decide (jy a b<=0),List.mergeSort_perm ..,?_⟩
 have:=List.pairwise_mergeSort (le:=fun a b:List Int=>decide (jy a b<=0)) (fun a b c h1 h2=>by
  exact decide_eq_true (uY (of_decide_eq_true h1) (of_decide_eq_true h2))) (fun a b=>by
  have n1:=cO a b;simp;omega) q
 exact this.imp fun h=>of_decide_eq_true h
def fP (G:List Sym) (f:List Int):List (List Int):=G.map fun a=>yN a.2 a.1 f
def imgV (G:List Sym) (f:List Int):AV:=if (fP G f).any (·.any aN) then .tup [.zf,I 3] else .tup [oV (gB (fP G f)),I 0]
theorem zmd {s q r:List (List Int)} {n:Nat} (hp:s.Perm q) (hn:s.length=n) (hk:Kept s r n):r=gB q:=by
 refine m9 hk.1 (wS q) fun x => ?_;rw [hk.2.1,Zan (by omega),hp.mem_iff,bg]
theorem zme {G:List Sym} {f:List Int} (ok:pq G f.length) (hf:vA f=0):Pure Tryz.prog B 157 [jl G,encI f] (· = imgV G f):=by
 refine yJ fun h nx K H0 hK=>zR zW yw 10000000 fun hf' => ?_;have hgl:=ok.len;obtain ⟨hf1,hf2⟩:=zlx hf;rw [yj.go,yj.t23,zA,yj.xq];refine H0.box (l:=[encI f]) rfl fun b2 h1 nx1 H1 => ?_;refine H1.alloc fun b3 h2 nx2 H2 => ?_;refine H2.alloc fun b4 h3 nx3 H3 => ?_;rw [yj.t22,zA,yj.xu];refine H3.alloc fun b5 h4 nx4 H4 => ?_;rw [yj.t21,zA,yj.t16,zA,yj.fO];refine bA _ _ _ _ ?_;rintro _ rfl _;rw [yj.t15,zP,yj.t14];have H5:=H4.oZ 1
 refine zj8 H5 yj.zwi (fun v w k=>yj.zwj k) (by omega)
  (fun i L'=>(fP (G.take i) f).any (·.any aN)=false/\∃ o,L'=[.gro o 1 i ((fP (G.take i) f).map encI),.arr b5 [qp o 1 i],.arr b4 [I 0],.arr b3 [.zf],.arr b2 [encI f]])
  (fun L'=>(fP G f).any (·.any aN)=true/\∃ o i l,L'=[.gro o 1 i l,.arr b5 [qp o 1 i],.arr b4 [I 3],.arr b3 [.zf],.arr b2 [encI f]]) (fun _ _=>False) ⟨rfl,none,rfl⟩
  (fun i x Rb Rb' h6 nx6 L' M E O1 O2 hx hJ H6 hM hE hR hX => ?_) (fun h6 nx6 L' hJ H6 => ?_) (fun h6 nx6 L' hX H6 => ?_) (fun _ _ _ _ hX _=>hX.elim)
 ·obtain ⟨hfar,o,rfl⟩:=hJ;have hxm:=Zaa hx;have hil:=(List.getElem?_eq_some_iff.1 hx).1;have hdp:=ok.dp x hxm;have hal:(yN x.2 x.1 f).length=f.length:=jW ..;have htk:fP (G.take (i+1)) f=fP (G.take i) f++[yN x.2 x.1 f]:=by
   unfold fP;rw [Zar,hx,Zbc];rfl
  rw [yj.rY];refine H6.alloc fun b9 h7 nx7 H7 => ?_;refine H7.jo (k:=0) (n:=2) rfl rfl rfl fun h8 H8 => ?_;refine hM _ _ _ [_] H8 fun h9 H9 => ?_;rw [yj.t13,zP,yj.t12,zA,yj.t4_s,H9.zh (k:=0) (n:=2) rfl rfl,H9.load (k:=6) (i:=0) rfl rfl];refine zpw (g:=x.1) (c:=x.2) (by omega) (by rw [hdp.1.1]) hdp.perm (fun y hy=>by have:=hf2 y hy;omega) _ _ _ _ ?_;rintro _ rfl _;rw [yj.t11,zA,yj.t9,zA,yj.t5_s];refine zgr (l:=yN x.2 x.1 f) (by omega) (fun x _ K hK=>zpx x _ _ _ _ fun v hv _=>by rw [hv];exact hK) ?_;rw [yj.t8,zG,yj.v11];by_cases c:(yN x.2 x.1 f).any aN=true
  ·rw [c,zC,yj.t7,zA,yj.t6_s];refine H9.store (k:=5) rfl (by simp) rfl fun h10 H10 => ?_;refine H10.store (k:=4) rfl (by simp) rfl fun h11 H11 => ?_;simp only [zT,xV];exact hR _ _ _ [_] _ ⟨List.any_eq_true.2 ⟨_,List.mem_map.2 ⟨x,hxm,rfl⟩,c⟩,o,i,_,rfl⟩ H11
  ·have c:(yN x.2 x.1 f).any aN=false:=by cases q:(yN x.2 x.1 f).any aN <;> simp_all
   rw [c,zD,zO,yj.sN,H9.load (k:=3) (i:=0) rfl rfl];refine H9.zy (l:=[encI (yN x.2 x.1 f)]) rfl fun tb h15 nx15 H15 => ?_;refine H15.appN (k:=3) (o:=o) (c:=1) (esz:=1) (new:=[encI (yN x.2 x.1 f)]) rfl (ji.rd (l:=[encI (yN x.2 x.1 f)]) (n:=1) (e:=1) (H15.own _ (Zal ..)) rfl) rfl rfl (by decide) (by decide) (by omega) fun o'' h16 nx16 _ H16 => ?_;refine H16.store (k:=4) rfl (by simp) (uJ _ _ _) fun h17 H17 => ?_;refine hE _ _ _ [_,_] _ ⟨by rw [htk,List.any_append,hfar];simpa using c,o'',?_⟩ H17;rw [htk,Zbc]
   rfl
 ·obtain ⟨hfar,o,rfl⟩:=hJ;rw [Zan (Zai _)] at H6 hfar;have hne:0<G.length:=List.length_pos_iff.2 ok.ne;obtain ⟨id,rfl⟩:∃ id,o=some id:=by
   cases o with
   | some id=>exact ⟨id,rfl⟩
   | none=>obtain ⟨h1,h2⟩:=H6.own _ (Zal ..);omega
  obtain ⟨s,hs1,hs2⟩:=zmc (fP G f);have hil:(fP G f).length=G.length:=Zaj _;have hw:∀ a∈fP G f,a.length<=1000000:=fun a ha=>by
   obtain ⟨x,_,rfl⟩:=List.mem_map.1 ha;rw [jW];omega
  rw [yj.t20,zA,yj.oO,H6.load (k:=1) (i:=0) rfl rfl];refine zso H6 (k:=0) rfl (by omega) hw hs1 hs2 fun h7 H7 => ?_;rw [yj.t19,zA,yj.zak,H7.load (k:=1) (i:=0) rfl rfl];refine zi6 (k:=0) H7 rfl (by rw [hs1.length_eq,hil]) hne (by omega) (fun a ha=>hw a (hs1.mem_iff.1 ha)) hs2 fun r X h8 hkr H8 => ?_;have hr:=zmd hs1 (by rw [hs1.length_eq,hil]) hkr;subst hr;refine H8.store (k:=3) rfl (by simp) (uJ _ _ _) fun h9 H9 => ?_;refine H9.store (k:=2) rfl (by simp) rfl fun h10 H10 => ?_;simp only [zT,yL];rw [yj.ret,H10.load (k:=3) (i:=0) rfl rfl,H10.load (k:=2) (i:=0) rfl rfl];have fz:=H10.zsp (k:=0) (id:=id) (n:=G.length) (l:=(gB (fP G f)).map encI) (X:=X) rfl fun v hv=>by obtain ⟨a,_,rfl⟩:=List.mem_map.1 hv;exact gM a
  rw [Zaj] at fz;exact hK _ _ _ _ _ H10 (j5 fz (zH rfl)) (by rw [imgV,hfar];rfl)
 ·obtain ⟨hany,o,i,l,rfl⟩:=hX;simp only [xV,yL];rw [yj.ret,H6.load (k:=3) (i:=0) rfl rfl,H6.load (k:=2) (i:=0) rfl rfl];exact hK _ _ _ _ _ H6 (j5 (zH rfl) (zH rfl)) (by rw [imgV,hany];rfl)
def actE (G:List Sym) (f:List Int):Int:=if vA f≠0 then vA f else yU G f.length
theorem zmf {G:List Sym} {f:List Int} (hG:G.length<=100000) (hw:∀ g∈G,g.1.length<=100000) (hfl:f.length<=100000):Pure Tryz.prog B 156 [jl G,encI f] (· = I (actE G f)):=by
 refine yJ fun h nx K H0 hK=>zR zW yw 1000 fun hf' => ?_;rw [jm.go,jm.t11,zA,jm.xq,jm.t10,zA,jm.t7,zA,jm.xu]
 (refine zsb (by omega) _ _ _ _ ?_;rintro _ rfl _)
 rw [jm.t6,zA,jm.fO,vw,jm.t5,zG,jm.v4];by_cases c:vA f=0
 case neg =>
  rw [decide_eq_false c,Zak,zC,jm.t4,zA,jm.rY];simp only [zT,yL];rw [jm.ret];exact hK _ _ _ _ _ H0 (zH rfl) (by rw [actE,if_pos c])
 rw [decide_eq_true c,Zah,zD,zO,jm.t9,zA,jm.eX,zI];refine kT hG hw _ _ _ _ ?_;rintro _ rfl _;simp only [zT,yL];rw [jm.ret];exact hK _ _ _ _ _ H0 (zH rfl) (by rw [actE,if_neg (fun q=>q c)])
theorem zkf {G:List Sym} {f:List Int} (h:actE G f=0):vA f=0/\pq G f.length:=by
 unfold actE at h;by_cases c:vA f=0
 ·rw [if_neg (fun q=>q c)] at h;obtain ⟨n,hn,ok⟩:=qL h;obtain rfl:f.length=n:=by omega
  exact ⟨c,ok⟩
 ·rw [if_pos c] at h;exact absurd h c
def orbV (G:List Sym) (f:List Int):AV:=if actE G f≠0 then .tup [.zf,I (actE G f)] else imgV G f
theorem zsq {G:List Sym} {f:List Int} (hG:G.length<=100000) (hw:∀ g∈G,g.1.length<=100000) (hfl:f.length<=100000):Pure Tryz.prog B 75 [jl G,encI f] (· = orbV G f):=by
 refine yJ fun h nx K H0 hK=>zR zW yw 1000 fun hf' => ?_;rw [F75.go,F75.t11,zA,F75.xq,F75.t10,zA,F75.t7,zA,F75.xu];refine zmf hG hw hfl _ _ _ _ ?_;rintro _ rfl _;rw [F75.t6,zA,F75.fO,vw,F75.t5,zG,F75.v5];by_cases c:actE G f=0
 case neg =>
  rw [decide_eq_false c,Zak,zC,F75.t4,zA,F75.rY];simp only [zT,yL];rw [F75.ret];exact hK _ _ _ _ _ H0 (j5 (zH rfl) (zH rfl)) (by rw [orbV,if_pos c])
 obtain ⟨hf,ok⟩:=zkf c;rw [decide_eq_true c,Zah,zD,zO,F75.t9,zA,F75.eX];refine zme ok hf _ _ _ _ ?_;rintro _ rfl _;by_cases d:(fP G f).any (·.any aN)=true
 ·have e:imgV G f=.tup [.zf,I 3]:=by rw [imgV,d];rfl
  rw [e,yY,jB];simp only [zT,yL];rw [F75.ret];exact hK _ _ _ _ _ H0 (j5 (zH rfl) (zH rfl)) (by rw [orbV,if_neg (fun q=>q c),e])
 ·have e:imgV G f=.tup [oV (gB (fP G f)),I 0]:=by rw [imgV,if_neg d]
  rw [e,yY,jB];simp only [zT,yL];rw [F75.ret];exact hK _ _ _ _ _ H0 (j5 (zH (m4 _)) (zH rfl)) (by rw [orbV,if_neg (fun q=>q c),e])
def qB (G:List Sym) (f:List Int):Int:=if actE G f≠0 then actE G f else if (fP G f).any (·.any aN) then 3 else 0
theorem zp5 {G:List Sym} {f:List Int} (h:qB G f≠0):orbV G f=.tup [.zf,I (qB G f)]:=by
 unfold orbV qB at *
 by_cases c:actE G f=0
 ·rw [if_neg (fun q=>q c)] at h ⊢;rw [if_neg (fun q=>q c),imgV];by_cases d:(fP G f).any (·.any aN)=true
  ·rw [if_pos d,if_pos d]
  ·rw [if_neg d] at h;exact absurd rfl h
 ·rw [if_pos c,if_pos c]
theorem zsr {G:List Sym} {f:List Int} (h:qB G f=0):orbV G f=.tup [oV (gB (fP G f)),I 0]:=by
 unfold orbV qB at *
 by_cases c:actE G f=0
 ·rw [if_neg (fun q=>q c)] at h ⊢;rw [imgV];by_cases d:(fP G f).any (·.any aN)=true
  ·rw [if_pos d] at h;cases h
  ·rw [if_neg d]
 ·rw [if_pos c] at h;exact absurd h c
theorem zkg {G:List Sym} {f:List Int} (ok:pq G f.length):0<(gB (fP G f)).length:=by
 have hm:yN (idS f.length).2 (idS f.length).1 f∈gB (fP G f):=bg.2 (List.mem_map.2 ⟨_,ok.one,rfl⟩);exact List.length_pos_of_mem hm
def canV (G:List Sym) (f:List Int):AV:=if qB G f≠0 then .tup [.zf,I (qB G f)] else .tup [encI ((gB (fP G f)).headD []),I 0]
theorem zt1 {l:List (List Int)} (h:0<l.length):l[0]? = some (l.headD []):=by
 cases l with
 | nil=>simp at h
 | cons a l=>rfl
theorem zhf {G:List Sym} {f:List Int} (hG:G.length<=100000) (hw:∀ g∈G,g.1.length<=100000) (hfl:f.length<=100000):Pure Tryz.prog B 47 [jl G,encI f] (· = canV G f):=by
 refine yJ fun h nx K H0 hK=>zR zW yw 1000 fun hf' => ?_;rw [F47.go,F47.t11,zA,F47.xq,F47.t10,zA,F47.xu];refine zsq hG hw hfl _ _ _ _ ?_;rintro _ rfl _;by_cases c:qB G f=0
 case neg =>
  rw [zp5 c,yY,jB,F47.t9,zA,F47.t6,zA,F47.fO,vw,decide_eq_false c,Zak,F47.t5,zG,F47.v6,zC,F47.t4,zA,F47.rY];simp only [zT,yL];rw [F47.ret];exact hK _ _ _ _ _ H0 (j5 (zH rfl) (zH rfl)) (by rw [canV,if_pos c])
 have ca:actE G f=0:=Decidable.byContradiction fun q=>by unfold qB at c;rw [if_pos q] at c;exact q c
 obtain ⟨hf,ok⟩:=zkf ca;have hp:=zkg ok;rw [zsr c,yY,jB,F47.t9,zA,F47.t6,zA,F47.fO,vw,decide_eq_true rfl,Zah,F47.t5,zG,F47.v6,zD,zO,F47.t8,zA,F47.t7_s,fG (j:=0) (i:=0) rfl hp,ldL (getT (zt1 hp))];simp only [zT,yL];rw [F47.ret];exact hK _ _ _ _ _ H0 (j5 (zH (gM _)) (zH rfl)) (by rw [canV,if_neg (fun q=>q c)])
def kL (G:List Sym) (f:List Int):List Sym:=G.filter (zck f f)
def LT (v:AV) (l:List (List Int)):Prop:=(v=.zf/\l=[])\/(v=oV l/\l≠[])
theorem LT.len {v:AV} {l:List (List Int)} (h:LT v l) {op:AV->OP}:sLen v op=op (I l.length):=by
 rcases h with ⟨rfl,rfl⟩ | ⟨rfl,_⟩
 ·exact yW
 ·exact zI ..
theorem LT.frz {v:AV} {l:List (List Int)} (h:LT v l) {N:Pa->Prop} {O:AV->Prop} {hh:T Blk}:Frz True N O hh v (oV l):=by
 rcases h with ⟨rfl,rfl⟩ | ⟨rfl,_⟩
 ·exact .zdi 1
 ·exact zH (m4 _)
theorem zp6 (q:List (List Int)):(q.map encI).all jk=true:=List.all_eq_true.2 fun v hv=>by obtain ⟨a,_,rfl⟩:=List.mem_map.1 hv;exact rU.jk (gM a)
theorem LT.halves {v:AV} {l:List (List Int)} {i:Nat} (h:LT v l) (hi:i<=l.length):∃ lo hi':AV,(∀ op:AV->OP,jX 1 v none (some (I (i:Int))) none op=op lo)/\(∀ op:AV->OP,jX 1 v (some (I (i:Int))) none none op=op hi') /\
  (∀ (h:T Blk) (no:OP) (K':List AV->Nat->OP),uB lo h no K'=K' ((l.take i).map encI) i)/\(∀ (h:T Blk) (no:OP) (K':List AV->Nat->OP),uB hi' h no K'=K' ((l.drop i).map encI) (l.length-i)):=by
 rcases h with ⟨rfl,rfl⟩ | ⟨rfl,h0⟩
 ·obtain rfl:i=0:=by simpa using hi
  exact ⟨.zf,.zf,fun op=>rfl,fun op=>rfl,fun h no K'=>rfl,fun h no K'=>rfl⟩
 ·have hn:1<=l.length:=by cases l with
   | nil=>exact absurd rfl h0
   | cons _ _=>simp
  refine ⟨.lst 1 (i-0) (((l.map encI).drop (0*1)).take ((i-0)*1)),.lst 1 (l.length-i) (((l.map encI).drop (i*1)).take ((l.length-i)*1)),fun op => ?_,fun op => ?_,fun h no K' => ?_,fun h no K' => ?_⟩
  ·show (bif Nat.beq 1 1&&Nat.ble 1 l.length then dX 1 l.length (l.map encI) none (some (I (i:Int))) none op else .no 17)=_;rw [Zaw,Zab hn];show (match bnd (some (I (i:Int))) l.length l.length with | none=>Out.no 17 | some h=>match bnd none h 0 with | none=>.no 17 | some q=>op (.lst 1 (h-q) (((l.map encI).drop (q*1)).take ((h-q)*1))))=_;rw [xC hi];rfl
  ·show (bif Nat.beq 1 1&&Nat.ble 1 l.length then dX 1 l.length (l.map encI) (some (I (i:Int))) none none op else .no 17)=_;rw [Zaw,Zab hn];show (match bnd (some (I (i:Int))) l.length 0 with | none=>Out.no 17 | some q=>op (.lst 1 (l.length-q) (((l.map encI).drop (q*1)).take ((l.length-q)*1))))=_;rw [xC hi]
  ·show K' _ (i-0)=_;rw [Nat.sub_zero,Nat.zero_mul,List.drop_zero,Zby,<- List.map_take]
  ·show K' _ (l.length-i)=_;rw [Zby,Zby,<- List.map_drop,Zan (by rw [Zaj,Zcb];omega)]
theorem zp7 {l:List (List Int)} {f:List Int} {i:Nat} (ha:(l.take i).all (yQ · f)=true) (hi:i<=l.length) (hn:∀ q:i<l.length,yQ l[i] f=false) (hf:f∉l):uZ l f=l.take i++[f]++l.drop i:=by
 obtain ⟨e1,e2⟩:=zp3 hi ha hn;rw [uZ,if_neg hf,e1,e2,Zbp];rfl
theorem zmg {v:AV} {l:List (List Int)} {f:List Int} (hv:LT v l) (hasc:AscT l) (hl:l.length<=100000) (hw:∀ g∈l,g.length<=1000000) (hfl:f.length<=1000000):Pure Tryz.prog B 48 [v,encI f] (· = oV (uZ l f)):=by
 refine yJ fun h nx K H0 hK=>zR zW yw 1000000 fun hf' => ?_;rw [F48.go,F48.t20,zA,F48.xq,F48.t19,zA,F48.xu,F48.t18,zA,F48.t9,zP];refine F48.t8_L (fun m x3 h' nx'=>∃ i:Nat,x3=I i/\m=l.length-i/\i<=l.length/\(l.take i).all (yQ · f)=true/\Hp h h' nx' []) (m:=l.length) (by omega) ⟨0,rfl,by omega,by omega,by simp,H0⟩ ?_;rintro m z3 z4 h3 nx3 R ⟨i,rfl,rfl,hi,hal,H3⟩ hR;have put:(∀ q:i<l.length,yQ l[i] f=false)->f∉l->∀ x4 x5,IR.run F48.t16 (CS Tryz.prog B) 1000000 (fnO F48.res K) (gq F48.res K) (F48.fr v (encI f) .zf (I i) x4 x5) h3 nx3=.ok True:=by
  intro hn hnin x4 x5;obtain ⟨lo,hi',e1,e2,r1,r2⟩:=hv.halves hi;have f0:(gD (fD 0 [AV.zf]) []).isSome=true:=rfl;have f1:(gD (fD 1 [AV.zf]) [(0,1,encI f)]).isSome=true:=rfl;rw [F48.t16,zA,F48.zaj,f0,Bool.and_self,jJ,e1,f1,Bool.and_self,jJ,e2];refine H3.zy (l:=[]) rfl fun e0 h4 nx4 H4 => ?_
  try simp only [e1,e2,zB]
  refine H4.zyw (by decide) (fun no K'=>r1 _ no K') (by rw [Zaj,Zay];omega) (zp6 _) (by decide) (by omega) fun w X h5 nx5 H5 hp => ?_
  try simp only [e1,e2,zB]
  refine H5.zy (l:=[encI f]) rfl fun b h6 nx6 H6 => ?_
  try simp only [e1,e2,zB]
  refine hp _ _ _ _ [encI f] b _ H6 rfl rfl fun id h7 nx7 H7 => ?_
  try simp only [e1,e2,zB]
  show tX 1 24 (qp (some id) 1 (i+1)) hi' h7 nx7 _=_;refine H7.appN (k:=0) (o:=some id) (n:=i+1) (c:=l.length-i) (new:=(l.drop i).map encI) rfl (fun no K'=>r2 _ no K') (by rw [Zaj,Zcb];omega) (zp6 _) (by decide) (by decide) (by omega) fun o' h8 nx8 _ H8 => ?_;simp only [zT,yL];rw [F48.ret];have hp:=zp7 hal hi hn hnin;have e3:i+1+(l.length-i)=(uZ l f).length:=by
   rw [hp];simp only [Zas,Zay,Zcb,Zbf,List.length_nil];omega
  have e4:(l.take i).map encI++[encI f]++(l.drop i).map encI=(uZ l f).map encI:=by
   rw [hp,Zbc,Zbc];rfl
  have H9:Hp h h8 nx8 [.gro o' 1 (uZ l f).length ((uZ l f).map encI)]:=by
   have:=H8;rw [e3] at this;simp only [List.set_cons_zero,e4] at this;exact this
  rw [e3];exact hK _ _ _ _ _ H9 (H9.zb1 (k:=0) rfl fun v hv=>by obtain ⟨a,_,rfl⟩:=List.mem_map.1 hv;exact gM a) rfl
 have fin:(∀ q:i<l.length,yQ l[i] f=false)->∀ x4,IR.run F48.t17 (CS Tryz.prog B) 1000000 (fnO F48.res K) (gq F48.res K) (F48.fr v (encI f) .zf (I i) x4 (.bool false)) h3 nx3=.ok True:=by
  intro hn x4;have hst:=zmb hasc hal hi hn;rw [F48.t17,zA,F48.t14,zA,F48.sN,F48.r4_0,F48.zua,hv.len,qm];by_cases hlt:i<l.length
  case neg =>
   simp only [show ¬ (i:Int)<(l.length:Int) by omega,decide_false,jZ];rw [F48.r4_1,F48.zm1];simp only [jZ,zgs];rw [F48.r4_2,F48.zm2,yC,F48.t13,zG,F48.v5,zD,zO];exact put hn (fun q=>hlt (hst.1 q).1) _ _
  have hvl:v=oV l:=by
   rcases hv with ⟨_,rfl⟩ | ⟨q,_⟩
   ·simp at hlt
   ·exact q
  have hx:l[i]? = some l[i]:=List.getElem?_eq_getElem hlt;have hwi:=hw _ (Zam hlt);simp only [show (i:Int)<(l.length:Int) by omega,decide_true,jC];rw [show v=oV l from hvl,fG rfl hlt,F48.r4_1,F48.zm1];simp only [jC];rw [ldL (getT hx),zdv];refine dZ (by omega) _ _ _ _ ?_;rintro _ rfl _;rw [F48.r4_2,F48.zm2,yF,F48.t13,zG,F48.v5];by_cases c:l[i]=f
  ·rw [decide_eq_true c,zC,F48.t12,zA,F48.aZ];simp only [zT,yL];rw [F48.ret];exact hK _ _ _ _ _ H3 (zH (m4 l)) (by rw [uZ,if_pos (hst.2 ⟨hlt,c⟩)])
  ·rw [decide_eq_false c,zD,zO,<- hvl];exact put hn (fun q=>c (hst.1 q).2) _ _
 rw [F48.t7,zA,F48.t4,zA,F48.fO,F48.r2_0,F48.zhk,hv.len,qm];by_cases hlt:i<l.length
 case neg =>
  simp only [show ¬ (i:Int)<(l.length:Int) by omega,decide_false,jZ];rw [F48.r2_1,F48.zeg];simp only [jZ,zgs];rw [F48.r2_2,F48.zay,yC,F48.t3,zG,F48.v4,zD,y8,j8];exact fin (fun q=>absurd q hlt) _
 have hvl:v=oV l:=by
  rcases hv with ⟨_,rfl⟩ | ⟨q,_⟩
  ·simp at hlt
  ·exact q
 have hx:l[i]? = some l[i]:=List.getElem?_eq_getElem hlt;have hwi:=hw _ (Zam hlt);simp only [show (i:Int)<(l.length:Int) by omega,decide_true,jC];rw [show v=oV l from hvl,fG rfl hlt,F48.r2_1,F48.zeg];simp only [jC];rw [ldL (getT hx),zdv];refine zgy hwi hfl _ _ _ _ ?_;rintro _ rfl _;rw [F48.r2_2,F48.zay,yF,F48.t3,zG,F48.v4];cases c2:yQ l[i] f with
 | false =>
  rw [zD,y8,j8,<- hvl];exact fin (fun _=>c2) _
 | true =>
  rw [zC,zO,F48.t6,zP,F48.t5_s,wo (by omega),<- hvl];refine hR (l.length-(i+1)) _ _ _ _ (by omega) ⟨i+1,rfl,rfl,by omega,?_,H3⟩;exact wQ hx hal c2
end Go.Ev
namespace Go.Ev
open Go.Proofs
theorem zmh {n:Nat} {a:Sym} (ha:DP n a) {f:List Int} (hf:f.length=n) {M:Int} (hM:∀ x∈f, -M<=x/\x<=M) (h0:0<=M):∀ y∈yN a.2 a.1 f, -(M+n+1)<=y/\y<=M+n+1:=by
 intro y hy;obtain ⟨j,hj⟩:=List.getElem?_of_mem hy;have hjl:=(List.getElem?_eq_some_iff.1 hj).1;rw [jW,hf] at hjl;obtain ⟨i,hi,e⟩:=ha.surj hjl;have g:=xH ha hf hi;rw [e,Int.toNat_natCast,hj] at g;have hx:f.getD i 0∈f:=by
  rw [Zac,List.getElem?_eq_getElem (by omega)];exact Zam _
 have:=hM _ hx;have e:=Option.some.inj g;rw [e,xOf];split <;> omega
theorem zp8 {G:List Sym} {n:Nat} (ok:pq G n) {f:List Int} (hf:f.length=n) {a:Sym} (ha:a∈G) (z:List Int):z∈fP G (yN a.2 a.1 f)↔z∈fP G f:=by
 have hal:(yN a.2 a.1 f).length=n:=by rw [jW,hf]
 constructor
 ·intro h;obtain ⟨b,hb,rfl⟩:=List.mem_map.1 h;exact List.mem_map.2 ⟨zN b a,ok.cl b hb a ha,gS (ok.dp b hb) (ok.dp a ha) hf⟩
 ·intro h;obtain ⟨b,hb,rfl⟩:=List.mem_map.1 h;obtain ⟨c,hc,e⟩:=ok.linv ha;refine List.mem_map.2 ⟨zN b c,ok.cl b hb c hc,?_⟩;rw [gS (ok.dp b hb) (ok.dp c hc) hal,<- gS (ok.dp c hc) (ok.dp a ha) hf,e,mB hf]
theorem zd7 {G:List Sym} {n:Nat} (ok:pq G n) {f:List Int} (hf:f.length=n) {a:Sym} (ha:a∈G):gB (fP G (yN a.2 a.1 f))=gB (fP G f) :=
 m9 (wS _) (wS _) fun z=>by rw [bg,bg];exact zp8 ok hf ha z
def rG (G:List Sym) (f:List Int):List Int:=(gB (fP G f)).headD []
theorem dJ {G:List Sym} {n:Nat} (ok:pq G n) {f:List Int} (hf:f.length=n):rG G f∈fP G f:=by
 subst hf;have:=zt1 (zkg ok);exact bg.1 (Zaa this)
theorem zcx {G:List Sym} {n:Nat} (ok:pq G n) {f:List Int} (hf:f.length=n) {a:Sym} (ha:a∈G):rG G (yN a.2 a.1 f)=rG G f:=by
 unfold rG;rw [zd7 ok hf ha]
theorem zss {G:List Sym} {n:Nat} (ok:pq G n) {f g:List Int} (hf:f.length=n) (hg:g.length=n):rG G f=rG G g↔∃ a∈G,yN a.2 a.1 f=g:=by
 constructor
 ·intro h;obtain ⟨a,ha,e1⟩:=List.mem_map.1 (dJ ok hf);obtain ⟨b,hb,e2⟩:=List.mem_map.1 (dJ ok hg);obtain ⟨c,hc,e⟩:=ok.linv hb;refine ⟨zN c a,ok.cl c hc a ha,?_⟩;have e1:yN a.2 a.1 f=rG G f:=e1;have e2:yN b.2 b.1 g=rG G g:=e2;rw [gS (ok.dp c hc) (ok.dp a ha) hf,e1,h,<- e2,<- gS (ok.dp c hc) (ok.dp b hb) hg,e,mB hg]
 ·rintro ⟨a,ha,rfl⟩;exact (zcx ok hf ha).symm
theorem zkh:∀ {G:List Sym},(G.Pairwise fun a b=>rV a b=true)->aI G=true
 | [],_=>rfl
 | [_],_=>rfl
 | a::b::G,h=>by
  have h1:=List.pairwise_cons.1 h;show (rV a b&&aI (b::G))=true;rw [h1.1 b (by simp),zkh h1.2];rfl
theorem sZ {G:List Sym} {f:List Int} {a:Sym}:a∈kL G f↔a∈G/\yN a.2 a.1 f=f:=by
 rw [kL,Zbj,zck,decide_eq_true_eq]
theorem zki {G:List Sym} {n:Nat} (ok:pq G n) {f:List Int} (hf:f.length=n):pq (kL G f) n:={
 n256:=ok.n256
 ne:=fun q=>by
  have:idS n∈kL G f:=sZ.2 ⟨ok.one,mB hf⟩;rw [q] at this;cases this
 len:=by have:=List.length_filter_le (zck f f) G;have:=ok.len;unfold kL;omega
 dp:=fun g hg=>ok.dp g (sZ.1 hg).1
 ord:=zkh ((pM ok.ord).sublist List.filter_sublist)
 cl:=fun a ha b hb=>by
  obtain ⟨h1,h2⟩:=sZ.1 ha;obtain ⟨h3,h4⟩:=sZ.1 hb;exact sZ.2 ⟨ok.cl a h1 b h3,by rw [gS (ok.dp a h1) (ok.dp b h3) hf,h4,h2]⟩ }
section
variable {G S:List Sym} {n:Nat}
theorem zcy {m m' c:Sym} (hS:pq S n) (h:jL S m=true) (h':jL S m'=true) (hm:DP n m) (hc:c∈S) (e:zN m c=m'):m=m':=by
 obtain ⟨d,hd,e2⟩:=wC hS hm hc e;have h1:=List.all_eq_true.1 h c hc;have h2:=List.all_eq_true.1 h' d hd;rw [e] at h1;rw [e2] at h2;refine Decidable.byContradiction fun q => ?_;cases z:rV m m' with
 | true=>rw [z] at h2;cases h2
 | false=>have:=zp1 q z;rw [this] at h1;cases h1
theorem wL {m:Sym} (h:m∈oM G S):m∈G/\jL S m=true:=List.mem_filter.1 h
theorem zcz (hG:pq G n) (hS:pq S n) (hs:∀ a∈S,a∈G) (x:Sym):x∈o7 (oM G S) S↔x∈G:=by
 constructor
 ·intro h;obtain ⟨m,hm,c,hc,rfl⟩:=aO.1 h;exact hG.cl m (wL hm).1 c (hs c hc)
 ·intro h;obtain ⟨i,hi⟩:=List.getElem?_of_mem h;obtain ⟨j,m,_,hj,hl,⟨b,hb,e⟩,_⟩:=bK hG hS hs hi;obtain ⟨c,hc,e2⟩:=wC hS (hG.dp x h) hb e;exact aO.2 ⟨m,List.mem_filter.2 ⟨Zaa hj,hl⟩,c,hc,e2⟩
theorem zi7 (hG:pq G n) (hS:pq S n):(o7 (oM G S) S).Nodup:=by
 refine List.pairwise_flatMap.2 ⟨fun m hm => ?_,?_⟩
 ·refine List.pairwise_map.2 (hS.nd.imp_of_mem fun ha hb hab q=>hab ?_);exact zd1 hS (hG.dp m (wL hm).1) ha hb q
 ·have hnd:(oM G S).Nodup:=hG.nd.sublist List.filter_sublist;refine hnd.imp_of_mem fun {m m'} hm hm' hne x hx y hy q=>hne ?_;subst q;obtain ⟨b,hb,e⟩:=List.mem_map.1 hx;obtain ⟨b',hb',e'⟩:=List.mem_map.1 hy;obtain ⟨hm1,hm2⟩:=wL hm;obtain ⟨hm1',hm2'⟩:=wL hm';obtain ⟨c,hc,e2⟩:=wC hS (hG.dp m' hm1') hb' e';obtain ⟨e3,h3⟩:=zcs hS (hG.dp m hm1) hb hc e;exact zcy hS hm2 hm2' (hG.dp m hm1) h3 (by rw [<- e3,e2])
theorem zp9 (hG:pq G n) (hS:pq S n) (hs:∀ a∈S,a∈G):(oM G S).length*S.length=G.length:=by
 have e:(o7 (oM G S) S).length=(oM G S).length*S.length:=by
  unfold o7
  generalize oM G S=C
  induction C with
  | nil=>simp
  | cons a C ih=>rw [Zbg,Zas,ih,Zaj,Zbf,Nat.succ_mul];omega
 have h1:=lenG (zi7 hG hS) fun x hx=>(zcz hG hS hs x).1 hx;have h2:=lenG hG.nd fun x hx=>(zcz hG hS hs x).2 hx;omega
end
theorem zmi {G:List Sym} {n:Nat} (ok:pq G n) {f:List Int} (hf:f.length=n):(fP (oM G (kL G f)) f).Nodup/\∀ z,z∈fP (oM G (kL G f)) f↔z∈fP G f:=by
 have hS:=zki ok hf;have hs:∀ a∈kL G f,a∈G:=fun a ha=>(sZ.1 ha).1;constructor
 ·have hnd:(oM G (kL G f)).Nodup:=ok.nd.sublist List.filter_sublist;refine List.pairwise_map.2 (hnd.imp_of_mem fun {m m'} hm hm' hne q=>hne ?_);obtain ⟨hm1,hm2⟩:=wL hm;obtain ⟨hm1',hm2'⟩:=wL hm';have dm:=ok.dp m hm1;have dm':=ok.dp m' hm1';obtain ⟨b,hb,e⟩:=ok.inv m hm1;obtain ⟨b',hb',e'⟩:=ok.linv hm1;have db:=ok.dp b hb;have hbb:b'=b:=by
   have:=(jE n).assoc b' m b (ok.dp b' hb') dm db;rw [e',e,(jE n).el b db,(jE n).er b' (ok.dp b' hb')] at this;exact this.symm
  subst hbb
  have hin:zN b' m'∈kL G f:=sZ.2 ⟨ok.cl b' hb m' hm1',by
   rw [gS db dm' hf,<- q,<- gS db dm hf,e',mB hf]⟩
  refine zcy hS hm2 hm2' dm hin ?_;rw [<- (jE n).assoc m b' m' dm db dm',e,(jE n).el m' dm']
 ·intro z;constructor
  ·intro h;obtain ⟨m,hm,e⟩:=List.mem_map.1 h;exact List.mem_map.2 ⟨m,(wL hm).1,e⟩
  ·intro h;obtain ⟨a,ha,rfl⟩:=List.mem_map.1 h;obtain ⟨m,hm,c,hc,e⟩:=aO.1 ((zcz ok hS hs a).2 ha);refine List.mem_map.2 ⟨m,hm,?_⟩;have hc':=sZ.1 hc;rw [<- e,gS (ok.dp m (wL hm).1) (ok.dp c hc'.1) hf,hc'.2]
theorem vD (l:List (List Int)):(gB l).Nodup:=(wS l).imp fun h e=>by rw [e,dD] at h;cases h
theorem zmj {G:List Sym} {n:Nat} (ok:pq G n) {f:List Int} (hf:f.length=n):(gB (fP G f)).length=(oM G (kL G f)).length:=by
 obtain ⟨h1,h2⟩:=zmi ok hf;have l1:=lenG h1 fun z hz=>bg.2 ((h2 z).1 hz);have l2:=lenG (vD (fP G f)) fun z hz=>(h2 z).2 (bg.1 hz);have e:(fP (oM G (kL G f)) f).length=(oM G (kL G f)).length:=Zaj _;omega
end Go.Ev
namespace Go.Ev
section
variable {G:List Sym} {n:Nat}
end
end Go.Ev
namespace Go.Ev
abbrev nxt (p:List Int) (c:Nat):Nat:=(p.getD c 0).toNat
def orbF (p:List Int):Nat->Nat->List Nat->List Nat
 | 0,_,S=>S
 | f+1,c,S=>if c∈S then S else orbF p f (nxt p c) (S++[c])
def orbW (p:List Int) (c:Nat) (S:List Nat):List Nat:=orbF p (p.length-S.length) c S
theorem zst {p:List Int} {c:Nat} {S:List Nat} (h:c∈S):∀ f,orbF p f c S=S
 | 0=>rfl
 | f+1=>by rw [orbF,if_pos h]
theorem zfg {p:List Int} {c:Nat} {S:List Nat} (h:c∈S):orbW p c S=S:=zst h _
theorem zd8 {p:List Int} {c:Nat} {S:List Nat} (h:c∉S) (hl:S.length<p.length):orbW p c S=orbW p (nxt p c) (S++[c]):=by
 obtain ⟨f,hf⟩:∃ f,p.length-S.length=f+1:=⟨p.length-S.length-1,by omega⟩;unfold orbW;rw [hf,orbF,if_neg h,Zas,List.length_singleton,show p.length-(S.length+1)=f by omega]
def stT (p:List Int) (s:List Nat×List (List Nat)) (i:Nat):List Nat×List (List Nat):=(orbW p i s.1,if s.1.length<(orbW p i s.1).length then s.2++[(orbW p i s.1).drop s.1.length] else s.2)
def tu (p:List Int) (k:Nat):List Nat×List (List Nat):=(List.range k).foldl (stT p) ([],[])
theorem m6 (p:List Int) (k:Nat):tu p (k+1)=stT p (tu p k) k:=by unfold tu;rw [List.range_succ,List.foldl_append];rfl
theorem bS (p:List Int):∀ k,(tu p k).2.length<=k
 | 0=>Zai _
 | k+1=>by
  have:=bS p k;rw [m6];unfold stT;simp only;split
  ·simp;omega
  ·omega
def gA (p:List Int):List Nat:=(tu p p.length).2.map List.length
def itN (p:List Int):Nat->Nat->Nat
 | 0,c=>c
 | k+1,c=>nxt p (itN p k c)
theorem zkj (p:List Int):∀ a b c,itN p (a+b) c=itN p a (itN p b c)
 | 0,b,c=>by rw [Zav];rfl
 | a+1,b,c=>by rw [Nat.succ_add];show nxt p (itN p (a+b) c)=nxt p (itN p a (itN p b c));rw [zkj p a b c]
structure PN (p:List Int):Prop where
 lt:∀ i,i<p.length->nxt p i<p.length
 inj:∀ i j,i<p.length->j<p.length->nxt p i=nxt p j->i=j
theorem PN.itlt {p:List Int} (h:PN p):∀ k i,i<p.length->itN p k i<p.length
 | 0,_,hi=>hi
 | k+1,i,hi=>h.lt _ (h.itlt k i hi)
structure Cl (p:List Int) (S:List Nat):Prop where
 nd:S.Nodup
 lt:∀ x∈S,x<p.length
 cl:∀ x∈S,nxt p x∈S
theorem Cl.back {p:List Int} (h:PN p) {S:List Nat} (C:Cl p S) {x:Nat} (hx:x<p.length) (hn:nxt p x∈S):x∈S:=by
 have nd:(S.map (nxt p)).Nodup:=by
  rw [List.Nodup,Zbk];refine (List.Pairwise.and_mem.1 C.nd).imp ?_;rintro a b ⟨ha,hb,hab⟩ q;exact hab (h.inj a b (C.lt a ha) (C.lt b hb) q)
 have:=allG nd (fun y hy=>by obtain ⟨z,hz,rfl⟩:=List.mem_map.1 hy;exact C.cl z hz) (by simp) _ hn;obtain ⟨y,hy,e⟩:=List.mem_map.1 this;rw [<- h.inj y x (C.lt y hy) hx e];exact hy
theorem Cl.zt2 {p:List Int} (h:PN p) {S:List Nat} (C:Cl p S) {i:Nat} (hi:i<p.length):∀ k,itN p k i∈S->i∈S
 | 0,q=>q
 | k+1,q=>C.zt2 h hi k (C.back h (h.itlt k i hi) q)
abbrev tN (p:List Int) (i k:Nat):List Nat:=(List.range k).map fun j=>itN p j i
theorem zkk (p:List Int) (i k:Nat):tN p i (k+1)=tN p i k++[itN p k i]:=by unfold tN;rw [List.range_succ,Zbc];rfl
theorem zqa {p:List Int} {i k a b:Nat} (h:(tN p i k).Nodup) (ha:a<k) (hb:b<k) (e:itN p a i=itN p b i):a=b:=by
 have:=List.pairwise_map.1 h;rcases Nat.lt_trichotomy a b with q | q | q
 ·have:=List.pairwise_iff_getElem.1 this a b (by simpa using ha) (by simpa using hb) q;simp at this;exact absurd e this
 ·exact q
 ·have:=List.pairwise_iff_getElem.1 this b a (by simpa using hb) (by simpa using ha) q;simp at this;exact absurd e.symm this
structure zd9 (p:List Int) (r h:Nat):Prop where
 pos:0<r
 back:itN p r h=h
 min:∀ j,0<j->j<r->itN p j h≠h
theorem zi8 {n:Nat} {l:List Nat} (hn:l.Nodup) (hl:∀ x∈l,x<n):l.length<=n:=by
 have:=lenG hn (r:=List.range n) fun x hx=>List.mem_range.2 (hl x hx);simpa using this
theorem zsu {p:List Int} (h:PN p) {S:List Nat} (C:Cl p S) {i:Nat} (hi:i<p.length) (hS:i∉S):∀ (f k:Nat),f=p.length-(S.length+k)->(S++tN p i k).Nodup ->
  ∃ r,orbW p (itN p k i) (S++tN p i k)=S++tN p i r/\(S++tN p i r).Nodup/\zd9 p r i:=by
 intro f
 induction f with
 | zero =>
  intro k hf hn;have hall:∀ x∈S++tN p i k,x<p.length:=fun x hx=>by
   rcases List.mem_append.1 hx with q | q
   ·exact C.lt x q
   ·obtain ⟨j,_,rfl⟩:=List.mem_map.1 q;exact h.itlt j i hi
  exact zc0 h C hi hS hn (Decidable.byContradiction fun q=>by
   have:=zi8 (l:=(S++tN p i k)++[itN p k i]) (List.nodup_append.2 ⟨hn,by simp,by rintro a ha b hb rfl;rw [List.mem_singleton.1 hb] at ha;exact q ha⟩) (fun x hx=>by
    rcases List.mem_append.1 hx with q | q
    ·exact hall x q
    ·rw [List.mem_singleton.1 q];exact h.itlt k i hi)
   simp at this;omega)
 | succ f ih =>
  intro k hf hn;by_cases c:itN p k i∈S++tN p i k
  ·exact zc0 h C hi hS hn c
  ·have hn2:(S++tN p i (k+1)).Nodup:=by
    rw [zkk,<- Zbp];exact List.nodup_append.2 ⟨hn,by simp,by rintro a ha b hb rfl;rw [List.mem_singleton.1 hb] at ha;exact c ha⟩
   rw [zd8 c (by simp;omega),Zbp,<- zkk];exact ih (k+1) (by omega) hn2
where
 zc0 {p:List Int} (h:PN p) {S:List Nat} (C:Cl p S) {i k:Nat} (hi:i<p.length) (hS:i∉S) (hn:(S++tN p i k).Nodup) (c:itN p k i∈S++tN p i k):∃ r,orbW p (itN p k i) (S++tN p i k)=S++tN p i r/\(S++tN p i r).Nodup/\zd9 p r i:=by
  rw [zfg c];have hk0:0<k:=Nat.pos_of_ne_zero fun q=>by
   subst q;have:i∈S:=by simpa [tN,itN] using c
   exact hS this
  have hnT:=(List.nodup_append.1 hn).2.1;rcases List.mem_append.1 c with q | q
  ·exact absurd (C.zt2 h hi k q) hS
  ·obtain ⟨j,hj,e⟩:=List.mem_map.1 q;have hj:=List.mem_range.1 hj;have e:itN p j i=itN p k i:=e;have hj0:j=0:=Decidable.byContradiction fun q=>by
    obtain ⟨j',rfl⟩:∃ j',j=j'+1:=⟨j-1,by omega⟩;obtain ⟨k',rfl⟩:∃ k',k=k'+1:=⟨k-1,by omega⟩;have:=h.inj _ _ (h.itlt j' i hi) (h.itlt k' i hi) e;have:=zqa hnT (by omega) (by omega) this;omega
   subst hj0;refine ⟨k,rfl,hn,hk0,e.symm,fun a ha hak q => ?_⟩;have:=zqa hnT hak hk0 (show itN p a i=itN p 0 i from q);omega
theorem zkl {p:List Int} (h:PN p):∀ k,k<=p.length->Cl p (tu p k).1/\(∀ j,j<k->j∈(tu p k).1)/\(∀ x∈(tu p k).1,∃ T∈(tu p k).2,∃ b a,x=itN p a b/\zd9 p T.length b/\b<p.length)/\∀ T∈(tu p k).2,∃ b,b<p.length/\zd9 p T.length b
 | 0,_=>⟨⟨by simp [tu],by simp [tu],by simp [tu]⟩,fun j hj=>by omega,by simp [tu],by simp [tu]⟩
 | k+1,hk=>by
  obtain ⟨C,h1,h2,h3⟩:=zkl h k (by omega);rw [m6]
  generalize tu p k=s at *
  unfold stT;simp only;by_cases c:k∈s.1
  ·rw [zfg c,if_neg (by omega)];refine ⟨C,fun j hj => ?_,h2,h3⟩;by_cases e:j=k
   ·rw [e];exact c
   ·exact h1 j (by omega)
  ·obtain ⟨r,e1,e2,e3⟩:=zsu h C (show k<p.length by omega) c _ 0 rfl (by simpa [tN] using C.nd);have e1:orbW p k s.1=s.1++tN p k r:=by simpa [tN,itN] using e1
   have hr:=e3.pos;have hlen:(tN p k r).length=r:=by simp
   rw [e1,if_pos (by simp;omega),List.drop_left];have zqb:∀ x∈tN p k r,∃ j,j<r/\x=itN p j k:=fun x hx=>by
    obtain ⟨j,hj,rfl⟩:=List.mem_map.1 hx;exact ⟨j,List.mem_range.1 hj,rfl⟩
   refine ⟨⟨e2,fun x hx => ?_,fun x hx => ?_⟩,fun j hj => ?_,fun x hx => ?_,fun T hT => ?_⟩
   ·rcases List.mem_append.1 hx with q | q
    ·exact C.lt x q
    ·obtain ⟨j,_,rfl⟩:=zqb x q;exact h.itlt j k (by omega)
   ·rcases List.mem_append.1 hx with q | q
    ·exact Zbq _ (C.cl x q)
    ·obtain ⟨j,hj,rfl⟩:=zqb x q;refine Zbz _ ?_;by_cases hj1:j+1<r
     ·exact List.mem_map.2 ⟨j+1,List.mem_range.2 hj1,rfl⟩
     ·have:itN p (j+1) k=k:=by rw [show j+1=r by omega];exact e3.back
      exact List.mem_map.2 ⟨0,List.mem_range.2 hr,this.symm⟩
   ·by_cases e:j=k
    ·rw [e];exact Zbz _ (List.mem_map.2 ⟨0,List.mem_range.2 hr,rfl⟩)
    ·exact Zbq _ (h1 j (by omega))
   ·rcases List.mem_append.1 hx with q | q
    ·obtain ⟨T,hT,b,a,q1,q2,q3⟩:=h2 x q;exact ⟨T,by simp [hT],b,a,q1,q2,q3⟩
    ·obtain ⟨j,hj,rfl⟩:=zqb x q;exact ⟨tN p k r,by simp,k,j,rfl,by rw [hlen];exact e3,by omega⟩
   ·rcases List.mem_append.1 hT with q | q
    ·exact h3 T q
    ·rw [List.mem_singleton.1 q,hlen];exact ⟨k,by omega,e3⟩
theorem zd9.mul {p:List Int} {r b:Nat} (c:zd9 p r b):∀ q,itN p (q*r) b=b
 | 0=>by rw [Nat.zero_mul];rfl
 | q+1=>by rw [Nat.succ_mul,zkj,c.back,c.mul q]
end Go.Ev
namespace Go.Ev
open Go Go.Proofs
variable {B:Nat}
set_option maxRecDepth 100000
theorem zy9 {a b:Int} {K:AV->OP} (h0:b≠0) (h : -9223372036854775808<=a.tdiv b/\a.tdiv b<=9223372036854775807):zx .quo .int (I a) (I b) K=K (I (a.tdiv b)):=by
 have e:zx .quo .int (I a) (I b) K=(bif ieq b 0 then Out.no 5 else pz (IntKind.wrap .i64 (a.tdiv b)) fun z=>K (.int .i64 z)):=rfl;rw [e,vM];have hb:(b==0)=false:=by simpa using h0
 rw [hb,cond_false,wJ];have hw:IntKind.wrap .i64 (a.tdiv b)=a.tdiv b:=by simpa [vB] using wR h
 rw [hw]
theorem zi9 {a b:Nat} {K:AV->OP} (hb:0<b):zx .rem .int (I (a:Int)) (I (b:Int)) K=K (I ((a%b:Nat):Int)):=by
 have e:zx .rem .int (I (a:Int)) (I (b:Int)) K=(bif ieq (b:Int) 0 then Out.no 5 else pz ((a:Int).tmod b) fun z=>K (.int .i64 z)):=rfl;have h0:ieq (b:Int) 0=false:=by rw [vM,beq_eq_false_iff_ne];omega
 rw [e,h0,cond_false,wJ];rfl
theorem zqc {a b:Nat} {K:AV->OP} (ha:a<=9223372036854775807) (hb:0<b):zx .quo .int (I (a:Int)) (I (b:Int)) K=K (I ((a / b:Nat):Int)):=by
 have h1:(a:Int).tdiv b=((a / b:Nat):Int):=by rw [Int.tdiv_eq_ediv_of_nonneg (by omega)];simp
 have h2:a / b<=a:=Nat.div_le_self a b;rw [zy9 (by omega) (by rw [h1];generalize a / b=q at *;omega),h1]
theorem zza {a b:Int} {K:AV->OP}:sMin true (I a) [I b] K=K (I (max a b)):=by
 have e:sMin true (I a) [I b] K=K (.int .i64 (bif ilt a b then b else a)):=rfl;rw [e,xN]
 congr 2
 by_cases c:a<b
 ·simp only [c,decide_true,cond_true];omega
 ·simp only [c,decide_false,cond_false];omega
abbrev nV (k:Nat):AV:=I (k:Int)
def dM (n:Nat) (S:List Nat):List AV:=rowL n fun x:Nat=>.bool (decide (x∈S))
theorem zmk {n:Nat} {S:List Nat} {c:Nat}:(dM n S).set c (.bool true)=dM n (S++[c]):=by
 unfold dM;rw [zoi];refine zbz fun j _ => ?_;by_cases e:j=c
 ·subst e;rw [if_pos rfl,decide_eq_true (by simp)]
 ·rw [if_neg e];have e2:(j∈S++[c])↔j∈S:=by
   rw [Zap,Zax];exact ⟨fun q=>q.resolve_right e,.inl⟩
  simp only [e2]
theorem zml {n:Nat} {S:List Nat} {c:Nat} (hc:c<n):(dM n S)[c]? = some (.bool (decide (c∈S))):=vF hc
theorem zmm (n:Nat):List.replicate n (AV.bool false)=dM n []:=by
 rw [zic,dM];exact zbz fun j _=>by simp
theorem fM.pn {p:List Int} (h:fM p):PN p:={
 lt i hi:=by
  have:=h.2 _ (Zaa (getD_some hi));show (p.getD i 0).toNat<_;omega
 inj i j hi hj e:=by
  have h1:=h.2 _ (Zaa (getD_some hi));have h2:=h.2 _ (Zaa (getD_some hj));have e:(p.getD i 0).toNat=(p.getD j 0).toNat:=e;have e2:p.getD i 0=p.getD j 0:=by omega
  exact zd3 h.1 (getD_some hi) (e2 ▸ getD_some hj) }
theorem zsv {p:List Int} (h:fM p) {c:Nat} (hc:c<p.length):p.getD c 0=((nxt p c:Nat):Int):=by
 have h1:=h.2 _ (Zaa (getD_some hc));show _=(((p.getD c 0).toNat:Nat):Int);omega
theorem zvw {n c:Nat} {S:List Nat} (h1:S.Nodup) (h2:∀ x∈S,x<n) (hc:c<n) (hn:c∉S):(S++[c]).Nodup/\(∀ x∈S++[c],x<n)/\S.length<n:=by
 have a1:(S++[c]).Nodup:=List.nodup_append.2 ⟨h1,by simp,by rintro a ha b hb rfl;rw [List.mem_singleton.1 hb] at ha;exact hn ha⟩;have a2:∀ x∈S++[c],x<n:=fun x hx=>by
  rcases List.mem_append.1 hx with q | q
  ·exact h2 x q
  ·rw [List.mem_singleton.1 q];exact hc
 have:=zi8 a1 a2;simp at this;exact ⟨a1,a2,by omega⟩
theorem zmn {p:List Int} {c:Bool} {h0 h:T Blk} {nx p0:Pa} {L:List Ob} {K:Kw Prop} (H:Hp h0 h nx L) (hp:fM p) (hn:p.length<=1000)
  (hK:∀ o b1 sb z h' nx',Hp h0 h' nx' (.gro o 1 (gA p).length ((gA p).map nV)::.arr sb z::.arr b1 [encI p,.bool c]::L)->K (qp o 1 (gA p).length) h' nx'=.ok True):(CS Tryz.prog B).fn 138 p0 [.agg [encI p,.bool c]] h nx K=.ok True:=by
 refine gH (p:=.of 138) (K:=K) (zR zW yw 10000000 fun hf => ?_) fun _ _ _ _ q=>q;have hP:=hp.pn;rw [zk.go,zk.t42,zA,zk.xq];refine H.box (l:=[encI p,.bool c]) rfl fun b1 h1 nx1 H1 => ?_;rw [zk.t41,zA,zk.xu,zk.t40,zA,zk.fO,sFx,H1.load (k:=0) (i:=0+0) rfl rfl,zI];refine H1.mk1 (z:=.bool false) p.length rfl rfl (by omega) (by decide) fun sb h2 nx2 H2 => ?_;rw [zmm] at H2;rw [zk.t39,zA,zk.t36,zA,zk.rY,sFx,H2.load (k:=1) (i:=0+0) rfl rfl,zI,zk.t35,zP];refine zk.zwo (fun m x3 x9 h' nx'=>∃ (i:Nat) (o:Option Pa),x9=I i/\x3=qp o 1 (tu p i).2.length/\m=p.length-i/\i<=p.length/\Hp h0 h' nx' (.gro o 1 (tu p i).2.length (((tu p i).2.map List.length).map nV)::.arr sb (dM p.length (tu p i).1)::.arr b1 [encI p,.bool c]::L)) (m:=p.length) (by omega) ⟨0,none,rfl,rfl,by omega,by omega,H2.oZ 1⟩ ?_;rintro m z3 z5 z6 z7 z9 z10 z11 z12 h3 nx3 R ⟨i,o,rfl,rfl,rfl,hi,H3⟩ hR;have hle:(tu p i).2.length<=i:=bS p i;rw [zk.t33,zA,zk.t4_s,qm];by_cases hlt:i<p.length
 case neg =>
  obtain rfl:i=p.length:=by omega
  rw [decide_eq_false (by omega),zk.t32,zA,zk.t5,zG,zk.v10,zD,y8,j8,zk.t38,zA,zk.zwp];simp only [zT,yL];rw [zk.ret];have e:(gA p).length=(tu p p.length).2.length:=Zaj _;rw [<- e] at H3 ⊢;exact hK o b1 sb _ _ _ H3
 obtain ⟨C,_⟩:=zkl hP i hi;have hnx:=m6 p i;unfold stT at hnx;rw [decide_eq_true (by omega),zk.t32,zA,zk.t5,zG,zk.v10,zC,zO,zk.t31,zA,zk.t29,zP,zk.t28,zA,zk.t6_s,zk.t27,zA,zk.t7_s,zk.t26,zA,zk.t21,zA,zk.eX,zk.t20,zP]
 generalize hS:(tu p i).1=S at *
 generalize hT:(tu p i).2=Ts at *
 refine zk.zwn (fun m x6 x7 h' nx'=>∃ (cc:Nat) (S':List Nat),x6=I ((S'.length-S.length:Nat):Int)/\x7=I cc/\m=p.length-S'.length/\S.length<=S'.length/\cc<p.length/\S'.Nodup/\(∀ x∈S',x<p.length)/\orbW p cc S'=orbW p i S/\Hp h0 h' nx' (.gro o 1 Ts.length ((Ts.map List.length).map nV)::.arr sb (dM p.length S')::.arr b1 [encI p,.bool c]::L)) (m:=p.length-S.length) (by omega) ⟨i,S,by rw [Zci];rfl,rfl,rfl,Zai _,hlt,C.nd,C.lt,rfl,H3⟩ ?_;rintro m y6 y7 y11 h5 nx5 R2 ⟨cc,S',rfl,rfl,rfl,q0,q1,q2,q3,q4,H5⟩ hR2;have hSl:=zi8 q2 q3;rw [zk.t18,zA,zk.t11,zA,zk.t9_s,sIx rfl q1,H5.load (k:=1) rfl (zml q1),yX,zk.t10,zG,zk.v11];by_cases d:cc∈S'
 case neg =>
  obtain ⟨d1,d2,d3⟩:=zvw q2 q3 q1 d;rw [decide_eq_false d,Zak,zC,zO,zk.t17,zA,zk.t15,zP,zk.t14,zA,zk.zam,sIx rfl q1];refine H5.store (k:=1) rfl (by rw [dM];simpa [rowL] using q1) rfl fun h6 H6 => ?_;have H6:Hp h0 h6 nx5 (.gro o 1 Ts.length ((Ts.map List.length).map nV)::.arr sb (dM p.length (S'++[cc]))::.arr b1 [encI p,.bool c]::L):=H6.cast (by rw [<- zmk];rfl);rw [zk.zm0,wo (by omega),zk.au,sFx,H6.load (k:=2) (i:=0+0) rfl rfl,fG (i:=cc) rfl q1,ldL (tK (getD_some q1)),zsv hp q1];refine hR2 (p.length-(S'++[cc]).length) _ _ _ _ _ (by simp;omega) ⟨nxt p cc,S'++[cc],?_,rfl,rfl,by simp;omega,hP.lt cc q1,d1,d2,?_,H6⟩
  ·rw [Zas,List.length_singleton];congr 1;omega
  ·rw [<- zd8 d (by omega)];exact q4
 rw [decide_eq_true d,Zah,zD,y8,j8,zk.t25,zA,zk.zfn,rH];rw [zfg d] at q4;rw [<- q4] at hnx;by_cases e:S.length<S'.length
 ·rw [if_pos e] at hnx;have eT:(tu p (i+1)).2=Ts++[S'.drop S.length]:=by rw [hnx]
  have eS:(tu p (i+1)).1=S':=by rw [hnx]
  rw [decide_eq_true (by omega),zk.t24,zG,zk.v12,zC,zk.zda];refine H5.zy (l:=[I ((S'.length-S.length:Nat):Int)]) rfl fun tb h6 nx6 H6 => ?_;refine H6.appN (k:=1) (o:=o) (c:=1) (esz:=1) (new:=[I ((S'.length-S.length:Nat):Int)]) rfl (ji.rd (l:=[I ((S'.length-S.length:Nat):Int)]) (n:=1) (e:=1) (H6.own _ (Zal ..)) rfl) rfl rfl (by decide) (by decide) (by omega) fun o' h7 nx7 _ H7 => ?_;rw [zk.zc9,wo (by omega)];refine hR (p.length-(i+1)) _ _ _ _ _ _ _ _ _ _ (by omega) ⟨i+1,o',rfl,by rw [eT,Zas];rfl,rfl,by omega,?_⟩;rw [eT,eS];refine H7.drop.cast ?_;rw [Zas,Zbc,Zbc];simp
 ·rw [if_neg e] at hnx;have eT:(tu p (i+1)).2=Ts:=by rw [hnx]
  have eS:(tu p (i+1)).1=S':=by rw [hnx]
  rw [decide_eq_false (by omega),zk.t24,zG,zk.v12,zD,zO,zk.zc9,wo (by omega)];refine hR (p.length-(i+1)) _ _ _ _ _ _ _ _ _ _ (by omega) ⟨i+1,o,rfl,by rw [eT],rfl,by omega,?_⟩;rw [eT,eS];exact H5
end Go.Ev
namespace Go.Ev
section
variable {σ α:Type}
end
end Go.Ev
namespace Go.Ev
def SpOK (M:Int) (q:List (Int×Int)):Prop:=q.Pairwise (fun a b=>a.1<b.1)/\∀ p∈q,0<=p.1/\p.1<=M
theorem SpOK.len {q:List (Int×Int)} (h:SpOK 9000 q):q.length<=9001:=by
 obtain ⟨t,ht⟩:=zgx (q.map (·.1)) ((List.range 9001).map fun (i:Nat)=>(i:Int)) (by
  rw [List.nodup_iff_pairwise_ne,Zbk];exact h.1.imp fun {a b} q e=>by omega) fun x hx=>by
  obtain ⟨p,hp,rfl⟩:=List.mem_map.1 hx;have:=h.2 p hp;exact List.mem_map.2 ⟨p.1.toNat,List.mem_range.2 (by omega),by omega⟩
 have:=ht.length_eq;rw [Zaj,List.length_range,Zas,Zaj] at this;omega
def zhg (n:Nat):Nat->List Int->List (List Int)
 | 0,pre=>[pre]
 | r+1,pre=>(List.range n).flatMap fun (x:Nat)=>if (x:Int)∈pre then [] else zhg n r (pre++[(x:Int)])
theorem mR {n:Nat}:∀ {r:Nat} {pre f:List Int},pre.Nodup->(f∈zhg n r pre↔∃ t,f=pre++t/\t.length=r/\(pre++t).Nodup/\∀ x∈t,0<=x/\x<(n:Int))
 | 0,pre,f,hp=>by
  rw [zhg,Zax];constructor
  ·rintro rfl;exact ⟨[],by simp,rfl,by simpa using hp,by simp⟩
  ·rintro ⟨t,rfl,ht,_,_⟩;rw [Zbd ht];simp
 | r+1,pre,f,hp=>by
  rw [zhg,Zbb];constructor
  ·rintro ⟨x,hx,hf⟩;have hxn:=List.mem_range.1 hx;by_cases c:(x:Int)∈pre
   ·rw [if_pos c] at hf;cases hf
   rw [if_neg c] at hf;have hn2:(pre++[(x:Int)]).Nodup:=List.nodup_append.2 ⟨hp,by simp,by rintro a ha b hb rfl;rw [List.mem_singleton.1 hb] at ha;exact c ha⟩;obtain ⟨t,rfl,h1,h2,h3⟩:=(mR hn2).1 hf;refine ⟨(x:Int)::t,by simp,by simp [h1],by simpa using h2,fun y hy => ?_⟩;rcases List.mem_cons.1 hy with rfl | hy
   ·omega
   ·exact h3 y hy
  ·rintro ⟨t,rfl,h1,h2,h3⟩;cases t with
   | nil=>cases h1
   | cons y t =>
    obtain ⟨q1,q2⟩:=h3 y (by simp);have hy:y∉pre:=fun q=>(List.nodup_append.1 h2).2.2 y q y (by simp) rfl;refine ⟨y.toNat,List.mem_range.2 (by omega),?_⟩;rw [show ((y.toNat:Nat):Int)=y by omega,if_neg hy];have hn2:(pre++[y]).Nodup:=by
     have:pre++y::t=(pre++[y])++t:=by simp
     rw [this] at h2;exact (List.nodup_append.1 h2).1
    exact (mR hn2).2 ⟨t,by simp,by simpa using h1,by simpa using h2,fun x hx=>h3 x (by simp [hx])⟩
end Go.Ev
namespace Go.Ev
open Go Go.Proofs
def nonJ:Nat->List AV->T Blk->Option (AV×T Blk):=fun _ _ _=>none
theorem zsw {P:Program} {B:Nat}:JOk P B nonJ:=fun _ _ hk=>by cases hk
def xZ (f:Nat) (args:List AV) (res:AV):Bool:=match (xT (fun _=>false) nonJ tbl 1000 60).fn f (.of f) args .e .z endK with
 | .ok v=>avEq v res
 | .no _=>false
theorem u4 {f:Nat} {args:List AV} {res:AV} {B:Nat} (ha:nns args=true) (h:xZ f args res=true):Pure Tryz.prog B f args (· = res):=by
 unfold xZ at h;cases hq:(xT (fun _=>false) nonJ tbl 1000 60).fn f (.of f) args .e .z endK with
 | no n=>rw [hq] at h;cases h
 | ok v =>
  rw [hq] at h;have e:=xW h;subst e;exact ze4 zW mixed (fun _=>zsw) ha hq
def digB (k:Nat):List UInt8:=if k<10 then [UInt8.ofNat (48+k)] else if k<100 then [UInt8.ofNat (48+k / 10),UInt8.ofNat (48+k%10)] else [UInt8.ofNat (48+k / 100),UInt8.ofNat (48+k / 10%10),UInt8.ofNat (48+k%10)]
end Go.Ev
namespace Go.Ev
open Go Go.Proofs
variable {B:Nat}
set_option maxRecDepth 100000
abbrev sm (x:Int):AV:=.agg [I x,.zf]
theorem bQ {K:AV->OP}:zx .eql (.nil .sl) .zf .zf K=K (.bool true):=nr rfl
theorem zvx {a b:Bool} {K:AV->OP}:zx .eql .bool (.bool a) (.bool b) K=K (.bool (a==b)):=by cases a <;> cases b <;> exact nr rfl
theorem bR {n:Int} {K:AV->OP}:gO [(I 0),.zf] [(0,1,I n)] K=K (sm n):=nr rfl
theorem zzb {a b:Int} {K:AV->OP}:sMin false (I a) [I b] K=K (I (min a b)):=by
 have e:sMin false (I a) [I b] K=K (.int .i64 (bif ilt b a then b else a)):=rfl;rw [e,xN]
 congr 2
 by_cases c:b<a
 ·simp only [c,decide_true,cond_true];omega
 ·simp only [c,decide_false,cond_false];omega
theorem mY {N:Pa->Prop} {O:AV->Prop} {hh:T Blk} {x:Int}:Frz True N O hh (sm x) (sm x):=zj6 (by simp [rU])
theorem zkm {x:Int}:Pure Tryz.prog B 110 [I x] (· = sm x):=by
 refine yJ fun h nx K H0 hK=>zR zW yw 100 fun hf => ?_;rw [vg.go,vg.t3,zA,vg.xq];refine H0.alloc fun p h1 nx1 H1 => ?_;rw [vg.t2,zA,vg.xu,bR];refine H1.jo (l2:=[I x,.zf]) (k:=0) rfl rfl rfl fun h2 H2 => ?_;simp only [zT,yL];rw [vg.ret,H2.zh (k:=0) (n:=2) rfl rfl];exact hK _ _ _ _ _ H2 mY rfl
theorem zvy {a b:Int} (ha : -9223372036854775808<=a/\a<=9223372036854775807) (hab : -9223372036854775808<=a+b/\a+b<=9223372036854775807):Pure Tryz.prog B 111 [sm a,sm b] (· = sm (a+b)):=by
 refine yJ fun h nx K H0 hK=>zR zW yw 100 fun hf => ?_;rw [jd.go,jd.t30,zA,jd.xq];refine H0.box (l:=[I a,.zf]) rfl fun pa h1 nx1 H1 => ?_;refine H1.box (l:=[I b,.zf]) rfl fun pb h2 nx2 H2 => ?_;refine H2.alloc fun p h3 nx3 H3 => ?_;rw [jd.t29,zA,jd.t10,zA,jd.xu,sFx,H3.load (k:=2) (i:=0+1) rfl rfl,bQ,jC,sFx,jC,H3.load (k:=1) (i:=0+1) rfl rfl,jC,bQ,yF,jd.t9,zG,jd.v10,zC];rw [jd.t8,zA,jd.fO,sFx,H3.load (k:=2) (i:=0+0) rfl rfl,sFx,H3.load (k:=1) (i:=0+0) rfl rfl,wo hab];rw [jd.t7,zA,jd.rY,sFx,H3.load (k:=2) (i:=0+0) rfl rfl,rH,sFx,H3.load (k:=1) (i:=0+0) rfl rfl,rH];have e:(decide (a<a+b)==decide (0<b))=true:=by
  have:decide (a<a+b)=decide (0<b):=decide_eq_decide.2 (by omega);rw [this];simp
 rw [zvx,e,jd.t6,zG,jd.v11,zC,jd.t5,zA,jd.t4_s,bR];refine H3.jo (l2:=[I (a+b),.zf]) (k:=0) rfl rfl rfl fun h4 H4 => ?_;simp only [zT,yL];rw [jd.ret,H4.zh (k:=0) (n:=2) rfl rfl];exact hK _ _ _ _ _ H4 mY rfl
theorem zsx {a:Nat}:Pure Tryz.prog B 180 [sm a] (· = I (max (-1) (min 1 (a:Int)))):=by
 refine yJ fun h nx K H0 hK=>zR zW yw 100 fun hf => ?_;rw [vk.go,vk.t3,zA,vk.xq];refine H0.box (l:=[I a,.zf]) rfl fun pa h1 nx1 H1 => ?_;rw [vk.t2,zA,vk.xu,sFx,H1.load (k:=0) (i:=0+0) rfl rfl,zzb,zza];simp only [zT,yL];rw [vk.ret];exact hK _ _ _ _ _ H1 (zH rfl) rfl
theorem zmo {a b:Nat} (ha:a<=1000000) (hb:0<b):Pure Tryz.prog B 182 [sm a,sm b] (· = .tup [sm ((a / b:Nat):Int),sm ((a%b:Nat):Int)]):=by
 refine yJ fun h nx K H0 hK=>zR zW yw 100 fun hf => ?_;rw [jc.go,jc.t29,zA,jc.xq];refine H0.box (l:=[I a,.zf]) rfl fun pa h1 nx1 H1 => ?_;refine H1.box (l:=[I b,.zf]) rfl fun pb h2 nx2 H2 => ?_;refine H2.alloc fun p h3 nx3 H3 => ?_;refine H3.alloc fun q h4 nx4 H4 => ?_;rw [jc.t28,zA,jc.t12,zA,jc.xu,jc.r1_0,jc.zhl,sFx,H4.load (k:=3) (i:=0+1) rfl rfl,bQ,jC,sFx,jC,H4.load (k:=2) (i:=0+1) rfl rfl,jC,bQ,yF,jc.r1_1,jc.zeh,jC,sFx,jC,H4.load (k:=3) (i:=0+0) rfl rfl,jC,vw,decide_eq_false (by omega),Zak,yF,jc.t11,zG,jc.v15,zC];rw [jc.t10,zA,jc.fO,sFx,H4.load (k:=3) (i:=0+0) rfl rfl,sFx,H4.load (k:=2) (i:=0+0) rfl rfl,zqc (by omega) hb,sFx,H4.load (k:=3) (i:=0+0) rfl rfl,sFx,H4.load (k:=2) (i:=0+0) rfl rfl,zi9 hb];rw [jc.t9,zA,jc.t6,zA,jc.rY,qm,decide_eq_false (by omega),jc.t5,zG,jc.v16,zD,zO,jc.t8,zA,jc.t7_s,bR,bR];refine H4.jo (l2:=[I ((a / b:Nat):Int),.zf]) (k:=1) rfl rfl rfl fun h5 H5 => ?_;refine H5.jo (l2:=[I ((a%b:Nat):Int),.zf]) (k:=0) rfl rfl rfl fun h6 H6 => ?_;simp only [zT,yL];rw [jc.ret,H6.zh (k:=1) (n:=2) rfl rfl,H6.zh (k:=0) (n:=2) rfl rfl];exact hK _ _ _ _ _ H6 (j5 mY mY) rfl
theorem zvz {a b:Nat} (ha:a<=1000000) (hb:0<b):Pure Tryz.prog B 114 [sm a,sm b] (· = sm ((a / b:Nat):Int)):=by
 refine yJ fun h nx K H0 hK=>zR zW yw 100 fun hf => ?_;rw [jv.go,jv.t10,zA,jv.xq];refine H0.box (l:=[I a,.zf]) rfl fun pa h1 nx1 H1 => ?_;refine H1.box (l:=[I b,.zf]) rfl fun pb h2 nx2 H2 => ?_;refine H2.alloc fun p h3 nx3 H3 => ?_;rw [jv.t9,zA,jv.t4,zA,jv.xu,H3.zh (k:=1) (n:=2) rfl rfl]
 (refine zsx _ _ _ _ ?_;rintro _ rfl _)
 rw [qm,decide_eq_false (by omega),jv.t3,zG,jv.v6,zD,zO,jv.t8,zA,jv.t5_s,H3.zh (k:=2) (n:=2) rfl rfl,H3.zh (k:=1) (n:=2) rfl rfl]
 (refine (zmo ha hb) _ _ _ _ ?_;rintro _ rfl _)
 rw [yY,jB];refine H3.alloc fun s h4 nx4 H4 => ?_;refine H4.alloc fun t h5 nx5 H5 => ?_;refine H5.jo (l2:=[I ((a / b:Nat):Int),.zf]) (k:=1) rfl rfl rfl fun h6 H6 => ?_;refine H6.jo (l2:=[I ((a%b:Nat):Int),.zf]) (k:=0) rfl rfl rfl fun h7 H7 => ?_;rw [jv.t7,zA,jv.t6_s,H7.zh (k:=1) (n:=2) rfl rfl];refine H7.jo (l2:=[I ((a / b:Nat):Int),.zf]) (k:=2) rfl rfl rfl fun h8 H8 => ?_;simp only [zT,yL];rw [jv.ret,H8.zh (k:=2) (n:=2) rfl rfl];exact hK _ _ _ _ _ H8 mY rfl
def zv0:Bool:=(List.range 4).all fun v=>(List.range 4).all fun i=>xZ 179 [sm ((v ^ i:Nat):Int),sm v] (sm ((v ^ (i+1):Nat):Int))
theorem zmp:zv0=true:=by kernel_rfl
theorem zv1 {v i:Nat} (hv:v<4) (hi:i<4):Pure Tryz.prog B 179 [sm ((v ^ i:Nat):Int),sm v] (· = sm ((v ^ (i+1):Nat):Int)) :=
 u4 rfl (List.all_eq_true.1 (List.all_eq_true.1 zmp v (List.mem_range.2 hv)) i (List.mem_range.2 hi))
theorem zqd {p:List Int} {v:Nat} (hp:fM p) (hn:p.length<=4) (hv:v<4):Pure Tryz.prog B 112 [.agg [encI p,.bool false],I v] (· = sm ((v ^ (gA p).length:Nat):Int)):=by
 refine yJ fun h nx K H0 hK=>zR zW yw 10000 fun hf' => ?_;have hzl:(gA p).length<=4:=by
  have:=bS p p.length;rw [gA,Zaj];omega
 rw [yc.go,yc.t27,zA,yc.xq];refine H0.box (l:=[encI p,.bool false]) rfl fun b1 h1 nx1 H1 => ?_;refine H1.alloc fun r h2 nx2 H2 => ?_;rw [yc.t26,zA,yc.xu]
 (refine zkm _ _ _ _ ?_;rintro _ rfl _)
 refine H2.alloc fun t h3 nx3 H3 => ?_;refine H3.jo (l2:=[I 1,.zf]) (k:=0) rfl rfl rfl fun h4 H4 => ?_;rw [yc.t25,zA,yc.t22,zA,yc.fO,H4.zh (k:=2) (n:=2) rfl rfl];refine zmn H4 hp (by omega) fun o b1' sb zz h5 nx5 H5 => ?_;rw [H5.zah (k:=0) rfl,yc.t21,zP];refine yc.zwt (fun m x9 h' nx'=>∃ i:Nat,x9=I i/\m=(gA p).length-i/\i<=(gA p).length/\Hp h h' nx' [.gro o 1 (gA p).length ((gA p).map nV),.arr sb zz,.arr b1' [encI p,.bool false],.arr t [I ((v ^ i:Nat):Int),.zf],.arr r [I 0,.zf],.arr b1 [encI p,.bool false]]) (m:=(gA p).length) (by omega) ⟨0,rfl,rfl,by omega,H5⟩ ?_;rintro m z5 z6 z9 z10 z11 h6 nx6 R ⟨i,rfl,rfl,hi,H6⟩ hR;rw [yc.t19,zA,yc.rY,qm];by_cases hlt:i<(gA p).length
 case neg =>
  obtain rfl:i=(gA p).length:=by omega
  rw [decide_eq_false (by omega),yc.t18,zA,yc.t4,zG,yc.v10,zD,y8,j8,yc.t24,zA,yc.zda,H6.zh (k:=3) (n:=2) rfl rfl];refine H6.jo (l2:=[I ((v ^ (gA p).length:Nat):Int),.zf]) (k:=4) rfl rfl rfl fun h7 H7 => ?_;simp only [zT,yL];rw [yc.ret,H7.zh (k:=4) (n:=2) rfl rfl];exact hK _ _ _ _ _ H7 mY rfl
 have hx:(gA p)[i]? = some (gA p)[i]:=List.getElem?_eq_getElem hlt
 generalize (gA p)[i]=x at *
 obtain ⟨id,q1,q2⟩:=H6.zyu (k:=0) rfl (show ((gA p).map nV)[i]? = some (nV x) by rw [List.getElem?_map,hx];rfl);rw [decide_eq_true (by omega),yc.t18,zA,yc.t4,zG,yc.v10,zC,zO,yc.t17,zA,yc.t15,zP,yc.t14,zA,yc.t5_s,q1,q2,yc.t13,zA,yc.t6_s,yc.t12,zA,yc.t10,zA,yc.t7_s,sFx,H6.load (k:=5) (i:=0+1) rfl rfl];simp only [jZ,zyx,yC];rw [yc.t9,zG,yc.v11,zD,zO,yc.aZ,H6.zh (k:=3) (n:=2) rfl rfl]
 (refine zkm _ _ _ _ ?_;rintro _ rfl _)
 rw [H6.zh (k:=3) (n:=2) rfl rfl,zB]
 (refine (zv1 hv (by omega)) _ _ _ _ ?_;rintro _ rfl _)
 refine H6.jo (l2:=[I ((v ^ (i+1):Nat):Int),.zf]) (k:=3) rfl rfl rfl fun h7 H7 => ?_;rw [yc.au,wo (by omega)];exact hR ((gA p).length-(i+1)) _ _ _ _ _ _ _ (by omega) ⟨i+1,rfl,rfl,by omega,H7⟩
end Go.Ev
namespace Go.Ev
open Go.Proofs
theorem zea {α β:Type} (p:α->β->Bool) (a:α) (l:List α):∀ m:List β,(m.filter (p a)).length+(m.map fun b=>(l.filter fun a=>p a b).length).sum=(m.map fun b=>((a::l).filter fun a=>p a b).length).sum
 | []=>rfl
 | b::m=>by
  have ih:=zea p a l m;rw [Zbx,List.sum_cons,Zbx,List.sum_cons,<- ih];cases h:p a b with
  | false=>rw [List.filter_cons_of_neg (by simp [h]),List.filter_cons_of_neg (p:=fun a=>p a b) (by simp [h])];omega
  | true=>rw [List.filter_cons_of_pos h,List.filter_cons_of_pos (p:=fun a=>p a b) h,Zbf,Zbf];omega
theorem zhh {α β:Type} (p:α->β->Bool):∀ (l:List α) (m:List β),(l.map fun a=>(m.filter (p a)).length).sum=(m.map fun b=>(l.filter fun a=>p a b).length).sum
 | [],m=>by
  simp
  induction m with
  | nil=>rfl
  | cons b m ih=>simpa using ih
 | a::l,m=>by
  rw [Zbx,List.sum_cons,zhh p l m];exact zea p a l m
theorem zkn {α:Type} (q:α->Bool) (w:α->Nat):∀ F:List α,(F.map w).sum=((F.filter q).map w).sum+((F.filter fun f => !q f).map w).sum
 | []=>rfl
 | f::F=>by
  have ih:=zkn q w F;simp only [Zbn,Zbx,List.sum_cons];cases q f <;> simp <;> omega
theorem zeb {α β:Type} [DecidableEq β] (k:α->β) (w:α->Nat):∀ (C:List β),C.Nodup->∀ (F:List α),(∀ f∈F,k f∈C)->(F.map w).sum=(C.map fun c=>((F.filter fun f=>decide (k f=c)).map w).sum).sum
 | [],_,F,h=>by
  cases F with
  | nil=>rfl
  | cons f F=>have:=h f (by simp);cases this
 | c::C,hn,F,h=>by
  obtain ⟨h1,h2⟩:=List.nodup_cons.1 hn;rw [Zbx,List.sum_cons];have hF:=zkn (fun f=>decide (k f=c)) w F
  rw [hF,zeb k w C h2 (F.filter fun f => !decide (k f=c)) fun f hf=>by
   obtain ⟨q1,q2⟩:=List.mem_filter.1 hf;rcases List.mem_cons.1 (h f q1) with q | q
   ·rw [decide_eq_true q] at q2;cases q2
   ·exact q]
  congr 2
  refine Zcl fun d hd => ?_
  congr 2
  rw [List.filter_filter];refine List.filter_congr fun f _ => ?_;have hne:c≠d:=fun e=>h1 (e ▸ hd);by_cases q:k f=d
  ·rw [decide_eq_true q,decide_eq_false (fun z=>hne (z.symm.trans q))];rfl
  ·rw [decide_eq_false q];rfl
theorem mK {α:Type} (w:α->Nat) (M:Nat):∀ (l:List α),(∀ x∈l,w x=M)->(l.map w).sum=l.length*M
 | [],_=>by simp
 | x::l,h=>by
  rw [Zbx,List.sum_cons,mK w M l fun y hy=>h y (by simp [hy]),h x (by simp),Zbf,Nat.succ_mul,Nat.add_comm]
theorem zc1 {G:List Sym} {n:Nat} (ok:pq G n) {f:List Int} (hf:f.length=n):(gB (fP G f)).length*(kL G f).length=G.length:=by
 rw [zmj ok hf];exact zp9 ok (zki ok hf) fun a ha=>(sZ.1 ha).1
theorem zfh {G:List Sym} {n:Nat} (ok:pq G n) {F:List (List Int)} (hF:F.Nodup) (hl:∀ f∈F,f.length=n) (hcl:∀ g∈G,∀ f∈F,yN g.2 g.1 f∈F) :
  (G.map fun g=>(F.filter fun f=>zck f f g).length).sum=(gB (F.map (rG G))).length*G.length:=by
 have hcF:∀ f∈F,rG G f∈F:=fun f hf=>by
  obtain ⟨g,hg,e⟩:=List.mem_map.1 (dJ ok (hl f hf));rw [<- e];exact hcl g hg f hf
 rw [zhh (fun g f=>zck f f g) G F];have e1:(F.map fun f=>(G.filter fun g=>zck f f g).length).sum=(F.map fun f=>(kL G f).length).sum:=rfl;rw [e1,zeb (rG G) (fun f=>(kL G f).length) (gB (F.map (rG G))) (vD _) F fun f hf=>bg.2 (List.mem_map.2 ⟨f,hf,rfl⟩)];refine mK _ G.length _ fun c hc => ?_;obtain ⟨f0,hf0,rfl⟩:=List.mem_map.1 (bg.1 hc);have hcl0:=hcF f0 hf0;have hcn:=hl _ hcl0;have hcc:rG G (rG G f0)=rG G f0:=by
  obtain ⟨g,hg,e⟩:=List.mem_map.1 (dJ ok (hl f0 hf0));have e:yN g.2 g.1 f0=rG G f0:=e;rw [<- e,zcx ok (hl f0 hf0) hg,e]
 have hmem:∀ f,f∈F.filter (fun f=>decide (rG G f=rG G f0))↔f∈gB (fP G (rG G f0)):=fun f=>by
  rw [Zbj,decide_eq_true_eq,bg];constructor
  ·rintro ⟨h1,h2⟩;obtain ⟨g,hg,e⟩:=(zss ok hcn (hl f h1)).1 (hcc.trans h2.symm);exact List.mem_map.2 ⟨g,hg,e⟩
  ·intro h;obtain ⟨g,hg,rfl⟩:=List.mem_map.1 h;exact ⟨hcl g hg _ hcl0,by rw [zcx ok hcn hg,hcc]⟩
 have hlen:(F.filter fun f=>decide (rG G f=rG G f0)).length=(gB (fP G (rG G f0))).length:=by
  refine List.Perm.length_eq ?_;exact (List.perm_ext_iff_of_nodup (hF.filter _) (vD _)).2 hmem
 have hst:∀ f∈F.filter (fun f=>decide (rG G f=rG G f0)),(kL G f).length=(kL G (rG G f0)).length:=fun f hf=>by
  obtain ⟨g,hg,rfl⟩:=List.mem_map.1 (bg.1 ((hmem f).1 hf));have h1:=zc1 ok hcn;have h2:=zc1 ok (f:=yN g.2 g.1 (rG G f0)) (by rw [jW];exact hcn);rw [zd7 ok hcn hg] at h2;have h0:0<G.length:=List.length_pos_iff.2 ok.ne;have hpos:0<(gB (fP G (rG G f0))).length:=Nat.pos_of_ne_zero fun q=>by rw [q,Nat.zero_mul] at h1;omega
  exact Nat.eq_of_mul_eq_mul_left hpos (h2.trans h1.symm)
 rw [mK _ _ _ hst,hlen];exact zc1 ok hcn
def fK (n v k:Nat):List Int:=(List.range n).map fun i=>1+(((k / v ^ i)%v:Nat):Int)
def allF (n v:Nat):List (List Int):=(List.range (v ^ n)).map (fK n v)
theorem zmq:((List.range 5).all fun n=>(List.range 4).all fun v=>decide ((allF n v).Nodup)&&(zhg n n []).all fun p=>((allF n v).all fun f=>decide (yN false p f∈allF n v))&&decide (((allF n v).filter fun f=>decide (yN false p f=f)).length=v ^ (gA p).length))=true:=by decide +kernel
end Go.Ev
namespace Go.Ev
open Go Go.Proofs
variable {B:Nat}
set_option maxRecDepth 100000
abbrev fr (x:Int):AV:=.agg [I x,.zf,I 1,.zf]
def zt3 (x:Nat):Bool:=xZ 113 [sm x] (fr x)&&xZ 115 [fr x] (.bool false)&&xZ 116 [fr x] (.str (digB x))
def zzc:Bool:=(List.range 82).all zt3
theorem zqe:zzc=true:=by kernel_rfl
theorem zfi {x:Nat} (h:x<=81):xZ 113 [sm x] (fr x)=true/\xZ 115 [fr x] (.bool false)=true/\xZ 116 [fr x] (.str (digB x))=true:=by
 have:=List.all_eq_true.1 zqe x (List.mem_range.2 (by omega));unfold zt3 at this;rw [Zad,Zad] at this;exact ⟨this.1.1,this.1.2,this.2⟩
theorem zqf {x:Nat} (h:x<=81):Pure Tryz.prog B 113 [sm x] (· = fr x):=u4 rfl (zfi h).1
theorem zqg {x:Nat} (h:x<=81):Pure Tryz.prog B 115 [fr x] (· = .bool false):=u4 rfl (zfi h).2.1
theorem zsy {x:Nat} (h:x<=81):Pure Tryz.prog B 116 [fr x] (· = .str (digB x)):=u4 rfl (zfi h).2.2
def aY (G:List Sym) (v:Nat):Nat:=(G.map fun g=>v ^ (gA g.1).length).sum
theorem zfj {v k:Nat} (hv:v<4) (hk:k<=4):v ^ k<=81 :=
 Zbo (Nat.pow_le_pow_left (show v<=3 by omega) k) (Zbo (Nat.pow_le_pow_right (by decide) hk) (by decide))
theorem zhi (p:List Int):(gA p).length<=p.length:=by
 have:=bS p p.length;rw [gA,Zaj];exact this
theorem zfk {v:Nat} (hv:v<4):∀ {G:List Sym},(∀ g∈G,g.1.length<=4)->aY G v<=81*G.length
 | [],_=>Zai _
 | g::G,h=>by
  have h1:=zfk hv (G:=G) fun x hx=>h x (by simp [hx]);have h2:=zfj hv (Zbo (zhi g.1) (h g (by simp)));have e:aY (g::G) v=v ^ (gA g.1).length+aY G v:=by simp [aY]
  rw [e,Zbf];omega
theorem zmr {G:List Sym} {v i:Nat} {x:Sym} (hx:G[i]? = some x):aY (G.take (i+1)) v=aY (G.take i) v+v ^ (gA x.1).length:=by
 unfold aY;rw [Zar,hx,Zbc,List.sum_append];simp
theorem zc2 {G:List Sym} {n v:Nat} (hg:yU G n=0) (hn:n<=4) (hc:∀ g∈G,g.2=false) (hv:v<4) (hG:G.length<=24) (hT:aY G v / G.length<=81) :
  Pure Tryz.prog B 36 [jl G,I n,I v] (· = .tup [.str (digB (aY G v / G.length)),I 0]):=by
 refine yJ fun h nx K H0 hK=>zR zW yw 10000 fun hf' => ?_;obtain ⟨n',hn',ok⟩:=qL hg;obtain rfl:n'=n:=by omega
 have hlen:∀ g∈G,g.1.length=n':=fun g hm=>(ok.dp g hm).1.1;have hpos:0<G.length:=List.length_pos_iff.2 ok.ne;rw [F36.go,F36.t29,zA,F36.xq];refine H0.box (l:=[I v]) rfl fun b3 h1 nx1 H1 => ?_;have ld:∀ op:AV->OP,zF (.ptr b3 0) h1 op=op (I v):=fun op=>H1.load (k:=0) (i:=0) rfl rfl;rw [F36.t28,zA,F36.t7,zA,F36.xu,ld,qm,decide_eq_false (by omega)];refine kT (by omega) (fun g hm=>by rw [hlen g hm];omega) _ _ _ _ ?_;rintro _ rfl _;rw [hg,qm,decide_eq_false (by omega),zB,ld,zB,jK,ld,jK,rH,decide_eq_false (by omega),yC];refine kQ _ _ _ _ _ _ ?_;rintro _ rfl _;rw [if_neg (by decide)];refine H1.zy (l:=[I 0,I 0]) rfl fun tb h2 nx2 H2 => ?_;refine wW (l:=[0,0]) H2 (k:=0) rfl (fun B=>vQ (by simp)) (fun v hv=>by rw [hv];exact .int _ _) ?_;rintro _ rfl;rw [show xQ [0,0]=0 from rfl,F36.t6,zA,F36.fO,vw,decide_eq_true rfl,Zah,F36.t5,zG,F36.v10,zD,zO,F36.t27,zA,F36.eX]
 (refine zkm _ _ _ _ ?_;rintro _ rfl _)
 refine H2.drop.alloc fun t h3 nx3 H3 => ?_;refine H3.jo (l2:=[I ((0:Nat):Int),.zf]) (k:=0) rfl rfl rfl fun h4 H4 => ?_;rw [F36.t26,zA,F36.t15,zA,F36.t9_s];refine bA _ _ _ _ ?_;rintro _ rfl _;rw [F36.t14,zP,F36.t13]
 refine zj8 H4 F36.zwq (fun v w k=>F36.zwr k) (by omega)
  (fun i L'=>L'=[.arr t [I ((aY (G.take i) v:Nat):Int),.zf],.arr b3 [I v]])
  (fun _=>False) (fun _ _=>False) rfl
  (fun i x Rb Rb' h6 nx6 L' M E O1 O2 hx hJ H6 hM hE hR hX => ?_) (fun h6 nx6 L' hJ H6 => ?_) (fun _ _ _ hX _=>hX.elim) (fun _ _ _ _ hX _=>hX.elim)
 ·obtain rfl:=hJ;have hxm:=Zaa hx;have hdp:=ok.dp x hxm;have hxl:=hlen x hxm;have hxc:=hc x hxm;have hsn:=zmr (v:=v) hx;have hs1:aY (G.take i) v<=81*(G.take i).length:=zfk hv fun g hm=>by rw [hlen g (List.mem_of_mem_take hm)];exact hn
  have hs2:(G.take i).length<=24:=by rw [Zay];omega
  have hs3:v ^ (gA x.1).length<=81:=zfj hv (Zbo (zhi x.1) (by omega));rw [F36.sN];refine H6.alloc fun b9 h7 nx7 H7 => ?_;refine H7.jo (k:=0) (n:=2) rfl rfl rfl fun h8 H8 => ?_;refine hM _ _ _ [_] H8 fun h9 H9 => ?_;rw [F36.t12,zP,F36.aZ,H9.zh (k:=2) (n:=2) rfl rfl,H9.zh (k:=0) (n:=2) rfl rfl,H9.load (k:=3) (i:=0) rfl rfl,hxc]
  (refine (zqd hdp.perm (by omega) hv) _ _ _ _ ?_;rintro _ rfl _)
  rw [H9.zh (k:=2) (n:=2) rfl rfl,zB]
  (refine (zvy (by omega) (by omega)) _ _ _ _ ?_;rintro _ rfl _)
  rw [show ((aY (G.take i) v:Nat):Int)+((v ^ (gA x.1).length:Nat):Int)=((aY (G.take (i+1)) v:Nat):Int) by rw [hsn];omega];refine H9.jo (n:=2) (l2:=[I ((aY (G.take (i+1)) v:Nat):Int),.zf]) (k:=2) rfl rfl rfl fun h10 H10 => ?_;exact hE _ _ _ [_] _ rfl H10
 ·obtain rfl:=hJ;rw [Zan (Zai _)] at H6;have hs1:aY G v<=81*G.length:=zfk hv fun g hm=>by rw [hlen g hm];exact hn
  have hle:(G.map encS).length=G.length:=Zaj _;rw [F36.t25,zA,F36.au,show (true&&true)=true from rfl,jJ,H6.zh (k:=0) (n:=2) rfl rfl];simp only [zI,jl,hle]
  (refine zkm _ _ _ _ ?_;rintro _ rfl _)
  simp only [zI,jl,hle,zB,H6.zh (k:=0) (n:=2) rfl rfl]
  (refine (zvz (by omega) hpos) _ _ _ _ ?_;rintro _ rfl _)
  simp only [zI,jl,hle,zB,H6.zh (k:=0) (n:=2) rfl rfl]
  (refine (zqf hT) _ _ _ _ ?_;rintro _ rfl _)
  simp only [zI,jl,hle,zB,H6.zh (k:=0) (n:=2) rfl rfl];refine H6.alloc fun fb h7 nx7 H7 => ?_;simp only [zI,jl,hle,zB,H7.zh (k:=1) (n:=2) rfl rfl];refine H7.jo (n:=4) (l2:=[I ((aY G v / G.length:Nat):Int),.zf,I 1,.zf]) (k:=0) rfl rfl rfl fun h8 H8 => ?_;rw [F36.t24,zA,F36.t21,zA,F36.oO,H8.zh (k:=0) (n:=4) rfl rfl]
  (refine (zqg hT) _ _ _ _ ?_;rintro _ rfl _)
  rw [F36.t20,zG,F36.v14,zD,zO,F36.t23,zA,F36.zfn,H8.zh (k:=0) (n:=4) rfl rfl]
  (refine (zsy hT) _ _ _ _ ?_;rintro _ rfl _)
  simp only [zT,yL];rw [F36.ret];exact hK _ _ _ _ _ H8 (j5 (zH rfl) (zH rfl)) rfl
end Go.Ev
namespace Go.Ev
open Go Go.Proofs
set_option maxRecDepth 100000
abbrev EnM:=List AV×AV
def e49 (n:Nat):EnM:=([I n],.str (digB n))
def okE (f:Nat) (e:EnM):Bool:=xZ f e.1 e.2
theorem ok49:((List.range 120).all fun n=>okE 49 (e49 n))=true:=by kernel_rfl
theorem zqh {f:Nat} {e:EnM} {B:Nat} (ha:nns e.1=true) (h:okE f e=true):Pure Tryz.prog B f e.1 (· = e.2):=u4 ha h
theorem zec {n B:Nat} (hn:n<120):Pure Tryz.prog B 49 [I n] (· = .str (digB n)):=zqh (e:=e49 n) rfl (List.all_eq_true.1 ok49 n (List.mem_range.2 hn))
end Go.Ev
namespace Go.Ev
open Go Go.Proofs
variable {B:Nat}
set_option maxRecDepth 100000
def fewB (G:List Sym) (n k:Int):Bool:=decide ((G.length:Int)<=k)&&(decide (n<=16)&&decide (yU G n=0))
theorem zzd {G:List Sym} {n k:Int} (hk:k<=100000):Pure Tryz.prog B 45 [jl G,I n,I k] (· = .bool (fewB G n k)):=by
 refine yJ fun h nx K H0 hK=>zR zW yw 1000 fun hf' => ?_;rw [F45.go,F45.t3,zA,F45.xq,F45.t2,zA,F45.xu,F45.r1_0,F45.zhl,zI,eG];have last:∀ b:Bool,b=fewB G n k->K (.bool b) h nx=.ok True:=fun v hv=>hK _ _ _ _ _ H0 (.bool _) (by rw [hv]);by_cases c1:(G.length:Int)<=k
 case neg =>
  simp only [c1,decide_false,jZ,yC];rw [F45.r1_1,F45.zeh];simp only [jZ,zgs];rw [F45.r1_2,F45.zhm];simp only [jZ,yC];simp only [zT,yL];rw [F45.ret];exact last _ (by rw [fewB,decide_eq_false c1];rfl)
 simp only [c1,decide_true,jC,eG,yF];rw [F45.r1_1,F45.zeh];by_cases c2:n<=16
 case neg =>
  simp only [c2,decide_false,jZ,zgs];rw [F45.r1_2,F45.zhm];simp only [jZ,yC];simp only [zT,yL];rw [F45.ret];exact last _ (by rw [fewB,decide_eq_false c2];simp)
 simp only [c2,decide_true,jC,zdv];refine zg1 (by omega) _ _ _ _ ?_;rintro _ rfl _;rw [F45.r1_2,F45.zhm];simp only [jC,aK,yF];simp only [zT,yL];rw [F45.ret];exact last _ (by rw [fewB,decide_eq_true c1,decide_eq_true c2];rfl)
theorem zqi {l:List Int} (h:∀ x∈l, -900000<=x/\x<=900000):l.any aN=false:=by
 refine Bool.eq_false_iff.2 fun q => ?_;obtain ⟨x,hx,e⟩:=List.any_eq_true.1 q;have:=h x hx;simp only [aN,Zcd,decide_eq_true_eq] at e;omega
theorem zze {f:List Int} (hl:f.length<=256) (h:∀ x∈f, -100000<=x/\x<=100000):vA f=0:=by
 rw [vA,if_neg (by omega),zfc,zqi fun x hx=>by have:=h x hx;omega];rfl
theorem orb0 {G:List Sym} {f:List Int} (hg:yU G f.length=0) (h:∀ x∈f, -100000<=x/\x<=100000):qB G f=0:=by
 obtain ⟨n,hn,ok⟩:=qL hg;obtain rfl:f.length=n:=by omega
 have hl:=ok.n256;have h0:=zze hl h;have ha:actE G f=0:=by rw [actE,if_neg (fun q=>q h0),hg]
 rw [qB,if_neg (fun q=>q ha)];have:(fP G f).any (·.any aN)=false:=by
  refine Bool.eq_false_iff.2 fun q => ?_;obtain ⟨y,hy,e⟩:=List.any_eq_true.1 q;obtain ⟨a,ha,rfl⟩:=List.mem_map.1 hy;have hb:=zmh (ok.dp a ha) rfl h (by decide);have e:(yN a.2 a.1 f).any aN=true:=e;rw [zqi fun x hx=>by have:=hb x hx;omega] at e;cases e
 rw [this];rfl
end Go.Ev
namespace Go.Ev
open Go Go.Proofs
variable {B:Nat}
def zv2:Bool:=(List.range 82).all fun m=>xZ 46 [.str (digB m)] (I 0)
theorem zms:zv2=true:=by kernel_rfl
theorem zsz {m:Nat} (h:m<=81):Pure Tryz.prog B 46 [.str (digB m)] (· = I 0):=u4 rfl (List.all_eq_true.1 zms m (List.mem_range.2 (by omega)))
def cmpZ (m q:Nat):Int:=if m=q then 0 else -1
def zv3 (q:Nat):Bool:=(List.range (q+1)).all fun m=>xZ 50 [.str (digB m),.str (digB q)] (I (cmpZ m q))
def zqj:Bool:=[0,1,2,3,4,8,9,16,27,81].all zv3
theorem zhj:zqj=true:=by kernel_rfl
theorem zs3 {n v:Nat} (hn:n<=4) (hv:v<4):v ^ n∈[0,1,2,3,4,8,9,16,27,81]:=by
 have:∀ n<5,∀ v<4,v ^ n∈[0,1,2,3,4,8,9,16,27,81]:=by decide
 exact this n (by omega) v hv
theorem zzf {n v m:Nat} (hn:n<=4) (hv:v<4) (hm:m<=v ^ n):Pure Tryz.prog B 50 [.str (digB m),.str (digB (v ^ n))] (· = I (cmpZ m (v ^ n))) :=
 u4 rfl (List.all_eq_true.1 (List.all_eq_true.1 zhj _ (zs3 hn hv)) m (List.mem_range.2 (by omega)))
theorem idG:∀ n<5,yU [idS n] (n:Int)=0/\(gA (idS n).1).length=n/\(idS n).2=false:=by decide +kernel
theorem zko {n v:Nat} (hn:n<=4):aY [idS n] v=v ^ n:=by
 obtain ⟨_,h2,_⟩:=idG n (by omega);simp [aY,h2]
theorem zqk (n v:Nat):(allF n v).length=v ^ n:=by rw [allF,Zaj,List.length_range]
theorem wB (n v k:Nat):(fK n v k).length=n:=by rw [fK,Zaj,List.length_range]
theorem zt4 {n v k:Nat} (hk:k<v ^ n) (hn:0<n):0<v:=by
 refine Nat.pos_of_ne_zero fun h => ?_;subst h;rw [Nat.zero_pow hn] at hk;omega
theorem zv4 {n v k:Nat} (hv:v<4) (hk:k<v ^ n):∀ x∈fK n v k, -100000<=x/\x<=100000:=fun x hx=>by
 obtain ⟨i,hi,rfl⟩:=List.mem_map.1 hx;have:=Nat.mod_lt (k / v ^ i) (zt4 hk (by have:=List.mem_range.1 hi;omega));omega
theorem zs4 {v k i:Nat}:fK (i+1) v k=fK i v k++[1+((k / v ^ i%v:Nat):Int)]:=by
 unfold fK;rw [List.range_succ,Zbc];rfl
theorem zql {G:List Sym} {n v:Nat} (hg:yU G n=0) (hn:n<=4) (hc:∀ g∈G,g.2=false) (hv:v<4):aY G v=(gB ((allF n v).map (rG G))).length*G.length:=by
 obtain ⟨n',hn',ok⟩:=qL hg;obtain rfl:n'=n:=by omega
 have tb:=List.all_eq_true.1 (List.all_eq_true.1 zmq n' (List.mem_range.2 (by omega))) v (List.mem_range.2 hv);rw [Zad,decide_eq_true_eq] at tb;have tp:∀ g∈G,(∀ f∈allF n' v,yN false g.1 f∈allF n' v)/\((allF n' v).filter fun f=>decide (yN false g.1 f=f)).length=v ^ (gA g.1).length:=fun g hm=>by
  have hd:=ok.dp g hm;have hl:g.1.length=n':=hd.1.1;have hp:=hd.perm;have:=List.all_eq_true.1 tb.2 g.1 ((mR List.nodup_nil).2 ⟨g.1,rfl,hl,by simpa using hp.1,fun x hx=>by have:=hp.2 x hx;omega⟩);rw [Zad,decide_eq_true_eq] at this;exact ⟨fun f hf=>of_decide_eq_true (List.all_eq_true.1 this.1 f hf),this.2⟩
 rw [<- zfh ok tb.1 (fun f hf=>by obtain ⟨k,_,rfl⟩:=List.mem_map.1 hf;exact wB _ _ _) fun g hm f hf=>by rw [hc g hm];exact (tp g hm).1 f hf];unfold aY;refine congrArg List.sum (Zcl fun g hm => ?_);rw [<- (tp g hm).2];unfold zck;rw [hc g hm]
theorem zs5 {G:List Sym} {n v:Nat}:(gB ((allF n v).map (rG G))).length<=v ^ n:=by
 have:=dS ((allF n v).map (rG G)) [];rw [Zaj,zqk] at this;simpa [gB] using this
end Go.Ev
namespace Go.Ev
open Go Go.Proofs
variable {B:Nat}
set_option maxRecDepth 100000
theorem Hp.zt5 {h0 h:T Blk} {nx id:Pa} {L:List Ob} {l:List AV} (H:Hp h0 h nx (.arr id l::L)):Hp h0 (T.set .no .no id h) nx L:=by
 have hid:T.get .no id h0=.no:=H.off id (by simp [Ob.names]);have H3:=H.drop;have nd:=H.nd;simp only [Zbg,Ob.names] at nd;have hni:id∉L.flatMap Ob.names:=fun hi=>(List.nodup_append.1 nd).2.2 id (by simp) id hi rfl;have other:∀ j,j≠id->T.get .no j (T.set .no .no id h)=T.get .no j h:=fun j hj=>T.yh _ _ _ _ _ hj;refine ⟨fun j hj => ?_,fun y hy => ?_,H3.off,H3.nd,fun j hj => ?_⟩
 ·rw [other j (by rintro rfl;exact hj hid)];exact H.keep j hj
 ·exact (H3.own y hy).congr fun m hm=>other m (by rintro rfl;exact hni (List.mem_flatMap.2 ⟨y,hy,hm⟩))
 ·by_cases e:j=id
  ·subst e;exact T.get_set_same _ _ _ _
  ·rw [other j e];exact H.fr j hj
theorem Hp.zv5 {h0 h:T Blk} {nx id:Pa} {L:List Ob} {l:List AV} {n:Nat} {cap:Option Nat} (H:Hp h0 h nx (.arr id l::L)) (hf:∀ v∈l,rU v=true) (hl:l.length=n) (hc:vT n cap):∃ h',uN h' h/\Hp h0 h' nx L/\aP h' h (.sl id 0 n cap 1) (.lst 1 n l) :=
 ⟨_,zb0,H.zt5,ji.frz (H.own _ (Zal ..)) (T.get_set_same _ _ _ _) hc (by omega) hf⟩
theorem fixI (l:List Int):∀ v∈l.map I,rU v=true:=fun v hv=>by obtain ⟨x,_,rfl⟩:=List.mem_map.1 hv;rfl
theorem zqm {n:Nat} (hn:n<=1000):Pure Tryz.prog B 101 [I (n:Int)] (· = encI (idL n)):=by
 refine yJ fun h nx K H0 hK=>zR zW yw 10000 fun hf' => ?_;rw [yx.go,yx.t18,zA,yx.xq,yx.t17,zA,yx.xu,yx.t16,zA,yx.t13,zA,yx.fO,yx.t12,zP];refine yx.zwu (fun m x2 x3 h' nx'=>∃ (i:Nat) (o:Option Pa) (L':List Ob),x3=I i/\x2=qp o 1 i/\m=n-i/\i<=n/\Hp h h' nx' (.gro o 1 i ((idL i).map I)::L')) (m:=n) (by omega) ⟨0,none,[],rfl,rfl,by omega,by omega,H0.oZ 1⟩ ?_;rintro m z2 z3 z4 h3 nx3 R ⟨i,o,L',rfl,rfl,rfl,hi,H3⟩ hR;rw [yx.t10,zA,yx.t5,zA,yx.rY,qm];by_cases hlt:i<n
 case neg =>
  rw [decide_eq_false (by omega),yx.t4,zG,yx.v4,zD,y8,j8,yx.t15,zA,yx.zas];simp only [zT,yL];rw [yx.ret];obtain rfl:i=n:=by omega
  refine hK _ _ _ _ _ H3 (H3.zb1 (k:=0) rfl zpo) ?_;show AV.lst 1 i _=AV.lst 1 (idL i).length _;rw [pR]
 rw [decide_eq_true (by omega),yx.t4,zG,yx.v4,zC,zO,yx.t9,zA,yx.t7,zP,yx.t6_s];refine H3.zy (l:=[I i]) rfl fun tb h4 nx4 H4 => ?_;refine H4.appN (k:=1) (o:=o) (n:=i) (c:=1) (esz:=1) (new:=[I i]) rfl (ji.rd (l:=[I i]) (n:=1) (e:=1) (H4.own _ (Zal ..)) rfl) rfl rfl (by decide) (by decide) (by omega) fun o' h5 nx5 _ H5 => ?_;rw [yx.eX,wo (by omega)];have e:(idL i).map I++[I (i:Int)]=(idL (i+1)).map I:=by simp [idL,List.range_succ]
 rw [e] at H5;exact hR _ _ _ _ _ _ (by omega) ⟨i+1,o',L',rfl,rfl,rfl,by omega,H5.drop⟩
theorem zs6 {a:AV} (ha:a.cells=some [a]) {K:AV->OP}:gO [.zf,.bool false] [(0,1,a)] K=K (.agg [a,.bool false]):=by
 unfold gO;simp only [gD,ha]
 rfl
theorem zs7 {n:Nat} (hn:n<=1000):Pure Tryz.prog B 31 [I (n:Int)] (· = encS (idS n)):=by
 refine yJ fun h nx K H0 hK=>zR zW yw 10000 fun hf' => ?_;rw [F31.go,F31.t3,zA,F31.xq];refine H0.alloc fun b1 h1 nx1 H1 => ?_;rw [F31.t2,zA,F31.xu]
 (refine zqm hn _ _ _ _ ?_;rintro _ rfl _)
 rw [zs6 rfl];refine H1.jo (k:=0) (n:=2) rfl rfl rfl fun h2 H2 => ?_;simp only [zT,yL];rw [F31.ret,H2.zh (k:=0) (n:=2) rfl rfl];exact hK _ _ _ _ (encS (idS n)) H2 (zpy (idS n)) rfl
theorem QV.at {v:AV} {o:Ob} {q:List Sym} {i:Nat} (h:QV v o q) (hi:i<q.length):∃ id off,(∀ op:AV->OP,zS 2 v (I (i:Int)) op=op (.ptr id off))/\∀ {h0 hh:T Blk} {nx:Pa} {L:List Ob} {k:Nat},Hp h0 hh nx L->L[k]? = some o->∀ op:AV->OP,zK 2 (.ptr id off) hh op=op (encS q[i]):=by
 have hq:∃ a t,q=a::t:=by cases q with
  | nil=>simp at hi
  | cons a t=>exact ⟨a,t,rfl⟩
 obtain ⟨a,t,rfl⟩:=hq;obtain ⟨id,off,cap,l,rfl,g3,g4,g⟩:=h.cells;refine ⟨id,off+i*2,fun op=>kO hi,fun {h0 hh nx L k} H hk op => ?_⟩;obtain ⟨op',t',g1,g2⟩:=g hh (H.own _ (Zaa hk));show jr (T.get .no id hh) _ _=_;rw [g1];show (bif Nat.ble (off+i*2+2) l.length then op (.agg (yG t' (off+i*2) 2)) else .no 8)=_;rw [Zab (by omega),cond_true];have e:∀ j,j<l.length->T.get .undef (.of j) t'=l.getD j .undef:=fun j hj=>by
  have:=zY t' 0 l.length j hj;rw [g2,Zav] at this;rw [Zac,this];rfl
 have d:∀ j,j<2->l.getD (off+i*2+j) .undef=((yI (a::t)).drop (i*2)).getD j .undef:=fun j hj=>by
  rw [<- g4,Zac,Zac,List.getElem?_drop,List.getElem?_take_of_lt (by omega),List.getElem?_drop]
  congr 2;omega
 have e2:yG t' (off+i*2) 2=[T.get .undef (.of (off+i*2)) t',T.get .undef (.of (off+i*2+1)) t']:=rfl;have d0:=d 0 (by omega);rw [Nat.add_zero] at d0;rw [e2,e _ (by omega),e _ (by omega),d 1 (by omega),d0,jO hi]
 rfl
theorem zkp {s:List UInt8} {K:AV->OP}:zx .eql .str (.str s) (.str s) K=K (.bool true):=by
 have e:zx .eql .str (.str s) (.str s) K=K (.bool (gE s s)):=nr rfl;rw [e,bZ.2 rfl]
theorem zv6 {z:Int} {K:AV->OP} (h:0<=z/\z<256):zfl .i64 (.int .u8 z) K=K (I z):=by
 show pz (wF .i64 z) (fun z=>K (.int .i64 z))=_;rw [wJ,vB,wR (by omega)]
theorem Hp.zs8 {h0 h:T Blk} {nx id:Pa} {L:List Ob} {l:List AV} {n:Nat} {cap:Option Nat} (H:Hp h0 h nx (.arr id l::L)) (hf:∀ v∈l,rU v=true) (hl:l.length=n*2) (hc:vT n cap):∃ h',uN h' h/\Hp h0 h' nx L/\aP h' h (.sl id 0 n cap 2) (.lst 2 n l) :=
 ⟨_,zb0,H.zt5,ji.frz (H.own _ (Zal ..)) (T.get_set_same _ _ _ _) hc hl hf⟩
def rowK (n v k i:Nat):List AV:=(fK i v k).map I++List.replicate (n-i) (I 0)
theorem zqn {n v k i:Nat} (h:i<=n):(rowK n v k i).length=n:=by
 rw [rowK,Zas,Zaj,wB,List.length_replicate];omega
theorem zqo {n v k i:Nat} (h:i<n):(rowK n v k i).set i (I (1+((k / v ^ i%v:Nat):Int)))=rowK n v k (i+1):=by
 unfold rowK;have e:((fK i v k).map I).length=i:=by rw [Zaj,wB]
 rw [List.set_append,if_neg (by omega),e,Zci,show n-i=(n-(i+1))+1 by omega,List.replicate_succ,List.set_cons_zero,zs4,Zbc,Zbp]
 rfl
theorem zmt (n v k:Nat):List.replicate n (I 0)=rowK n v k 0:=by unfold rowK;rw [Nat.sub_zero];rfl
theorem zmu (n v k:Nat):rowK n v k n=(fK n v k).map I:=by unfold rowK;rw [Zci];simp
def vE (G:List Sym) (n v k:Nat):List (List Int):=gB (((List.range k).map (fK n v)).map (rG G))
theorem zc3 (G:List Sym) (n v k:Nat):vE G n v (k+1)=uZ (vE G n v k) (rG G (fK n v k)):=by
 unfold vE gB;rw [List.range_succ,Zbc,Zbc,List.foldl_append];rfl
theorem zmv (G:List Sym) (n v k:Nat):(vE G n v k).length<=k:=by
 have:=dS (((List.range k).map (fK n v)).map (rG G)) [];rw [Zaj,Zaj,List.length_range] at this;simpa [vE,gB] using this
theorem law8 {G:List Sym} {cells u:Int} (hu:0<=u/\u<256) (haw:∀ {B},Pure Tryz.prog B 18 [] (· = .bool true)):Pure Tryz.prog B 8 [jl G,I cells,.int .u8 u] (· = .bool true):=by
 refine yJ fun h nx K H0 hK=>zR zW yw 1000 fun hf => ?_;have awk:∀ (h:T Blk) (nx:Pa) (Z:Kw Prop),Z (.bool true) h nx=.ok True->(CS Tryz.prog B).fn 18 (.of 18) [] h nx Z=.ok True:=fun h nx Z hZ=>haw _ _ _ _ fun v hv _=>by rw [hv];exact hZ
 have ret:∀ {h1 nx1 L},Hp h h1 nx1 L->K (.bool true) h1 nx1=.ok True:=fun H=>hK _ _ _ _ _ H (zH rfl) rfl;obtain ⟨w,rfl⟩:=Int.eq_ofNat_of_zero_le hu.1;have hrem:∀ K:AV->OP,zx .rem .int (I (w:Int)) (I 4) K=K (I ((w%4:Nat):Int)):=fun K=>zi9 (b:=4) (by decide);have hv4:w%4<4:=Nat.mod_lt _ (by decide);rw [F8.go,F8.t99,zA,F8.xq,F8.t98,zA,F8.xu,zv6 hu,hrem]
 generalize w%4=v at *
 rw [F8.t97,zA,F8.t6,zA,F8.fO,F8.r2_0,F8.zhk];refine awk _ _ _ ?_;rw [F8.r2_1,F8.zeg,yX,Zah];simp only [jK,qm,yC];by_cases c1:cells<0
 ·simp only [c1,decide_true,jY];rw [F8.r2_2,F8.zay,yF];simp only [jY,ztv];rw [F8.r2_3,F8.zhn];simp only [jY,yF];rw [F8.t5,zG,F8.v18,zC,F8.t4,zA,F8.rY];refine awk _ _ _ ?_;simp only [zT,yL];rw [F8.ret];exact ret H0
 simp only [c1,decide_false,jK,rH];rw [F8.r2_2,F8.zay,yC];by_cases c2:4<cells
 ·simp only [c2,decide_true,jY,ztv];rw [F8.r2_3,F8.zhn];simp only [jY,yF];rw [F8.t5,zG,F8.v18,zC,F8.t4,zA,F8.rY];refine awk _ _ _ ?_;simp only [zT,yL];rw [F8.ret];exact ret H0
 simp only [c2,decide_false,jK,ztw]
 (refine zzd (by decide) _ _ _ _ ?_;rintro _ rfl _)
 rw [F8.r2_3,F8.zhn];cases c3:fewB G cells 24 with
 | false =>
  simp only [jK,yX,Zak,yC];rw [F8.t5,zG,F8.v18,zC,F8.t4,zA,F8.rY];refine awk _ _ _ ?_;simp only [zT,yL];rw [F8.ret];exact ret H0
 | true =>
 simp only [jK,yX,Zah,yC];unfold fewB at c3;rw [Zad,Zad,decide_eq_true_eq,decide_eq_true_eq,decide_eq_true_eq] at c3;obtain ⟨hG,_,hg⟩:=c3;obtain ⟨n,rfl,ok⟩:=qL hg;have hn:n<=4:=by omega
 rw [F8.t5,zG,F8.v18,zD,zO,F8.t96,zA,F8.t24,zA,F8.t7_s,zI,F8.t23,zP];refine F8.zwv (fun m x20 h' nx'=>∃ i:Nat,x20=I i/\m=G.length-i/\i<=G.length/\(∀ g∈G.take i,g.2=false)/\Hp h h' nx' []) (m:=G.length) (by omega) ⟨0,rfl,rfl,by omega,by simp,H0⟩ ?_;rintro m z3 z5 z20 z21 z22 h3 nx3 R ⟨i,rfl,rfl,hi,hci,H3⟩ hR;rw [F8.t21,zA,F8.eX,qm];by_cases hlt:i<G.length
 case pos =>
  have hx:G[i]? = some G[i]:=List.getElem?_eq_getElem hlt;have ld:∀ op:AV->OP,(zQ 1 (.fp (encI G[i].1::.bool G[i].2::(yI G).drop ((i+1)*2))) fun v2=>zF v2 h3 op)=op (.bool G[i].2):=fun op=>nr rfl;rw [decide_eq_true (by omega),F8.t20,zA,F8.t9,zG,F8.v21,zC,zO,F8.t19,zA,F8.t17,zP,F8.t16,zA,F8.sN,F8.t15,zA,F8.aZ,fG rfl hlt,jO hlt,ld,F8.t14,zG,F8.v22];cases e:G[i].2 with
  | true =>
   rw [zC,F8.t13,zA,F8.zam];simp only [zT,xV,yL];rw [F8.ret];exact ret H3
  | false =>
   rw [zD,zO,F8.zak,wo (by omega)];refine hR (G.length-(i+1)) _ _ _ _ _ _ _ (by omega) ⟨i+1,rfl,rfl,by omega,fun g hgm => ?_,H3⟩;rw [Zar,hx] at hgm;rcases List.mem_append.1 hgm with q | q
   ·exact hci g q
   ·have:g=G[i]:=by simpa using q
    rw [this];exact e
 obtain rfl:i=G.length:=by omega
 rw [Zan (Zai _)] at hci;have hc:=hci;have hpos:0<G.length:=List.length_pos_iff.2 ok.ne;have hsl:=zql hg hn hc hv4;have hle:=zs5 (G:=G) (n:=n) (v:=v);have hp81:=zfj hv4 hn;have hdiv:aY G v / G.length=(vE G n v (v ^ n)).length:=by rw [hsl,Nat.mul_div_cancel _ hpos];rfl
 have hle2:(vE G n v (v ^ n)).length<=v ^ n:=hle;rw [decide_eq_false (by omega),F8.t20,zA,F8.t9,zG,F8.v21,zD,y8,j8,F8.t95,zA,F8.zww];refine zc2 hg hn hc hv4 (by omega) (by omega) _ _ _ _ ?_;rintro _ rfl _;rw [yY,jB,hdiv,F8.t94,zA,F8.zwx]
 (refine zs7 (by omega) _ _ _ _ ?_;rintro _ rfl _)
 refine H3.zy (l:=[encI (idS n).1,.bool (idS n).2]) rfl fun tb h4 nx4 H4 => ?_
 obtain ⟨h5,k1,H5,hfz⟩:=H4.zs8 (n:=1) (cap:=some 1) (fun x hx=>by
  rcases List.mem_cons.1 hx with rfl | hx
  ·exact gM _
  ·rw [List.mem_singleton.1 hx];rfl) rfl (Zai _)
 obtain ⟨i1,i2,i3⟩:=idG n (by omega);refine zoc (args':=[jl [idS n],I n,I v]) k1 (.cons hfz (.cons (zH rfl) (.cons (zH rfl) .nil))) ?_;refine zc2 (G:=[idS n]) i1 hn (by simp [i3]) hv4 (by simp) (by rw [zko hn];simpa using hp81) _ _ _ _ ?_;rintro _ rfl _;rw [zko hn,show v ^ n / [idS n].length=v ^ n from Nat.div_one _];rw [yY,jB,F8.t93,zA,F8.t31,zA,F8.zwy,wo (by omega),vw,decide_eq_true (by decide),Zah];simp only [jK,ztw]
 (refine (zsz (m:=(vE G n v (v ^ n)).length) (by omega)) _ _ _ _ ?_;rintro _ rfl _)
 rw [vw,decide_eq_true rfl,Zah,yC,F8.t30,zG,F8.v23,zD,zO,F8.t92,zA,F8.zwz,F8.t91,zA,F8.t44,zA,F8.zw0,F8.t43,zP];refine F8.zw3 (fun m x10 x25 h' nx'=>∃ i:Nat,x25=I i/\x10=I ((v ^ i:Nat):Int)/\m=n-i/\i<=n/\Hp h h' nx' []) (m:=n) (by omega) ⟨0,rfl,rfl,by omega,by omega,H5⟩ ?_;rintro m z10 z25 z26 h6 nx6 R ⟨i,rfl,rfl,rfl,hi,H6⟩ hR;rw [F8.t41,zA,F8.zw1,qm];by_cases hlt:i<n
 case pos =>
  have h1:=zfj hv4 (show i+1<=4 by omega);have hmul:((v ^ i:Nat):Int)*(v:Int)=((v ^ (i+1):Nat):Int):=by rw [Nat.pow_succ,Int.natCast_mul]
  rw [decide_eq_true (by omega),F8.t40,zA,F8.t35,zG,F8.v26,zC,zO,F8.t39,zA,F8.t37,zP,F8.zw2,oI (by rw [hmul];omega),hmul,F8.zfo,wo (by omega)];exact hR (n-(i+1)) _ _ _ _ _ (by omega) ⟨i+1,rfl,rfl,rfl,by omega,H6⟩
 have ei:i=n:=by omega
 rw [decide_eq_false (by omega),F8.t40,zA,F8.t35,zG,F8.v26,zD,y8,j8,F8.t90,zA,F8.zw4,F8.t89,zA,F8.t86,zA,F8.zw5,F8.t85,zP,ei];refine F8.zxk (fun m x11 x12 h' nx'=>∃ k:Nat,x12=I k/\LT x11 (vE G n v k)/\m=v ^ n-k/\k<=v ^ n/\Hp h h' nx' []) (m:=v ^ n) (by omega) ⟨0,rfl,.inl ⟨rfl,rfl⟩,by omega,by omega,H6⟩ ?_;rintro m z3 z11 z12 z13 z14 z15 z16 z17 z27 z28 z29 z30 z31 h7 nx7 R ⟨k,rfl,hLT,rfl,hk,H7⟩ hR;rw [F8.t83,zA,F8.t49,zA,F8.zw6,qm];by_cases hkl:k<v ^ n
 case neg =>
  have ek:k=v ^ n:=by omega
  rw [ek] at hLT;rw [decide_eq_false (by omega),F8.t48,zG,F8.v27,zD,y8,j8,F8.t88,zA,F8.zxl,F8.zm4,F8.zqq,hLT.len];refine zec (by omega) _ _ _ _ ?_;rintro _ rfl _;rw [F8.ztb,F8.zqr,zkp];simp only [jC,zdv];refine zec (by omega) _ _ _ _ ?_;rintro _ rfl _;rw [F8.zta,F8.zqs,jC,zkp,yF];simp only [jC,zdv];refine zzf hn hv4 hle2 _ _ _ _ ?_;rintro _ rfl _;have hz:cmpZ (vE G n v (v ^ n)).length (v ^ n)<=0:=by unfold cmpZ;split <;> omega
  rw [F8.zs9,F8.zqu,jC,eG,decide_eq_true hz,yF];simp only [zT,yL];rw [F8.ret];exact ret H7
 rw [decide_eq_true (by omega),F8.t48,zG,F8.v27,zC,zO,F8.t82,zA,F8.t80,zP,F8.t79,zA,F8.zw7];refine H7.mk1 (z:=I 0) n rfl rfl (by omega) (by decide) fun fb h8 nx8 H8 => ?_;rw [zmt n v k] at H8;rw [F8.t78,zA,F8.zw8,F8.t77,zA,F8.t67,zA,F8.zw9,jM,F8.t66,zP];refine F8.zxf (fun m x14 x29 h' nx'=>∃ i:Nat,x29=I i/\x14=I ((k / v ^ i:Nat):Int)/\m=n-i/\i<=n/\Hp h h' nx' [.arr fb (rowK n v k i)]) (m:=n) (by omega) ⟨0,rfl,by rw [Nat.pow_zero,Nat.div_one],by omega,by omega,H8⟩ ?_;rintro m z14 z15 z29 z30 h9 nx9 R2 ⟨j,rfl,rfl,rfl,hj,H9⟩ hR2;rw [F8.t64,zA,F8.zxa,qm];by_cases hjn:j<n
 case pos =>
  have hv0:=zt4 hkl (by omega:0<n);have hkk:k / v ^ j<=k:=Nat.div_le_self _ _;have hm:=Nat.mod_lt (k / v ^ j) hv0;rw [decide_eq_true (by omega),F8.t63,zA,F8.t54,zG,F8.v30,zC,zO,F8.t62,zA,F8.t60,zP,F8.t59,zA,F8.zxb,F8.t58,zA,F8.zxc,zi9 hv0,wo (by omega),sIx rfl hjn];refine H9.store (k:=0) rfl (by rw [zqn hj];exact hjn) rfl fun h10 H10 => ?_;have H10:Hp h h10 nx9 [.arr fb ((rowK n v k j).set j (I (1+((k / v ^ j%v:Nat):Int))))]:=H10;rw [zqo hjn] at H10;rw [F8.zxd,zqc (by omega) hv0,Nat.div_div_eq_div_mul,<- Nat.pow_succ,F8.zxe,wo (by omega)];exact hR2 (n-(j+1)) _ _ _ _ _ _ (by omega) ⟨j+1,rfl,rfl,rfl,by omega,H10⟩
 have ej:j=n:=by omega
 rw [ej,zmu] at H9;rw [decide_eq_false (by omega),F8.t63,zA,F8.t54,zG,F8.v30,zD,y8,j8,F8.t76,zA,F8.zxg];obtain ⟨h11,k2,H11,hfz2⟩:=H9.zv5 (n:=n) (cap:=some n) (fixI _) (by rw [Zaj,wB]) (Zai _);have ee:AV.lst 1 n ((fK n v k).map I)=encI (fK n v k):=by show _=AV.lst 1 (fK n v k).length _;rw [wB]
 rw [ee] at hfz2;refine zoc (args':=[jl G,encI (fK n v k)]) k2 (.cons (zH (m5 _)) (.cons hfz2 .nil)) ?_;refine zhf (by omega) (fun g hm=>by rw [(ok.dp g hm).1.1];omega) (by rw [wB];omega) _ _ _ _ ?_;rintro _ rfl _;have ho:qB G (fK n v k)=0:=orb0 (by rw [wB];exact hg) (zv4 hv4 hkl);have hcl:(rG G (fK n v k)).length=n:=by
  obtain ⟨g,_,e⟩:=List.mem_map.1 (dJ ok (wB n v k));rw [<- e,jW,wB]
 rw [canV,if_neg (fun q=>q ho),show (gB (fP G (fK n v k))).headD []=rG G (fK n v k) from rfl,yY,jB,F8.t75,zA,F8.t73,zA,F8.zxh,F8.zm3,F8.zqp,vw,decide_eq_true rfl,Zah];simp only [jK,zI,hcl,vw,decide_true,Zah,yC];rw [F8.t72,zG,F8.v31,zD,zO,F8.zxi];have hsk:=zmv G n v k;refine zmg hLT (wS _) (by omega) (fun g hgm => ?_) (by omega) _ _ _ _ ?_
 ·obtain ⟨f,hf1,rfl⟩:=List.mem_map.1 (bg.1 hgm);obtain ⟨q,_,rfl⟩:=List.mem_map.1 hf1;obtain ⟨g,_,e⟩:=List.mem_map.1 (dJ ok (wB n v q));rw [<- e,jW,wB];omega
 rintro _ rfl _;rw [F8.zxj,wo (by omega)];refine hR (v ^ n-(k+1)) _ _ _ _ _ _ _ _ _ _ _ _ _ _ _ (by omega) ⟨k+1,rfl,.inr ⟨by rw [zc3],?_⟩,rfl,by omega,H11⟩;rw [zc3];intro q;have:=zd4 (l:=vE G n v k) (a:=rG G (fK n v k)) (x:=rG G (fK n v k)) |>.2 (.inl rfl);rw [q] at this;cases this
end Go.Ev
