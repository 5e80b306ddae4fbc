import Derived.Test.YtkjkjpmahgeneaaGreatDoorWordsa
import Derived.Test.YtkjkjpmahgeneaaGreatDoorEvD
import Derived.Test.YtkjkjpmahgeneaaGreatDoorCodea
import Derived.Test.YtkjkjpmahgeneaaGreatDoorLaws
import Derived.Shelf.SlSortCmp.Whole1
import Derived.Deep.Slices
import Derived.Sort.Grow
import Derived.Sort.Row
import GoSem.Core.Next
set_option linter.unusedSimpArgs false
set_option linter.unusedVariables false
namespace Go.Ev
open Go Go.Proofs
variable {B:Nat}
set_option maxRecDepth 100000
theorem zlh {h0 h:T Blk} {nx p:Pa} {L:List Ob} {f:List Int} {K:Kw Prop} (hf:0<f.length) (hl:f.length<=1000) (H:Hp h0 h nx L)
  (hK:∀ id cap h' nx',pK f.length cap->Hp h0 h' nx' (.arr id (f.map I)::L)->K (.sl id 0 f.length cap 1) h' nx'=.ok True):(CS Tryz.prog B).fn 106 p [encI f] h nx K=.ok True:=by
 refine gJ (p:=.of 106) (K:=K) (zR zV yw 9 fun hf => ?_) fun _ _ _ _ q=>q;cases f with
 | nil=>simp at hf
 | cons x t =>
  rw [sV.go];have e:∀ A C:OP,(yc .eql (.nil .sl) (encI (x::t)) .zi fun v1=>yN v1 A C)=C:=fun A C=>nr rfl;rw [e];exact H.zoh (new:=(x::t).map I) (c:=(x::t).length) (fun e h1 n1 H1=>zv1 1) (by simp) (List.all_eq_true.2 fun v hv=>by obtain ⟨z,_,rfl⟩:=List.mem_map.1 hv;rfl) (by decide) (by omega) hK
def zb9 (L:List Ob) (p:AV×Sym):Prop:=∃ rid cap,p.1=.sl rid 0 p.2.1.length cap 1/\pK p.2.1.length cap/\Ob.arr rid (p.2.1.map I)∈L
theorem zb9.mono {L L':List Ob} {p:AV×Sym} (h:zb9 L p) (hl:∀ x∈L,x∈L'):zb9 L' p:=by
 obtain ⟨r,c,e,hc,m⟩:=h;exact ⟨r,c,e,hc,hl _ m⟩
theorem zqz {h0 h:T Blk} {nx:Pa} {L:List Ob} {id:Pa} {l:List Int} {cap:Option Nat} (H:Hp h0 h nx L) (hm:Ob.arr id (l.map I)∈L) (hc:pK l.length cap):Frz False (fun _=>True) (fun _=>False) h (.sl id 0 l.length cap 1) (encI l):=by
 obtain ⟨op,t,h1,h2⟩:=H.own _ hm;rw [Zam] at h1 h2;refine .sl _ _ _ _ _ op _ t _ trivial hc h1 (by omega) (by simp) (List.all_eq_true.2 fun v hv=>by obtain ⟨z,_,rfl⟩:=List.mem_map.1 hv;rfl) fun i v hi => ?_;have hil:i<l.length:=by have:=(List.getElem?_eq_some_iff.1 hi).1;simpa using this
 have:=yC t 0 l.length i hil;rw [h2,hi] at this;rw [<- Option.some.inj this];obtain ⟨z,_,rfl⟩:=List.mem_map.1 (Zaa hi);exact .int _ _
theorem ztw {h0 h:T Blk} {nx:Pa} {L:List Ob} {k n:Nat} {o:Option Pa} {out:List (AV×Sym)} (H:Hp h0 h nx L) (hk:L[k]? = some (.gro o 2 n (yV out))) (hr:∀ p∈out,zb9 L p):Frz False (fun _=>True) (fun _=>False) h (ql o 2 n) (jq (out.map (·.2))):=by
 have own:=H.own _ (Zaa hk);have hlen:=qC out;cases o with
 | none =>
  obtain ⟨e,rfl⟩:=own;rw [e] at hlen;obtain rfl:out=[]:=Zax (by simp at hlen;omega);exact .zbe 2
 | some id =>
  obtain ⟨t,h1,h2,h3⟩:=own;have hn:n=(out.map (·.2)).length:=by rw [Zam];omega
  subst hn;refine .sl _ _ _ _ _ true _ t _ trivial trivial h1 (by omega) (uT _) (List.all_eq_true.2 fun v hv=>fJ.ji (zb6 v hv)) fun i v hi => ?_;have hil:i<(out.map (·.2)).length*2:=by have:=(List.getElem?_eq_some_iff.1 hi).1;rwa [uT] at this
  have:=yC t 0 ((out.map (·.2)).length*2) i hil;rw [h3,wK] at this;rw [mH,List.getElem?_map] at hi;cases hq:out[i / 2]? with
  | none=>rw [hq] at hi;cases hi
  | some p =>
   rw [hq] at hi this;obtain ⟨rid,cap,e,hc,hm⟩:=hr p (Zaa hq);have hi:=Option.some.inj hi;have this:=Option.some.inj this;by_cases c:i%2=0
   ·simp only [if_pos c] at hi this;rw [<- this,<- hi,e];exact zqz H hm hc
   ·simp only [if_neg c] at hi this;rw [<- this,<- hi];exact .bool _
theorem zli {N:Pa->Prop} {O:AV->Prop} {A:Prop} {hh:T Blk} {a b a' b':AV} (h1:Frz A N O hh a a') (h2:Frz A N O hh b b'):Frz A N O hh (.tup [a,b]) (.tup [a',b']):=by
 refine .tup _ _ rfl fun i v v' hi hi' => ?_
 match i with
 | 0=>simp at hi hi';subst hi;subst hi';exact h1
 | 1=>simp at hi hi';subst hi;subst hi';exact h2
 | i+2=>simp at hi
theorem zkz {G S:List Sym} {n:Int} (hG:G.length<=100000) (hw:∀ g∈G,g.1.length<=100000) (hS:S.length<=100000) (hw2:∀ g∈S,g.1.length<=100000) (hse0:subE G S n=0) (hn0:0<n):zjb Tryz.prog 39 [jq G,jq S,I n] (.tup [jq (cosL G S),I 0]):=by
 intro B K hK0;have hK:∀ v h' nx' L v',Hp .e h' nx' L->Frz False (fun _=>True) (fun _=>False) h' v v'->v'=.tup [jq (cosL G S),I 0]->K v h' nx'=.ok True:=fun v h' nx' L v' _ hF e=>hK0 _ _ _ (e ▸ hF);refine zR zV yw 10000000 fun hf' => ?_;have H0:Hp .e .e .z []:=Hp.init hf';rw [F39.go,F39.t37,zA,F39.qw];refine H0.box (l:=[jq S]) rfl fun b3 h1 nx1 H1 => ?_;rw [F39.t36,zA,F39.t7,zA,F39.qx,H1.load (k:=0) (i:=0) rfl rfl];refine mM hG hw hS hw2 H1 (fun e h2 nx2 X he hne H2 => ?_) fun n' u1 q1 u2 q2 g o1 o2 h2 nx2 X hn ok1 ok2 hse _ _ _ _ _ _ _ _ hsub H2 => ?_
 ·rw [jE,jH,gD];refine H2.alloc fun b6 h3 nx3 H3 => ?_;refine H3.jr (k:=0) (n:=2) rfl rfl rfl fun h4 H4 => ?_;rw [hse0] at he;exact absurd he hne
 subst hn;have oP:=ok1.n256;have H2:Hp .e h2 nx2 [.arr b3 [jq S]]:=Hp.pre (_::_::_::X) H2;rw [jE,jH,gD];refine H2.alloc fun b6 h3 nx3 H3 => ?_;refine H3.jr (k:=0) (n:=2) rfl rfl rfl fun h4 H4 => ?_;rw [F39.t6,zA,F39.bC,xw,decide_eq_true rfl,Zag,F39.t5,zG,F39.v12,zE,zM,F39.t35,zA,F39.rV];refine H4.fO fun gm h5 nx5 H5 => ?_;refine H5.alloc fun b7 h6 nx6 H6 => ?_;refine H6.store (k:=0) rfl (by simp) rfl fun h7 H7 => ?_;rw [F39.t34,zA,F39.rE];refine H7.alloc fun b8 h8 nx8 H8 => ?_;rw [F39.t33,zA,F39.t30,zA,F39.rC];refine zel _ _ _ _ ?_;rintro _ rfl _;rw [F39.t29,zT,F39.t28];have H9:=H8.aC 2;have T:∃ T:List Ob,T=[.arr b6 [ql o1 2 u1.length,ql o2 2 u2.length],.arr b3 [jq S]]:=⟨_,rfl⟩;obtain ⟨T,hT⟩:=T;have hout:∀ i,((G.take i).filter (jQ S)).length<=G.length:=fun i=>by
  have:=List.length_filter_le (jQ S) (G.take i);rw [Zbc] at this;omega
 refine zr5 H9 F39.zt8 (fun v w k=>F39.zt9 k) (by omega)
  (fun i L'=>∃ (o:Option Pa) (out:List (AV×Sym)) (rows:List Ob),out.map (·.2)=(G.take i).filter (jQ S)/\(∀ p∈out,zb9 rows p)/\L'=.gro o 2 out.length (yV out)::.arr b8 [ql o 2 out.length]::.arr b7 [.map gm]::.map gm (qo (oZ ((G.take i).filter (jQ S)) S))::(T++rows))
  (fun _=>False) (fun _ _=>False) ⟨none,[],[],by simp,by simp,by subst hT;rfl⟩
  (fun i x Rb Rb' h10 nx10 L' M E O1 O2 hx hJ H10 hM hE hR hX => ?_) (fun h10 nx10 L' hJ H10 => ?_) (fun _ _ _ hX _=>hX.elim) (fun _ _ _ _ hX _=>hX.elim)
 case refine_2 =>
  obtain ⟨o,out,rows,ho,hr,rfl⟩:=hJ;rw [Zat (Zaf _)] at H10 ho;rw [F39.t32,zA,F39.ze0,H10.load (k:=1) (i:=0) rfl rfl];simp only [zN,yA];rw [F39.ret];refine hK _ _ _ _ (.tup [jq (cosL G S),I 0]) H10 (zli ?_ (.int _ _)) rfl;have:=ztw (k:=0) H10 rfl fun p hp=>(hr p hp).mono fun x hx=>by simp [hx]
  rw [ho] at this;exact this
 obtain ⟨o,out,rows,ho,hr,rfl⟩:=hJ;have hol:out.length=((G.take i).filter (jQ S)).length:=by rw [<- ho,Zam]
 have hxm:=Zaa hx;have hdx:=ok1.dp x hxm;have htake:G.take (i+1)=G.take i++[x]:=by rw [Zaw,hx];rfl
 have hCm:∀ m∈(G.take i).filter (jQ S),m∈G:=fun m hm=>List.mem_of_mem_take (List.mem_filter.1 hm).1;have hks:∀ b∈oZ ((G.take i).filter (jQ S)) S,DS n' b:=fun b hb=>by
  obtain ⟨m,hm,c,hc,rfl⟩:=oQ.1 hb;exact (ok1.dp _ (ok1.cl m (hCm m hm) c (hsub c hc))).1
 rw [F39.zad];refine H10.alloc fun b9 h11 nx11 H11 => ?_;refine H11.jr (k:=0) (n:=2) rfl rfl rfl fun h12 H12 => ?_;refine hM _ _ _ [_] H12 fun h13 H13 => ?_;rw [F39.t27,zT,F39.t26,zA,F39.t14,zA,F39.zah,H13.load (k:=4) (i:=0) rfl rfl,H13.zh (k:=0) (n:=2) rfl rfl];refine zbw (a:=x) oP hdx.1 hks H13 (k:=5) rfl ?_;rw [F39.t13,zG,F39.v16];have zr7:=zij ok1 ok2 hsub hx;by_cases c:x∈oZ ((G.take i).filter (jQ S)) S
 ·rw [decide_eq_true c,zD,yW,j3];have hfl:(G.take (i+1)).filter (jQ S)=(G.take i).filter (jQ S):=by
   rw [htake,List.filter_append,List.filter_cons_of_neg (by rw [zr7.1 c];decide)];simp
  exact hE _ _ _ [_] _ ⟨o,out,rows,by rw [hfl];exact ho,hr,by rw [hfl]⟩ H13
 have hlx:jQ S x=true:=by
  cases q:jQ S x with
  | true=>rfl
  | false=>exact absurd (zr7.2 q) c
 have hfl:(G.take (i+1)).filter (jQ S)=(G.take i).filter (jQ S)++[x]:=by
  rw [htake,List.filter_append,List.filter_cons_of_pos hlx];rfl
 rw [decide_eq_false c,zE,zM,F39.t25,zA,F39.t23,zA,F39.rW];subst hT;rw [H13.load (k:=7) (i:=0) rfl rfl];refine zel _ _ _ _ ?_;rintro _ rfl _;rw [F39.t22,zT,F39.t21]
 refine zr5 H13 F39.zt5 (fun v w k=>F39.zt6 k) (by omega)
  (fun k L'=>L'=.arr b9 [encI x.1,.bool x.2]::Rb'::.gro o 2 out.length (yV out)::.arr b8 [ql o 2 out.length]::.arr b7 [.map gm]::.map gm (qo (oZ ((G.take i).filter (jQ S)) S++(S.take k).map (zQ x)))::([.arr b6 [ql o1 2 u1.length,ql o2 2 u2.length],.arr b3 [jq S]]++rows))
  (fun _=>False) (fun _ _=>False) (by simp)
  (fun k y Sb Sb' h14 nx14 L' M' E' O1' O2' hy hJ H14 hM' hE' hR' hX' => ?_) (fun h14 nx14 L' hJ H14 => ?_) (fun _ _ _ hX _=>hX.elim) (fun _ _ _ _ hX _=>hX.elim)
 ·subst hJ;have hym:=Zaa hy;have hdy:=ok2.dp y hym;have htk:S.take (k+1)=S.take k++[y]:=by rw [Zaw,hy];rfl
  have hxy:DS n' (zQ x y):=(ok1.dp _ (ok1.cl x hxm y (hsub y hym))).1;rw [F39.fM];refine H14.alloc fun b10 h15 nx15 H15 => ?_;refine H15.jr (k:=0) (n:=2) rfl rfl rfl fun h16 H16 => ?_;refine hM' _ _ _ [_] H16 fun h17 H17 => ?_;rw [F39.t20,zT,F39.t19,zA,F39.rU,H17.zh (k:=2) (n:=2) rfl rfl,H17.zh (k:=0) (n:=2) rfl rfl];refine xY (a:=x) (b:=y) (fun z hz=>by rw [hdx.1.1];exact hdy.1.2 z hz) (by rw [hdy.1.1];omega) _ _ _ _ ?_;rintro _ rfl _;refine H17.alloc fun b11 h18 nx18 H18 => ?_;refine H18.jr (k:=0) (n:=2) rfl rfl rfl fun h19 H19 => ?_;rw [F39.zae,H19.load (k:=7) (i:=0) rfl rfl,H19.zh (k:=0) (n:=2) rfl rfl,H19.zh (k:=0) (n:=2) rfl rfl];refine zbv (a:=zQ x y) (fun z hz=>by have:=hxy.2 z hz;omega) (by rw [hxy.1];omega) _ _ _ _ ?_;rintro _ rfl _;rw [H19.zh (k:=0) (n:=2) rfl rfl,zB,H19.load (k:=7) (i:=0) rfl rfl,zB];refine H19.putS (a:=zQ x y) oP hxy (fun b hb => ?_) (fun hin => ?_) (k:=8) rfl fun h20 H20 => ?_
  ·rcases List.mem_append.1 hb with q | q
   ·exact hks b q
   ·obtain ⟨z,hz,rfl⟩:=List.mem_map.1 q;exact (ok1.dp _ (ok1.cl x hxm z (hsub z (List.mem_of_mem_take hz)))).1
  ·rcases List.mem_append.1 hin with q | q
   ·exact zlf ok1 ok2 hCm hxm hym c q
   ·obtain ⟨z,hz,e⟩:=List.mem_map.1 q;have:=zlg ok2 hdx (List.mem_of_mem_take hz) hym e;subst this;obtain ⟨j,hj⟩:=List.getElem?_of_mem hz;have hjl:=(List.getElem?_eq_some_iff.1 hj).1;rw [Zbc] at hjl;rw [List.getElem?_take_of_lt (by omega)] at hj;have:=zii ok2 hj hy (by omega);rw [qP] at this;cases this
  ·refine hE' _ _ _ [_,_] _ ?_ H20;rw [htk,Zbg,<- Zbk]
   rfl
 ·subst hJ;rw [Zat (Zaf _)] at H14;rw [F39.zt7,H14.load (k:=3) (i:=0) rfl rfl,sFx,H14.load (k:=0) (i:=0+0) rfl rfl,sFx,H14.load (k:=0) (i:=0+1) rfl rfl];refine zlh (f:=x.1) (by rw [hdx.1.1];omega) (by rw [hdx.1.1];omega) H14 fun rid cap h15 nx15 hcap H15 => ?_;rw [H15.load (k:=1) (i:=0+1) rfl rfl,zB,sFx,zB,H15.load (k:=4) (i:=0) rfl rfl,zB,vB rfl rfl];refine H15.yg (l:=[.sl rid 0 x.1.length cap 1,.bool x.2]) rfl fun tb h16 nx16 H16 => ?_;rw [H16.load (k:=5) (i:=0) rfl rfl,zB,aN];refine H16.appN (k:=4) (o:=o) (c:=1) (esz:=2) (new:=[.sl rid 0 x.1.length cap 1,.bool x.2]) rfl (jh.rd (l:=[.sl rid 0 x.1.length cap 1,.bool x.2]) (n:=1) (e:=2) (H16.own _ (Zai ..)) rfl) rfl rfl (by decide) (by decide) (by have:=hout i;omega) fun o'' h17 nx17 _ H17 => ?_;refine H17.store (k:=5) rfl (by simp) (kA _ _ _) fun h18 H18 => ?_;have hp:Hp .e h18 nx17 ([.arr tb [.sl rid 0 x.1.length cap 1,.bool x.2],.arr b9 [encI x.1,.bool x.2]]++Rb'::(.gro o'' 2 (out.length+1) (yV out++[.sl rid 0 x.1.length cap 1,.bool x.2])::.arr b8 [ql o'' 2 (out.length+1)]::.arr b7 [.map gm]::.map gm (qo (oZ ((G.take i).filter (jQ S)) S++S.map (zQ x)))::([.arr b6 [ql o1 2 u1.length,ql o2 2 u2.length],.arr b3 [jq S]]++(.arr rid (x.1.map I)::rows)))):=by
   refine H18.perm ?_;show List.Perm (_::_::_::_::_::_::_::_::_::_::rows) (_::_::_::_::_::_::_::_::_::_::rows);exact .cons _ (Zbo (l₁:=[_,_,_,_,_,_,_,_]) (a:=Ob.arr rid (x.1.map I)) (l₂:=rows)).symm
  refine hE _ _ _ [_,_] _ ⟨o'',out++[(.sl rid 0 x.1.length cap 1,x)],.arr rid (x.1.map I)::rows,?_,?_,?_⟩ hp
  ·rw [Zbg,ho,hfl];rfl
  ·intro p hp;rcases List.mem_append.1 hp with q | q
   ·exact (hr p q).mono fun z hz=>Zal _ hz
   ·obtain rfl:=List.mem_singleton.1 q;exact ⟨rid,cap,rfl,hcap,Zai ..⟩
  ·rw [hfl];have e1:oZ ((G.take i).filter (jQ S)++[x]) S=oZ ((G.take i).filter (jQ S)) S++S.map (zQ x):=by simp [oZ]
   have e2:yV (out++[(.sl rid 0 x.1.length cap 1,x)])=yV out++[.sl rid 0 x.1.length cap 1,.bool x.2]:=by unfold yV;rw [List.flatMap_append];rfl
   rw [e1,e2,Zao]
   subst_vars
   rfl
end Go.Ev
namespace Go.Ev
theorem zc8 {α:Type} [DecidableEq α]:∀ (l r:List α),l.Nodup->(∀ x∈l,x∈r)->∃ s,r.Perm (l++s)
 | [],r,_,_=>⟨r,.refl _⟩
 | a::l,r,hn,hs=>by
  obtain ⟨h1,h2⟩:=List.nodup_cons.1 hn;have ha:=hs a (by simp);obtain ⟨s,hp⟩:=zc8 l (r.erase a) h2 fun x hx=>(List.mem_erase_of_ne (by rintro rfl;exact h1 hx)).2 (hs x (by simp [hx]));exact ⟨s,(List.perm_cons_erase ha).trans (.cons a hp)⟩
theorem zgr {α:Type} [DecidableEq α] {l r:List α} (h1:l.Nodup) (h2:∀ x∈l,x∈r) (h3:r.length<=l.length):r.Perm l:=by
 obtain ⟨s,hs⟩:=zc8 l r h1 h2;have hl:=hs.length_eq;obtain rfl:s=[]:=Zax (by rw [Zao] at hl;omega);simpa using hs
theorem zc9 {α:Type} {l:List α} (h:l.Nodup) {i j:Nat} {x:α} (hi:l[i]? = some x) (hj:l[j]? = some x):i=j:=by
 obtain ⟨a1,a2⟩:=List.getElem?_eq_some_iff.1 hi;obtain ⟨b1,b2⟩:=List.getElem?_eq_some_iff.1 hj;have hp:=List.pairwise_iff_getElem.1 h;rcases Nat.lt_trichotomy i j with c | c | c
 ·exact absurd (a2.trans b2.symm) (hp i j a1 b1 c)
 ·exact c
 ·exact absurd (b2.trans a2.symm) (hp j i b1 a1 c)
theorem getD_some {l:List Int} {i:Nat} (h:i<l.length):l[i]? = some (l.getD i 0):=by
 rw [Zac,List.getElem?_eq_getElem h];rfl
theorem vg.surj {g:List Int} (h:vg g) {j:Nat} (hj:j<g.length):∃ i,i<g.length/\g[i]? = some (j:Int):=by
 have hp:((List.range g.length).map fun (i:Nat)=>(i:Int)).Perm g:=zgr h.1 (fun x hx=>by
  have:=h.2 x hx;exact List.mem_map.2 ⟨x.toNat,List.mem_range.2 (by omega),by omega⟩) (by simp)
 have hm:(j:Int)∈g:=hp.mem_iff.1 (List.mem_map.2 ⟨j,List.mem_range.2 hj,rfl⟩);obtain ⟨i,hi⟩:=List.mem_iff_getElem?.1 hm;exact ⟨i,(List.getElem?_eq_some_iff.1 hi).1,hi⟩
theorem zca {n:Nat} {c:Bool} {g f:List Int} (hg:vg g) (hgn:g.length=n):∀ (i k:Nat),i<=n->k<i->(j6 n c g f i)[(g.getD k 0).toNat]? = some (xOf n c (f.getD k 0))
 | 0,k,_,h=>by omega
 | i+1,k,hi,h=>by
  rw [gE];have hk:=hg.2 _ (Zaa (getD_some (l:=g) (i:=k) (by omega)));have hi':=hg.2 _ (Zaa (getD_some (l:=g) (i:=i) (by omega)));by_cases e:k=i
  ·subst e;rw [List.getElem?_set,if_pos rfl,if_pos (by rw [yR];omega)]
  ·rw [List.getElem?_set_ne,zca hg hgn i k (by omega) (by omega)];intro q;have e1:g.getD i 0=g.getD k 0:=by omega
   have:=zc9 hg.1 (getD_some (l:=g) (i:=i) (by omega)) (e1 ▸ getD_some (l:=g) (i:=k) (by omega));omega
theorem zik {c:Bool} {g f:List Int} (hg:vg g) (hgn:g.length=f.length) {k:Nat} (h:k<f.length):(jL c g f)[(g.getD k 0).toNat]? = some (xOf f.length c (f.getD k 0)):=zca hg hgn _ k (Zaf _) h
theorem vT (c:Bool) (g f:List Int):(jL c g f).length=f.length:=yR _ _ _ _ _
theorem DP.surj {n:Nat} {a:Sym} (ha:DP n a) {j:Nat} (hj:j<n):∃ i,i<n/\a.1.getD i 0=(j:Int):=by
 have h1:=ha.1.1;obtain ⟨i,hi,e⟩:=ha.perm.surj (show j<a.1.length by omega);exact ⟨i,by omega,by rw [Zac,e];rfl⟩
def idL (n:Nat):List Int:=(List.range n).map fun j:Nat=>(j:Int)
theorem vL (n:Nat):(idL n).length=n:=by simp [idL]
theorem zes {n i:Nat} (h:i<n):(idL n).getD i 0=(i:Int):=by
 rw [idL,Zac,List.getElem?_map,List.getElem?_range h];rfl
def invS (a:Sym):Sym:=(jL false a.1 (idL a.1.length),a.2)
theorem zjv {n:Nat} {a:Sym} (ha:DP n a) {k:Nat} (hk:k<n):(invS a).1[(a.1.getD k 0).toNat]? = some (k:Int):=by
 have h1:=ha.1.1;have:=zik (c:=false) ha.perm (f:=idL a.1.length) (by rw [vL]) (k:=k) (by rw [vL];omega);rw [zes (by omega)] at this;exact this
theorem xL {n:Nat} {a:Sym} (ha:DP n a):DP n (invS a):=by
 have h1:=ha.1.1;have hl:(invS a).1.length=n:=by show (jL _ _ _).length=n;rw [vT,vL,h1]
 have hv:∀ j,j<n->∃ i,i<n/\a.1.getD i 0=(j:Int)/\(invS a).1[j]? = some (i:Int):=fun j hj=>by
  obtain ⟨i,hi,e⟩:=ha.surj hj;have:=zjv ha hi;rw [e,Int.toNat_natCast] at this;exact ⟨i,hi,e,this⟩
 refine ⟨⟨hl,fun x hx => ?_⟩,?_⟩
 ·obtain ⟨j,hj⟩:=List.getElem?_of_mem hx;obtain ⟨i,hi,_,e⟩:=hv j (by rw [<- hl];exact (List.getElem?_eq_some_iff.1 hj).1);rw [hj] at e;cases e;omega
 ·rw [List.Nodup,Zbf];intro i j hi hj hij e;obtain ⟨a1,_,b1,c1⟩:=hv i (by omega);obtain ⟨a2,_,b2,c2⟩:=hv j (by omega);rw [List.getElem?_eq_getElem hi] at c1;rw [List.getElem?_eq_getElem hj] at c2;have e1:=Option.some.inj c1;have e2:=Option.some.inj c2;have:a1=a2:=by omega
  subst this;rw [b1] at b2;omega
theorem zjw {n:Nat} {a:Sym} (ha:DP n a):zQ (invS a) a=idS n:=by
 refine Prod.ext (vP (n:=n) (by show (uW _ _).length=n;rw [gO,ha.1.1]) (by simp [idS]) fun i hi => ?_) (by show (a.2 != a.2)=false;cases a.2 <;> rfl);rw [uV ha.1 hi,Zac (l:=(invS a).1),zjv ha hi];show some (i:Int)=((List.range n).map fun j:Nat=>(j:Int))[i]?;rw [List.getElem?_map,List.getElem?_range hi];rfl
theorem zos {n:Nat} {a:Sym} (ha:DP n a):zQ a (invS a)=idS n:=by
 have L:=j4 n;have hb:=xL ha;have hc:=xL hb;have e1:=zjw ha;have e2:=zjw hb;have:a=invS (invS a):=by
  have q:=L.assoc (invS (invS a)) (invS a) a hc hb ha;rw [e2,e1,L.el a ha,L.er _ hc] at q;exact q
 rw [show zQ a (invS a)=zQ (invS (invS a)) (invS a) by rw [<- this]];exact e2
theorem zgs {n:Nat} {a b:Sym} (ha:DP n a) (hb:DP n b) (h:zQ a b=idS n):b=invS a:=by
 have L:=j4 n;have hi:=xL ha;have q:=L.assoc (invS a) a b hi ha hb;rw [zjw ha,h,L.el b hb,L.er _ hi] at q;exact q
def conj (a b:Sym):Sym:=zQ (zQ a b) (invS a)
theorem zot {n:Nat} {a b c:Sym} (ha:DP n a) (hb:DP n b) (hc:DP n c):conj a (zQ b c)=zQ (conj a b) (conj a c):=by
 have L:=j4 n;have hi:=xL ha;have hab:=L.dm a b ha hb;have hac:=L.dm a c ha hc;have hci:=L.dm _ _ hac hi;unfold conj;rw [L.assoc (zQ a b) (invS a) (zQ (zQ a c) (invS a)) hab hi hci,<- L.assoc (invS a) (zQ a c) (invS a) hi hac hi,<- L.assoc (invS a) a c hi ha hc,zjw ha,L.el c hc,<- L.assoc (zQ a b) c (invS a) hab hc hi,L.assoc a b c ha hb hc]
theorem zlj {n:Nat} {a b c:Sym} (ha:DP n a) (hb:DP n b) (hc:DP n c):conj (zQ a b) c=conj a (conj b c):=by
 have L:=j4 n;have hia:=xL ha;have hib:=xL hb;have hab:=L.dm a b ha hb;have e:invS (zQ a b)=zQ (invS b) (invS a):=by
  refine (zgs hab (L.dm _ _ hib hia) ?_).symm;rw [L.assoc a b _ ha hb (L.dm _ _ hib hia),<- L.assoc b (invS b) (invS a) hb hib hia,zos hb,L.el _ hia,zos ha]
 have hbc:=L.dm b c hb hc;unfold conj;rw [e,L.assoc a b c ha hb hc,<- L.assoc (zQ a (zQ b c)) (invS b) (invS a) (L.dm _ _ ha hbc) hib hia,L.assoc a (zQ b c) (invS b) ha hbc hib]
theorem zq0 {n:Nat} {a b:Sym} (ha:DP n a) (hb:DP n b):DP n (conj a b):=(j4 n).dm _ _ ((j4 n).dm _ _ ha hb) (xL ha)
def zji (G S:List Sym):Bool:=G.all fun a=>S.all fun b=>decide (conj a b∈S)
theorem zlk {G S u1 q1 u2 q2:List Sym} {n:Nat} (hG:fQ G n) (hS:fQ S n) (hu1:∀ c∈u1,c∈G) (h1:CloS n u1 q1) (hq1:∀ a,a∈q1↔a∈G) (hu2:∀ c∈u2,c∈S) (h2:CloS n u2 q2) (hq2:∀ a,a∈q2↔a∈S) :
  (u1.all fun a=>u2.all fun b=>decide (conj a b∈S))=zji G S:=by
 rw [Bool.eq_iff_iff];simp only [zji,Zaj,decide_eq_true_eq];have L:=j4 n;constructor
 ·intro h;have k1:∀ a∈u1,∀ b∈S,conj a b∈S:=fun a ha b hb=>by
   have da:=hG.dp a (hu1 a ha)
   have:=h2.ind (fun b=>DP n b/\conj a b∈S) ⟨L.de,by unfold conj;rw [L.er a da,zos da];exact hS.one⟩ (fun x hx c hc=>by
    have dc:=hS.dp c (hu2 c hc);exact ⟨L.dm _ _ dc hx.1,by rw [zot da dc hx.1];exact hS.cl _ (h a ha c hc) _ hx.2⟩) b ((hq2 b).2 hb)
   exact this.2
  intro a ha
  have:=h1.ind (fun a=>DP n a/\∀ b∈S,conj a b∈S) ⟨L.de,fun b hb=>by
   have e:invS (idS n)=idS n:=(zgs L.de L.de (L.el _ L.de)).symm;unfold conj
   rw [e,L.er _ (L.dm _ _ L.de (hS.dp b hb)),L.el b (hS.dp b hb)];exact hb⟩ (fun x hx c hc=>by
    have dc:=hG.dp c (hu1 c hc);exact ⟨L.dm _ _ dc hx.1,fun b hb=>by rw [zlj dc hx.1 (hS.dp b hb)];exact k1 c hc _ (hx.2 b hb)⟩) a ((hq1 a).2 ha)
  exact this.2
 ·intro h a ha b hb;exact h a (hu1 a ha) b (hu2 b hb)
end Go.Ev
namespace Go.Ev
open Go Go.Proofs
variable {B:Nat}
set_option maxRecDepth 100000
theorem zou {a:Sym} {n:Nat} (ha:DP n a) (hn:n<=1000):Pure Tryz.prog B 124 [encS a] (· = encS (invS a)):=by
 have hl:=ha.1.1;refine yD fun h nx K H0 hK=>zR zV yw 10000 fun hf' => ?_;rw [yt.go,yt.t20,zA,yt.qw];refine H0.box (l:=[encI a.1,.bool a.2]) rfl fun b1 h1 nx1 H1 => ?_;refine H1.alloc fun b2 h2 nx2 H2 => ?_;have ld0:∀ {hh nn L'} (HH:Hp h hh nn (L'++[.arr b2 [.zi,.bool false],.arr b1 [encI a.1,.bool a.2]])) (op:AV->OP),zF (.ptr b1 (0+0)) hh op=op (encI a.1):=fun {hh nn L'} HH op=>HH.load (k:=L'.length+1) (i:=0) (l:=[encI a.1,.bool a.2]) (by rw [List.getElem?_append_right (by omega)];simp) rfl;have ld1:∀ {hh nn L'} (HH:Hp h hh nn (L'++[.arr b2 [.zi,.bool false],.arr b1 [encI a.1,.bool a.2]])) (op:AV->OP),zF (.ptr b1 (0+1)) hh op=op (.bool a.2):=fun {hh nn L'} HH op=>HH.load (k:=L'.length+1) (i:=1) (l:=[encI a.1,.bool a.2]) (by rw [List.getElem?_append_right (by omega)];simp) rfl;have mk:mkSl 8 (I (a.1.length:Int)) (I (a.1.length:Int))=true:=by
  show (Nat.ble a.1.length a.1.length&&Nat.ble a.1.length 1000000&&Nat.ble (8*a.1.length) 281474976710656)=true;rw [Zab (Zaf _),Zab (by omega),Zab (by omega)];rfl
 rw [yt.t19,zA,yt.qx];simp only [Bool.and_self,gF,sFx];rw [ld0 (L':=[]) H2,zK,mk];simp only [Bool.and_self,gF];rw [ld1 (L':=[]) H2];refine H2.mk1 a.1.length rfl rfl (by omega) (by decide) fun tb h3 nx3 H3 => ?_;rw [ld1 (L':=[_]) H3];simp only [zB,zK];rw [ld0 (L':=[_]) H3]
 try simp only [zB]
 rw [vB rfl rfl];refine H3.alloc fun b3 h4 nx4 H4 => ?_;rw [vB rfl rfl]
 try simp only [zB]
 rw [ld1 (L':=[_,_]) H4]
 try simp only [zB,zK]
 rw [ld0 (L':=[_,_]) H4]
 try simp only [zB]
 refine H4.jr (k:=0) (n:=2) rfl rfl rfl fun h5 H5 => ?_;rw [yt.t18,zA,yt.t15,zA,yt.bC,sFx,ld0 (L':=[_,_]) H5,zK];have e0:List.replicate a.1.length (I 0)=(j6 a.1.length false a.1 (idL a.1.length) 0).map I:=by simp [j6]
 rw [e0] at H5;rw [yt.t14,zT]
 refine yt.zug (fun m x8 h' nx'=>∃ i:Nat,x8=I i/\m=a.1.length-i/\i<=a.1.length/\Hp h h' nx' [.arr b3 [.sl tb 0 a.1.length (some a.1.length) 1,.bool a.2],.arr tb ((j6 a.1.length false a.1 (idL a.1.length) i).map I),.arr b2 [.zi,.bool false],.arr b1 [encI a.1,.bool a.2]]) (m:=a.1.length) (by omega)
  ⟨0,rfl,by omega,by omega,H5⟩ ?_
 rintro m z4 z5 z8 z9 h6 nx6 R ⟨i,rfl,rfl,hi,H6⟩ hR;rw [yt.t12,zA,yt.fV,vk];by_cases hlt:i<a.1.length
 case neg =>
  rw [decide_eq_false (by omega),yt.t11,zA,yt.t4,zG,yt.v9,zE,yW,j3,yt.t17,zA,yt.fM,H6.zh (k:=0) (n:=2) rfl rfl];refine H6.jr (k:=2) (n:=2) rfl rfl rfl fun h7 H7 => ?_;simp only [zN,yA];rw [yt.ret,H7.zh (k:=2) (n:=2) rfl rfl];obtain rfl:i=a.1.length:=by omega
  have hal:=yR a.1.length false a.1 (idL a.1.length) a.1.length;have e:invS a=(j6 a.1.length false a.1 (idL a.1.length) a.1.length,a.2):=by
   unfold invS jL;rw [vL]
  refine hK _ _ _ _ (encS (invS a)) H7 (xP ?_ (zJ rfl) rfl) rfl;rw [e];have:=H7.eU (k:=1) (e:=1) (n:=a.1.length) (cap:=some a.1.length) rfl (Zaf _) (by simp [hal]) zjm;show sN h h7 _ (AV.lst 1 (j6 _ _ _ _ _).length _);rw [hal];exact this
 rw [decide_eq_true (by omega),yt.t11,zA,yt.t4,zG,yt.v9,zD,zM];have hx:a.1[i]? = some a.1[i]:=List.getElem?_eq_getElem hlt;have hgb:=ha.perm.2 _ (Zaq hlt);have hgd:a.1.getD i 0=a.1[i]:=by rw [Zac,hx];rfl
 rw [yt.t10,zA,yt.t8,zT,yt.t7,zA,yt.t5_s,bZ rfl hlt,ldL (fG hx),yt.sO,sFx,H6.load (k:=0) (i:=0+0) rfl rfl,sIx (i:=(a.1[i]).toNat) (by omega) (by omega)];refine H6.store (k:=1) rfl (by rw [Zam,yR];omega) rfl fun h7 H7 => ?_;rw [yt.rE,vw (by omega)];refine hR _ _ _ _ _ _ _ (by omega) ⟨i+1,rfl,rfl,by omega,H7.cast ?_⟩;rw [gE,hgd,zes hlt];simp [Zcd,xOf]
theorem ztx {l:List Int} (hp:vg l) (hn:l.length<=1000):Pure Tryz.prog B 141 [encI l] (· = encI (jL false l (idL l.length))):=by
 refine yD fun h nx K H0 hK=>zR zV yw 10000 fun hf' => ?_;rw [yu.go,yu.t18,zA,yu.qw,yu.t17,zA,yu.qx,zK];refine H0.mk1 l.length rfl rfl (by omega) (by decide) fun tb h1 nx1 H1 => ?_;have e0:List.replicate l.length (I 0)=(j6 l.length false l (idL l.length) 0).map I:=by simp [j6]
 rw [e0] at H1;rw [yu.t16,zA,yu.t13,zA,yu.bC,yu.t12,zT]
 refine yu.zuh (fun m x3 h' nx'=>∃ i:Nat,x3=I i/\m=l.length-i/\i<=l.length/\Hp h h' nx' [.arr tb ((j6 l.length false l (idL l.length) i).map I)]) (m:=l.length) (by omega)
  ⟨0,rfl,by omega,by omega,H1⟩ ?_
 rintro m z3 z4 h6 nx6 R ⟨i,rfl,rfl,hi,H6⟩ hR;rw [yu.t10,zA,yu.t5,zA,yu.fV,zK,vk];by_cases hlt:i<l.length
 case neg =>
  rw [decide_eq_false (by omega),yu.t4,zG,yu.v4,zE,yW,j3,yu.t15,zA,yu.aS];simp only [zN,yA];rw [yu.ret];obtain rfl:i=l.length:=by omega
  have hal:=yR l.length false l (idL l.length) l.length;refine hK _ _ _ _ _ H6 (H6.eU (k:=0) (e:=1) rfl (Zaf _) (by simp [hal]) zjm) ?_;show _=AV.lst 1 _ _;rw [jL,vL,hal]
 rw [decide_eq_true (by omega),yu.t4,zG,yu.v4,zD,zM];have hx:l[i]? = some l[i]:=List.getElem?_eq_getElem hlt;have hgb:=hp.2 _ (Zaq hlt);have hgd:l.getD i 0=l[i]:=by rw [Zac,hx];rfl
 rw [yu.t9,zA,yu.t7,zT,yu.sO,bZ rfl hlt,ldL (fG hx),sIx (i:=(l[i]).toNat) (by omega) (by omega)];refine H6.store (k:=0) rfl (by rw [Zam,yR];omega) rfl fun h7 H7 => ?_;rw [yu.rV,vw (by omega)];refine hR _ _ _ _ _ (by omega) ⟨i+1,rfl,rfl,by omega,H7.cast ?_⟩;rw [gE,hgd,zes hlt];simp [Zcd,xOf]
theorem zwi {a:Sym} (hp:vg a.1) (hn:a.1.length<=1000):Pure Tryz.prog B 63 [encS a] (· = encS (invS a)):=by
 refine yD fun h nx K H0 hK=>zR zV yw 10000 fun hf' => ?_;rw [F63.go,F63.t3,zA,F63.qw];refine H0.box (l:=[encI a.1,.bool a.2]) rfl fun b1 h1 nx1 H1 => ?_;refine H1.alloc fun b2 h2 nx2 H2 => ?_;rw [F63.t2,zA,F63.qx,sFx,H2.load (k:=1) (i:=0+0) rfl rfl,sFx,H2.load (k:=1) (i:=0+1) rfl rfl]
 (refine ztx hp hn _ _ _ _ ?_;rintro _ rfl _)
 rw [H2.load (k:=1) (i:=0+1) rfl rfl,zB,sFx,zB,vB rfl rfl];refine H2.jr (k:=0) (n:=2) rfl rfl rfl fun h3 H3 => ?_;simp only [zN,yA];rw [F63.ret,H3.zh (k:=0) (n:=2) rfl rfl];exact hK _ _ _ _ (encS (invS a)) H3 (zb0 (invS a)) rfl
def nrmV (G S:List Sym) (n:Int):AV:=if subE G S n≠0 then .tup [.bool false,I (subE G S n)] else .tup [.bool (zji G S),I 0]
theorem dH {α:Type} {l:List α} {p:α->Bool} {i:Nat} {x:α} (hx:l[i]? = some x) (h:(l.take i).all p=true) (hp:p x=true):(l.take (i+1)).all p=true:=by
 rw [Zaw,hx,List.all_append,h];simp [hp]
theorem pP {α:Type} {l:List α} {p:α->Bool} (h:(l.take l.length).all p=true):l.all p=true:=by rwa [Zat (Zaf _)] at h
theorem zh4 {G S:List Sym} {n:Int} (hG:G.length<=100000) (hw:∀ g∈G,g.1.length<=100000) (hS:S.length<=100000) (hw2:∀ g∈S,g.1.length<=100000):Pure Tryz.prog B 40 [jq G,jq S,I n] (· = nrmV G S n):=by
 refine yD fun h nx K H0 hK=>zR zV yw 10000000 fun hf' => ?_;rw [F40.go,F40.t43,zA,F40.qw,F40.t42,zA,F40.qx];refine mM hG hw hS hw2 H0 (fun e h2 nx2 X he hne H2 => ?_) fun n' u1 q1 u2 q2 g o1 o2 h2 nx2 X hn ok1 ok2 hse hu1 hul1 hC1 hq1 hu2 hul2 hC2 hq2 hsub H2 => ?_
 ·rw [jE,jH,gD];refine H2.alloc fun b6 h3 nx3 H3 => ?_;refine H3.jr (k:=0) (n:=2) rfl rfl rfl fun h4 H4 => ?_;rw [F40.t41,zA,F40.t6,zA,F40.bC,xw,decide_eq_false hne,Zah,F40.t5,zG,F40.v10,zD,F40.t4,zA,F40.fV];simp only [zN,yA];rw [F40.ret];exact hK _ _ _ _ _ H4 (jI (zJ rfl) (zJ rfl)) (by rw [nrmV,<- he,if_pos hne])
 subst hn;have oP:=ok1.n256;have hgen:=zlk ok1 ok2 hu1 hC1 hq1 hu2 hC2 hq2;rw [jE,jH,gD];refine H2.alloc fun b6 h3 nx3 H3 => ?_;refine H3.jr (k:=0) (n:=2) rfl rfl rfl fun h4 H4 => ?_;rw [F40.t41,zA,F40.t6,zA,F40.bC,xw,decide_eq_true rfl,Zag,F40.t5,zG,F40.v10,zE,zM,F40.t40,zA,F40.t37,zA,F40.t7_s,sAx0,H4.load (k:=0) (i:=0) rfl rfl,H4.oV (k:=3) rfl];have hd2:∀ b∈q2,DS n' b:=fun b hb=>(ok2.dp b ((hq2 b).1 hb)).1;have no:∀ {h' nx' L'},Hp h h' nx' L'->(∃ a∈u1,∃ b∈u2,conj a b∉S)->K (.tup [.bool false,I 0]) h' nx'=.ok True:=fun H' ⟨a,ha,b,hb,hc⟩=>by
  refine hK _ _ _ _ _ H' (jI (zJ rfl) (zJ rfl)) ?_;rw [nrmV,hse,if_neg (by decide),<- hgen]
  congr 3
  refine (Bool.eq_false_iff.2 fun q => ?_).symm;have:=List.all_eq_true.1 (List.all_eq_true.1 q a ha) b hb;exact hc (of_decide_eq_true this)
 rw [F40.t36,zT]
 refine F40.zue (fun m x13 h' nx'=>∃ i:Nat,x13=I i/\m=u1.length-i/\i<=u1.length/\(u1.take i).all (fun a=>u2.all fun b=>decide (conj a b∈S))=true/\Hp h h' nx' (.arr b6 [ql o1 2 u1.length,ql o2 2 u2.length]::.map g (qo q2)::.gro o2 2 u2.length (yQ u2)::.gro o1 2 u1.length (yQ u1)::(X++[]))) (m:=u1.length) (by omega)
  ⟨0,rfl,by omega,by omega,by simp,H4⟩ ?_
 rintro m z3 z4 z8 z9 z13 z14 z15 z16 z17 z18 z19 h6 nx6 R ⟨i,rfl,rfl,hi,hal,H6⟩ hR;rw [F40.t34,zA,F40.rV,vk];by_cases hlt:i<u1.length
 case neg =>
  rw [decide_eq_false (by omega),F40.t33,zA,F40.t9,zG,F40.v14,zE,yW,j3,F40.t39,zA,F40.zuf];simp only [zN,yA];rw [F40.ret];obtain rfl:i=u1.length:=by omega
  exact hK _ _ _ _ _ H6 (jI (zJ rfl) (zJ rfl)) (by rw [nrmV,hse,if_neg (by decide),<- hgen,pP hal])
 rw [decide_eq_true (by omega),F40.t33,zA,F40.t9,zG,F40.v14,zD,zM,F40.t32,zA,F40.t30,zT,F40.t29,zA,F40.rC];have hx:u1[i]? = some u1[i]:=List.getElem?_eq_getElem hlt;have hxm:=Zaa hx;have hdx:=ok1.dp _ (hu1 _ hxm);obtain ⟨iu,ou,e1,e2⟩:=zic (k:=3) H6 rfl hx;rw [e1,e2];refine H6.alloc fun b8 h7 nx7 H7 => ?_;refine H7.jr (k:=0) (n:=2) rfl rfl rfl fun h8 H8 => ?_;rw [F40.t28,zA,F40.zad,sAx1,H8.load (k:=1) (i:=0+1) rfl rfl,H8.oV (k:=3) rfl,F40.t27,zT]
 refine F40.zua (fun m x17 h' nx'=>∃ k:Nat,x17=I k/\m=u2.length-k/\k<=u2.length/\(u2.take k).all (fun b=>decide (conj u1[i] b∈S))=true/\Hp h h' nx' (.arr b8 [encI u1[i].1,.bool u1[i].2]::.arr b6 [ql o1 2 u1.length,ql o2 2 u2.length]::.map g (qo q2)::.gro o2 2 u2.length (yQ u2)::.gro o1 2 u1.length (yQ u1)::(X++[]))) (m:=u2.length) (by omega)
  ⟨0,rfl,by omega,by omega,by simp,H8⟩ ?_
 rintro m y3 y4 y9 y17 y18 y19 h9 nx9 R' ⟨k,rfl,rfl,hk,hal2,H9⟩ hR';rw [F40.t25,zA,F40.zah,vk];by_cases hlt2:k<u2.length
 case neg =>
  rw [decide_eq_false (by omega),F40.t24,zA,F40.t13,zG,F40.v18,zE,yW,j3,F40.ze0,vw (by omega)];obtain rfl:k=u2.length:=by omega
  exact hR _ _ _ _ _ _ _ _ _ _ _ _ _ _ (by omega) ⟨i+1,rfl,rfl,by omega,dH hx hal (pP hal2),H9.drop⟩
 rw [decide_eq_true (by omega),F40.t24,zA,F40.t13,zG,F40.v18,zD,zM,F40.t23,zA,F40.t21,zT,F40.t20,zA,F40.aS];have hy:u2[k]? = some u2[k]:=List.getElem?_eq_getElem hlt2;have hym:=Zaa hy;have hdy:=ok2.dp _ (hu2 _ hym);obtain ⟨iv,ov,e3,e4⟩:=zic (k:=3) H9 rfl hy;rw [e3,e4];refine H9.alloc fun b9 h10 nx10 H10 => ?_;refine H10.jr (k:=0) (n:=2) rfl rfl rfl fun h11 H11 => ?_;rw [F40.t19,zA,F40.rW,H11.zh (k:=1) (n:=2) rfl rfl,H11.zh (k:=0) (n:=2) rfl rfl,H11.zh (k:=1) (n:=2) rfl rfl];refine xY (a:=u1[i]) (b:=u2[k]) (fun z hz=>by rw [hdx.1.1];exact hdy.1.2 z hz) (by rw [hdy.1.1];omega) _ _ _ _ ?_;rintro _ rfl _;rw [H11.zh (k:=1) (n:=2) rfl rfl,zB,zB];refine zou (a:=u1[i]) hdx (by omega) _ _ _ _ ?_;rintro _ rfl _;have hdi:=xL hdx;have hdxy:=(j4 n').dm _ _ hdx hdy;rw [zB];refine xY (a:=zQ u1[i] u2[k]) (b:=invS u1[i]) (fun z hz=>by rw [hdxy.1.1];exact hdi.1.2 z hz) (by rw [hdi.1.1];omega) _ _ _ _ ?_;rintro _ rfl _;rw [zB];have hdc:DP n' (conj u1[i] u2[k]):=zq0 hdx hdy;refine zbw (a:=conj u1[i] u2[k]) oP hdc.1 hd2 H11 (k:=3) rfl ?_;rw [jB,F40.t18,zG,F40.v19];by_cases c:conj u1[i] u2[k]∈q2
 ·rw [decide_eq_true c,Zag,zE,zM,F40.ze1,vw (by omega)];exact hR' _ _ _ _ _ _ _ _ _ (by omega) ⟨k+1,rfl,rfl,by omega,dH hy hal2 (decide_eq_true ((hq2 _).1 c)),H11.drop⟩
 ·rw [decide_eq_false c,Zah,zD,F40.t17,zA,F40.fM];simp only [zN,xV,yA];rw [F40.ret];exact no H11 ⟨_,hxm,_,hym,fun q=>c ((hq2 _).2 q)⟩
end Go.Ev
namespace Go.Ev
abbrev AscS (l:List Sym):Prop:=l.Pairwise fun a b=>rP a b=true
theorem AscS.nd {l:List Sym} (h:AscS l):l.Nodup:=h.imp fun hab e=>by rw [e,qP] at hab;cases hab
theorem zf1:∀ {a b:List Sym},AscS a->AscS b->(∀ x,x∈a↔x∈b)->a=b
 | [],[],_,_,_=>rfl
 | [],y::b,_,_,h=>by have:=(h y).2 (by simp);cases this
 | x::a,[],_,_,h=>by have:=(h x).1 (by simp);cases this
 | x::a,y::b,ha,hb,h=>by
  have ha':=List.pairwise_cons.1 ha;have hb':=List.pairwise_cons.1 hb;have e:x=y:=by
   have h1:=(h x).1 (by simp);have h2:=(h y).2 (by simp);rcases List.mem_cons.1 h1 with q | q
   ·exact q
   ·rcases List.mem_cons.1 h2 with r | r
    ·exact r.symm
    ·have h3:=hb'.1 x q;have h4:=ha'.1 y r;rw [zb7 h3] at h4;cases h4
  subst e
  congr 1
  refine zf1 ha'.2 hb'.2 fun z => ?_;have hz:=h z;simp only [Zae] at hz;constructor
  ·intro q;rcases hz.1 (.inr q) with rfl | r
   ·have:=ha'.1 z q;rw [qP] at this;cases this
   ·exact r
  ·intro q;rcases hz.2 (.inr q) with rfl | r
   ·have:=hb'.1 z q;rw [qP] at this;cases this
   ·exact r
end Go.Ev
namespace Go.Ev
open Go Go.Proofs
theorem zov {a b:Sym} (h:a≠b) (h2:bT a b<=0):rP a b=true:=by
 rw [wF] at h2;unfold rP;by_cases c:a.1=b.1
 ·rw [if_pos c] at h2 ⊢;have:a.2≠b.2:=fun q=>h (Prod.ext c q)
  revert h2 this;cases a.2 <;> cases b.2 <;> simp
 ·rw [if_neg c] at h2 ⊢;rw [wH];have:=p7 c;exact decide_eq_true (by omega)
theorem zh3 {s:List Sym} (hn:s.Nodup) (h:s.Pairwise fun a b=>bT a b<=0):AscS s:=(List.pairwise_and_iff.2 ⟨hn,h⟩).imp fun ⟨h1,h2⟩=>zov h1 h2
end Go.Ev
namespace Go.Ev
open Go Go.Proofs
variable {B:Nat}
set_option maxRecDepth 100000
theorem zq1 {P:Program} {f:Nat} {p:Pa} {args args':List AV} {h:T Blk} {nx:Pa} {K:Kw Prop} (hv:∀ (E:Env) (vs:List Value),VRL E args vs->VRL E args' vs) (hk:(CS P B).fn f p args' h nx K=.ok True):(CS P B).fn f p args h nx K=.ok True:=by
 rw [rY] at hk ⊢;exact ⟨fun E w vs H hv'=>hk.1 E w vs H (hv _ _ hv'),rfl⟩
theorem zq2 {E:Env} {e:Nat} {vv:Value} (h:VR E .zi vv):VR E (.lst e 0 []) vv:=by
 simp only [VR] at h ⊢;exact ⟨rfl,by simp,none,0,h,.inl (by simp)⟩
def LG (v:AV) (l:List Sym):Prop:=(v=.zi/\l=[])\/(v=jq l/\l≠[])
theorem LG.len {v:AV} {l:List Sym} (h:LG v l) {op:AV->OP}:sLen v op=op (I l.length):=by
 rcases h with ⟨rfl,rfl⟩ | ⟨rfl,_⟩
 ·exact y2
 ·exact zK ..
theorem LG.frz {v:AV} {l:List Sym} (h:LG v l) {N:Pa->Prop} {O:AV->Prop} {hh:T Blk}:Frz True N O hh v (jq l):=by
 rcases h with ⟨rfl,rfl⟩ | ⟨rfl,_⟩
 ·exact .zbe 2
 ·exact zJ (zc4 _)
theorem LG.call {P:Program} {f:Nat} {p:Pa} {v:AV} {rest:List AV} {l:List Sym} (h:LG v l) {hh:T Blk} {nx:Pa} {K:Kw Prop} (hk:(CS P B).fn f p (jq l::rest) hh nx K=.ok True):(CS P B).fn f p (v::rest) hh nx K=.ok True:=by
 rcases h with ⟨rfl,rfl⟩ | ⟨rfl,_⟩
 ·refine zq1 (fun E vs hv => ?_) hk;simp only [VRL] at hv ⊢;obtain ⟨a,m,q,r,s⟩:=hv;exact ⟨a,m,q,zq2 r,s⟩
 ·exact hk
end Go.Ev
namespace Go.Ev
open Go.Proofs (uy xI qU qB uJ)
abbrev AscT (l:List (List Int)):Prop:=l.Pairwise fun a b=>gU a b=true
end Go.Ev
namespace Go.Ev
open Go Go.Proofs
variable {B:Nat}
set_option maxRecDepth 100000
def Kept (s r:List (List Int)) (j:Nat):Prop:=AscT r/\(∀ x,x∈r↔x∈s.take j)/\1<=r.length/\r.length<=j/\r.getLast? = s[j-1]?
theorem Kept.same {s r:List (List Int)} {j:Nat} (hj:1<=j) (h:Kept s r j) (hl:j<s.length) (e:s[j]=s[j-1]):Kept s r (j+1):=by
 obtain ⟨h1,h2,h3,h4,h5⟩:=h;have hp:s[j-1]? = some s[j-1]:=List.getElem?_eq_getElem (by omega);refine ⟨h1,fun x => ?_,h3,by omega,?_⟩
 ·rw [h2,Zaw,List.getElem?_eq_getElem hl,Zan];constructor
  ·exact .inl
  ·rintro (q | q)
   ·exact q
   ·have:x=s[j-1]:=by rw [<- e];simpa using q
    rw [this];exact Zaa (i:=j-1) (by rw [List.getElem?_take_of_lt (by omega)];exact hp)
 ·rw [h5,hp,Nat.add_sub_cancel,List.getElem?_eq_getElem hl,e]
theorem Kept.new {s r:List (List Int)} {j:Nat} (hj:1<=j) (h:Kept s r j) (hs:s.Pairwise fun a b=>uy a b<=0) (hl:j<s.length) (e:s[j]≠s[j-1]):Kept s (r++[s[j]]) (j+1):=by
 obtain ⟨h1,h2,h3,h4,h5⟩:=h;have hlt:∀ x∈s.take j,gU x s[j]=true:=fun x hx=>by
  have hpw:=List.pairwise_iff_getElem.1 hs;obtain ⟨i,hi⟩:=List.getElem?_of_mem hx;have hil:=(List.getElem?_eq_some_iff.1 hi).1;rw [Zbc] at hil;rw [List.getElem?_take_of_lt (by omega),List.getElem?_eq_getElem (by omega)] at hi;obtain rfl:=Option.some.inj hi;have a1:=hpw i j (by omega) hl (by omega);have a2:=hpw (j-1) j (by omega) hl (by omega);have a3:uy s[j-1] s[j]≠0:=fun q=>e (qU q).symm;rw [wH];by_cases q:i=j-1
  ·subst q;exact decide_eq_true (by omega)
  ·have a4:=hpw i (j-1) (by omega) (by omega) (by omega);by_cases z:uy s[i] s[j-1]=0
   ·rw [qU z];exact decide_eq_true (by omega)
   ·exact decide_eq_true (uJ (b:=s[j-1]) (by omega) (by omega))
 refine ⟨List.pairwise_append.2 ⟨h1,by simp,fun x hx y hy => ?_⟩,fun x => ?_,by simp,by simp;omega,?_⟩
 ·rw [List.mem_singleton.1 hy];exact hlt x ((h2 x).1 hx)
 ·rw [Zan,h2,Zaw,List.getElem?_eq_getElem hl,Zan];simp
 ·rw [Nat.add_sub_cancel,List.getElem?_eq_getElem hl];simp
theorem qZ {a b c:List Int} (h1:uy a b<=0) (h2:uy b c<=0):uy a c<=0:=by
 by_cases z1:uy a b=0
 ·rw [qU z1];exact h2
 ·by_cases z2:uy b c=0
  ·rw [<- qU z2];exact h1
  ·have:=uJ (a:=a) (b:=b) (c:=c) (by omega) (by omega);omega
def LT (v:AV) (l:List (List Int)):Prop:=(v=.zi/\l=[])\/(v=encT l/\l≠[])
theorem LT.len {v:AV} {l:List (List Int)} (h:LT v l) {op:AV->OP}:sLen v op=op (I l.length):=by
 rcases h with ⟨rfl,rfl⟩ | ⟨rfl,_⟩
 ·exact y2
 ·exact zK ..
theorem LT.frz {v:AV} {l:List (List Int)} (h:LT v l) {N:Pa->Prop} {O:AV->Prop} {hh:T Blk}:Frz True N O hh v (encT l):=by
 rcases h with ⟨rfl,rfl⟩ | ⟨rfl,_⟩
 ·exact .zbe 1
 ·exact zJ (zkk _)
theorem zty (q:List (List Int)):(q.map encI).all ji=true:=List.all_eq_true.2 fun v hv=>by obtain ⟨a,_,rfl⟩:=List.mem_map.1 hv;exact fJ.ji (uU a)
end Go.Ev
namespace Go.Ev
open Go.Proofs
section
variable {G S:List Sym} {n:Nat}
end
end Go.Ev
namespace Go.Ev
section
variable {G:List Sym} {n:Nat}
end
end Go.Ev
namespace Go.Ev
open Go Go.Proofs
variable {B:Nat}
set_option maxRecDepth 100000
def dD (R:List (Pa×List Int)):List AV:=R.map fun p=>.sl p.1 0 p.2.length none 1
def objR (R:List (Pa×List Int)):List Ob:=R.map fun p=>.gro (some p.1) 1 p.2.length (p.2.map I)
theorem Hp.zq3 {R:List (Pa×List Int)} {o:Option Pa} {h0 h:T Blk} {nx:Pa} {L:List Ob} {k:Nat} (H:Hp h0 h nx L) (hk:L[k]? = some (.gro o 1 R.length (dD R))) (hR:∀ x∈objR R,x∈L):sN h0 h (ql o 1 R.length) (encT (R.map (·.2))):=by
 have own:=H.own _ (Zaa hk);have hoff:=H.off;have hlen:(R.map (·.2)).length=R.length:=Zam _;cases o with
 | none =>
  obtain ⟨h1,h2⟩:=own;have:R=[]:=Zax (by omega);subst this;exact .zbe 1
 | some id =>
  obtain ⟨t,h1,h2,h3⟩:=own;show sN h0 h (ql (some id) 1 R.length) (.lst 1 (R.map (·.2)).length ((R.map (·.2)).map encI));rw [hlen];refine .sl _ _ _ _ _ true _ t _ (hoff id (List.mem_flatMap.2 ⟨_,Zaa hk,by simp [Ob.names]⟩)) trivial h1 (by omega) (by simp) (zty _) fun i v hi => ?_;rw [List.map_map,List.getElem?_map] at hi;cases hq:R[i]? with
  | none=>rw [hq] at hi;cases hi
  | some p =>
   rw [hq] at hi;have hi:=Option.some.inj hi;subst hi;have hil:=(List.getElem?_eq_some_iff.1 hq).1;have:=yC t 0 (R.length*1) i (by omega);rw [h3,dD,List.getElem?_map,hq] at this;rw [<- Option.some.inj this];obtain ⟨k',hk'⟩:=List.getElem?_of_mem (hR _ (List.mem_map.2 ⟨p,Zaa hq,rfl⟩));exact H.zec hk' fun v hv=>by obtain ⟨a,_,rfl⟩:=List.mem_map.1 hv;rfl
end Go.Ev
namespace Go.Ev
def bV (l:List Nat):Nat:=l.foldl Nat.lcm 1
theorem zda:∀ (l:List Nat) (a:Nat),a∣l.foldl Nat.lcm a
 | [],a=>Nat.dvd_refl a
 | x::l,a=>Nat.dvd_trans (Nat.dvd_lcm_left a x) (zda l _)
theorem zdb:∀ (l:List Nat) (a x:Nat),x∈l->x∣l.foldl Nat.lcm a
 | y::l,a,x,h=>by
  rcases List.mem_cons.1 h with rfl | h
  ·exact Nat.dvd_trans (Nat.dvd_lcm_right a x) (zda l _)
  ·exact zdb l _ x h
theorem zdc:∀ (l:List Nat) (a m:Nat),a∣m->(∀ x∈l,x∣m)->l.foldl Nat.lcm a∣m
 | [],a,m,h,_=>h
 | y::l,a,m,h,hl=>zdc l _ m (Nat.lcm_dvd h (hl y (by simp))) fun x hx=>hl x (by simp [hx])
theorem zgt {l:List Nat} {x:Nat} (h:x∈l):x∣bV l:=zdb l 1 x h
theorem zcb {l:List Nat} {m:Nat} (h:∀ x∈l,x∣m):bV l∣m:=zdc l 1 m (Nat.one_dvd m) h
theorem zdd:∀ (l:List Nat) (a:Nat),0<a->(∀ x∈l,0<x)->0<l.foldl Nat.lcm a
 | [],a,h,_=>h
 | y::l,a,h,hl=>zdd l _ (Nat.lcm_pos h (hl y (by simp))) fun x hx=>hl x (by simp [hx])
theorem zgu {l:List Nat} (h:∀ x∈l,0<x):0<bV l:=zdd l 1 (by decide) h
def o7 (p:Nat):Nat->Nat->Nat
 | 0,_=>0
 | f+1,x=>if x%p=0 then o7 p f (x / p)+1 else 0
theorem zcc {p:Nat}:∀ (f x:Nat),p ^ o7 p f x∣x
 | 0,x=>by rw [o7];exact Nat.one_dvd x
 | f+1,x=>by
  rw [o7];by_cases c:x%p=0
  ·rw [if_pos c,Nat.pow_succ];have h1:=Nat.mul_dvd_mul_right (zcc (p:=p) f (x / p)) p
   rwa [Nat.div_mul_cancel (Nat.dvd_of_mod_eq_zero c)] at h1
  ·rw [if_neg c];exact Nat.one_dvd x
def rst (p x:Nat):Nat:=x / p ^ o7 p 9 x
theorem zil (p x:Nat):p ^ o7 p 9 x*rst p x=x:=Nat.mul_div_cancel' (zcc 9 x)
def cst (x:Nat):Nat:=if x=1 then 0 else x
theorem zq4 {a b:Nat} (ha:0<a) (hb:0<b):cst a+cst b<=cst (a*b):=by
 unfold cst;by_cases c1:a=1
 ·subst c1;rw [if_pos rfl,Nat.one_mul,Zau];exact Zaf _
 by_cases c2:b=1
 ·subst c2;rw [if_pos rfl,Zcb,Nat.add_zero];exact Zaf _
 have h1:a*2<=a*b:=Nat.mul_le_mul_left a (by omega);have h2:2*b<=a*b:=Zbl b (by omega);rw [if_neg c1,if_neg c2,if_neg (by omega)];omega
def cstS (l:List Nat):Nat:=(l.map cst).sum
theorem zjx:∀ l:List Nat,cstS l<=l.sum
 | []=>Zaf _
 | x::l=>by
  have:=zjx l;have h:cst x<=x:=by unfold cst;split <;> omega
  simp only [cstS,List.map_cons,List.sum_cons] at *
  omega
theorem zde {p:Nat} (hp:0<p):∀ (l:List Nat),(∀ x∈l,0<x)->∃ A,(∀ x∈l,o7 p 9 x<=A)/\cst (p ^ A)+cstS (l.map (rst p))<=cstS l/\(A=0\/∃ x∈l,p ^ A<=x)/\A<=9
  | [],_=>⟨0,by simp,by simp [cstS,cst],.inl rfl,by omega⟩
  | x::l,h=>by
    obtain ⟨A,h1,h2,h3,h4⟩:=zde hp l fun y hy=>h y (by simp [hy]);have hx:=h x (by simp);have e:=zil p x;have hpp:0<p ^ o7 p 9 x:=Nat.pow_pos hp;have hr:0<rst p x:=Nat.pos_of_ne_zero fun q=>by rw [q] at e;omega
    have hc:=zq4 hpp hr;rw [e] at hc;have hle:p ^ o7 p 9 x<=x:=Nat.le_of_dvd hx (zcc 9 x);have he9:∀ (f y:Nat),o7 p f y<=f:=fun f=>by
      induction f with
      | zero=>intro y;exact Zaf _
      | succ f ih=>intro y;rw [o7];split
                   · have:=ih (y / p);omega
                   · omega
    have e1:cstS ((x::l).map (rst p))=cst (rst p x)+cstS (l.map (rst p)):=rfl;have e2:cstS (x::l)=cst x+cstS l:=rfl;by_cases c:o7 p 9 x<=A
    · refine ⟨A,fun y hy => ?_,by rw [e1,e2];omega,?_,h4⟩
      · rcases List.mem_cons.1 hy with rfl | hy
        · exact c
        · exact h1 y hy
      · rcases h3 with q | ⟨y,hy,q⟩
        · exact .inl q
        · exact .inr ⟨y,by simp [hy],q⟩
    · refine ⟨o7 p 9 x,fun y hy => ?_,by rw [e1,e2];omega,.inr ⟨x,by simp,hle⟩,he9 9 x⟩;rcases List.mem_cons.1 hy with rfl | hy
      · exact Zaf _
      · have:=h1 y hy;omega
def pows (p:Nat):List Nat:=((List.range 10).map (p ^ ·)).filter fun q=>decide (2<=q/\q<=256)
def qY (T:List Nat) (q:Nat):List Nat:=List.replicate q 0++T.map (q * ·)
def stepT (p:Nat) (T:List Nat):List Nat:=(pows p).foldl (fun acc q=>List.zipWith max acc (qY T q)) T
def tabT (P:List Nat):List Nat:=P.foldr stepT (List.replicate 257 1)
theorem zq5 {A B:List Nat} {s:Nat} (ha:s<A.length) (hb:s<B.length):(List.zipWith max A B).getD s 0=max (A.getD s 0) (B.getD s 0):=by
 simp [Zac,List.getElem?_zipWith,List.getElem?_eq_getElem ha,List.getElem?_eq_getElem hb]
theorem mG {T:List Nat} (hT:T.length=257) {s:Nat} (hs:s<257):∀ (Q acc:List Nat),acc.length=257->(Q.foldl (fun acc q=>List.zipWith max acc (qY T q)) acc).length=257/\acc.getD s 0<=(Q.foldl (fun acc q=>List.zipWith max acc (qY T q)) acc).getD s 0/\∀ q∈Q,q<=s->q*T.getD (s-q) 0<=(Q.foldl (fun acc q=>List.zipWith max acc (qY T q)) acc).getD s 0
 | [],acc,h=>⟨h,Zaf _,by simp⟩
 | q::Q,acc,h=>by
  have hl:(qY T q).length=q+257:=by simp [qY,hT]
  have h2:(List.zipWith max acc (qY T q)).length=257:=by rw [List.length_zipWith,h,hl];omega
  obtain ⟨g1,g2,g3⟩:=mG hT hs Q _ h2;rw [zq5 (by omega) (by omega)] at g2;refine ⟨g1,Zba (Nat.le_max_left _ _) g2,fun r hr hrs => ?_⟩;rcases List.mem_cons.1 hr with rfl | hr
  ·refine Zba ?_ (Zba (Nat.le_max_right _ _) g2);have e:(qY T r).getD s 0=r*T.getD (s-r) 0:=by
    rw [qY,Zac,List.getElem?_append_right (by simpa using hrs),List.length_replicate,List.getElem?_map,Zac,List.getElem?_eq_getElem (by omega)];rfl
   rw [e];exact Zaf _
  ·exact g3 r hr hrs
theorem mX:∀ P:List Nat,(tabT P).length=257
 | []=>List.length_replicate
 | p::P=>(mG (s:=0) (mX P) (by decide) (pows p) (tabT P) (mX P)).1
def zet:List Nat->Nat->Nat
 | [],x=>x
 | p::P,x=>zet P (rst p x)
theorem vK:∀ (P:List Nat),(∀ p∈P,2<=p)->∀ (l:List Nat) (s:Nat),s<257->(∀ x∈l,0<x/\x<=256)->(∀ x∈l,zet P x=1)->cstS l<=s->bV l<=(tabT P).getD s 0
 | [],_,l,s,hs,hl,h1,hc=>by
  have:bV l∣1:=zcb fun x hx=>by rw [show x=1 from h1 x hx];exact Nat.dvd_refl 1
  have e:(tabT []).getD s 0=1:=by
   show (List.replicate 257 1).getD s 0=1;rw [Zac,List.getElem?_replicate,if_pos hs];rfl
  rw [e];exact Nat.le_of_dvd (by decide) this
 | p::P,hP,l,s,hs,hl,h1,hc=>by
  have hp:=hP p (by simp);obtain ⟨A,a1,a2,a3,a4⟩:=zde (p:=p) (by omega) l fun x hx=>(hl x hx).1;have hpos:∀ y∈l.map (rst p),0<y/\y<=256:=fun y hy=>by
   obtain ⟨x,hx,rfl⟩:=List.mem_map.1 hy;obtain ⟨q1,q2⟩:=hl x hx;have e:=zil p x;refine ⟨Nat.pos_of_ne_zero fun q=>by rw [q] at e;omega,Zba (Nat.div_le_self _ _) q2⟩
  have hdvd:bV l∣p ^ A*bV (l.map (rst p)):=zcb fun x hx=>by
   have e:=zil p x;rw [<- e];exact Nat.mul_dvd_mul (Nat.pow_dvd_pow p (a1 x hx)) (zgt (List.mem_map.2 ⟨x,hx,rfl⟩))
  have hA:0<p ^ A:=Nat.pow_pos (by omega);have hle:bV l<=p ^ A*bV (l.map (rst p)):=Nat.le_of_dvd (Nat.mul_pos hA (zgu fun y hy=>(hpos y hy).1)) hdvd;have hstr:∀ y∈l.map (rst p),zet P y=1:=fun y hy=>by
   obtain ⟨x,hx,rfl⟩:=List.mem_map.1 hy;exact h1 x hx
  obtain ⟨_,g2,g3⟩:=mG (mX P) hs (pows p) (tabT P) (mX P);have ht:tabT (p::P)=(pows p).foldl (fun acc q=>List.zipWith max acc (qY (tabT P) q)) (tabT P):=rfl;rw [ht];rcases a3 with rfl | ⟨x,hx,hxA⟩
  ·have:=vK P (fun q hq=>hP q (by simp [hq])) (l.map (rst p)) s hs hpos hstr (by omega);rw [Nat.pow_zero,Nat.one_mul] at hle;omega
  ·have h256:=(hl x hx).2;by_cases c0:A=0
   ·subst c0;have:=vK P (fun q hq=>hP q (by simp [hq])) (l.map (rst p)) s hs hpos hstr (by omega);rw [Nat.pow_zero,Nat.one_mul] at hle;omega
   have h2A:2<=p ^ A:=Zba hp (by have:=Nat.pow_le_pow_right (n:=p) (by omega) (show 1<=A by omega);rwa [Nat.pow_one] at this);have ec:cst (p ^ A)=p ^ A:=if_neg (by omega);rw [ec] at a2;have hq:p ^ A∈pows p:=List.mem_filter.2 ⟨List.mem_map.2 ⟨A,List.mem_range.2 (by omega),rfl⟩,decide_eq_true ⟨h2A,by omega⟩⟩;have:=vK P (fun q hq=>hP q (by simp [hq])) (l.map (rst p)) (s-p ^ A) (by omega) hpos hstr (by omega);have h3:=g3 _ hq (by omega);exact Zba hle (Zba (Nat.mul_le_mul_left _ this) h3)
def zow:List Nat:=[2,3,5,7,11,13,17,19,23,29,31,37,41,43,47,53,59,61,67,71,73,79,83,89,97,101,103,107,109,113,127,131,137,139,149,151,157,163,167,173,179,181,191,193,197,199,211,223,227,229,233,239,241,251]
theorem zll:((List.range 257).all fun x=>x==0||zet zow x==1)=true:=by decide +kernel
theorem zlm:(tabT zow).getD 256 0<4611686018427387904:=by decide +kernel
theorem ztz {l:List Nat} (h:∀ x∈l,0<x) (hs:l.sum<=256):bV l<4611686018427387904:=by
 have hle:∀ (l:List Nat),∀ x∈l,x<=l.sum:=fun l=>by
  induction l with
  | nil=>simp
  | cons a l ih =>
   intro x hx;rw [List.sum_cons];rcases List.mem_cons.1 hx with rfl | hx
   ·omega
   ·have:=ih x hx;omega
 have h256:∀ x∈l,0<x/\x<=256:=fun x hx=>⟨h x hx,Zba (hle l x hx) hs⟩;refine Nat.lt_of_le_of_lt (vK zow (by decide) l 256 (by decide) h256 (fun x hx => ?_) (Zba (zjx l) hs)) zlm;have:=List.all_eq_true.1 zll x (List.mem_range.2 (by have:=(h256 x hx).2;omega));have h0:=h x hx;simp only [Zbz,beq_iff_eq] at this;rcases this with q | q
 ·omega
 ·exact q
abbrev nxt (p:List Int) (c:Nat):Nat:=(p.getD c 0).toNat
def orbF (p:List Int):Nat->Nat->List Nat->List Nat
 | 0,_,S=>S
 | f+1,c,S=>if c∈S then S else orbF p f (nxt p c) (S++[c])
def oh (p:List Int) (c:Nat) (S:List Nat):List Nat:=orbF p (p.length-S.length) c S
theorem zq6 {p:List Int} {c:Nat} {S:List Nat} (h:c∈S):∀ f,orbF p f c S=S
 | 0=>rfl
 | f+1=>by rw [orbF,if_pos h]
theorem m0 {p:List Int} {c:Nat} {S:List Nat} (h:c∈S):oh p c S=S:=zq6 h _
theorem p8 {p:List Int} {c:Nat} {S:List Nat} (h:c∉S) (hl:S.length<p.length):oh p c S=oh p (nxt p c) (S++[c]):=by
 obtain ⟨f,hf⟩:∃ f,p.length-S.length=f+1:=⟨p.length-S.length-1,by omega⟩;unfold oh;rw [hf,orbF,if_neg h,Zao,List.length_singleton,show p.length-(S.length+1)=f by omega]
theorem zgv {p:List Int}:∀ (f c:Nat) (S:List Nat),∃ T,orbF p f c S=S++T/\T.length<=f
 | 0,c,S=>⟨[],by simp [orbF],by simp⟩
 | f+1,c,S=>by
  rw [orbF];by_cases h:c∈S
  ·rw [if_pos h];exact ⟨[],by simp,by simp⟩
  ·rw [if_neg h];obtain ⟨T,h1,h2⟩:=zgv (p:=p) f (nxt p c) (S++[c]);exact ⟨c::T,by rw [h1];simp,by simp;omega⟩
theorem zox (p:List Int) (c:Nat) (S:List Nat):∃ T,oh p c S=S++T/\T.length<=p.length-S.length:=zgv _ c S
def stT (p:List Int) (s:List Nat×List (List Nat)) (i:Nat):List Nat×List (List Nat):=(oh p i s.1,if s.1.length<(oh p i s.1).length then s.2++[(oh p i s.1).drop s.1.length] else s.2)
def qp (p:List Int) (k:Nat):List Nat×List (List Nat):=(List.range k).foldl (stT p) ([],[])
theorem wL (p:List Int) (k:Nat):qp p (k+1)=stT p (qp p k) k:=by unfold qp;rw [List.range_succ,List.foldl_append];rfl
theorem pI (p:List Int):∀ k,(qp p k).1.length=((qp p k).2.map List.length).sum/\(qp p k).1.length<=p.length/\∀ T∈(qp p k).2,T≠[]
 | 0=>⟨rfl,Nat.zero_le _,by simp [qp]⟩
 | k+1=>by
  obtain ⟨h1,h2,h3⟩:=pI p k;rw [wL]
  generalize qp p k=s at *
  obtain ⟨T,e1,e2⟩:=zox p k s.1;unfold stT;simp only;rw [e1];by_cases c:s.1.length<(s.1++T).length
  ·rw [if_pos c,List.drop_left];have hT:T≠[]:=fun q=>by rw [q] at c;simp at c
   refine ⟨by rw [Zbg,List.sum_append,<- h1];simp,by rw [Zao];omega,fun U hU => ?_⟩;rcases List.mem_append.1 hU with q | q
   ·exact h3 U q
   ·rw [List.mem_singleton.1 q];exact hT
  ·have hT:T=[]:=Zax (by rw [Zao] at c;omega);rw [if_neg c,hT,Zcc];exact ⟨h1,h2,h3⟩
theorem pH (p:List Int):∀ k,(qp p k).2.length<=k
 | 0=>Zaf _
 | k+1=>by
  have:=pH p k;rw [wL];unfold stT;simp only;split
  ·simp;omega
  ·omega
def j8 (p:List Int):List Nat:=(qp p p.length).2.map List.length
theorem vJ {p:List Int}:∀ x∈j8 p,0<x:=fun x hx=>by
 obtain ⟨T,hT,rfl⟩:=List.mem_map.1 hx;exact List.length_pos_iff.2 ((pI p _).2.2 T hT)
theorem zdf (p:List Int):(j8 p).sum<=p.length:=by
 obtain ⟨h1,h2,_⟩:=pI p p.length;unfold j8;omega
def ordZ (p:List Int) (c:Bool):Nat:=if c=true/\bV (j8 p)%2=1 then 2*bV (j8 p) else bV (j8 p)
theorem lcm_div (a b:Nat):a / Nat.gcd a b*b=Nat.lcm a b:=by
 unfold Nat.lcm;rw [Nat.div_mul_right_comm (Nat.gcd_dvd_left a b)]
theorem zq7 (m:Nat):Nat.lcm m 2=if m%2=1 then 2*m else m:=by
 by_cases c:m%2=1
 ·rw [if_pos c,<- lcm_div];have:Nat.gcd m 2=1:=by
   rw [Nat.gcd_comm,Nat.gcd_rec,c];rfl
  rw [this,Nat.div_one,Nat.mul_comm]
 ·rw [if_neg c];exact Nat.dvd_antisymm (Nat.lcm_dvd (Nat.dvd_refl m) (Nat.dvd_of_mod_eq_zero (by omega))) (Nat.dvd_lcm_left m 2)
theorem zdg (l:List Nat) (x:Nat):bV (l++[x])=Nat.lcm (bV l) x:=by unfold bV;rw [List.foldl_append];rfl
def jW (p:List Int) (c:Bool):List Nat:=if c then j8 p++[2] else j8 p
theorem zjy (p:List Int) (c:Bool):bV (jW p c)=ordZ p c:=by
 unfold jW ordZ;cases c with
 | false=>rw [if_neg (by decide),if_neg (fun q=>by cases q.1)]
 | true =>
  rw [if_pos rfl,zdg,zq7];by_cases h:bV (j8 p)%2=1
  ·rw [if_pos h,if_pos ⟨rfl,h⟩]
  ·rw [if_neg h,if_neg fun q=>h q.2]
theorem zjz {p:List Int} (h:p.length<=256):bV (j8 p)<4611686018427387904:=ztz vJ (Zba (zdf p) h)
theorem zgw {l:List Nat} (hl:∀ x∈l,0<x) (i:Nat):bV (l.take i)<=bV l:=Nat.le_of_dvd (zgu hl) (zcb fun x hx=>zgt (List.mem_of_mem_take hx))
def itN (p:List Int):Nat->Nat->Nat
 | 0,c=>c
 | k+1,c=>nxt p (itN p k c)
theorem zj0 (p:List Int):∀ a b c,itN p (a+b) c=itN p a (itN p b c)
 | 0,b,c=>by rw [Zau];rfl
 | a+1,b,c=>by rw [Nat.succ_add];show nxt p (itN p (a+b) c)=nxt p (itN p a (itN p b c));rw [zj0 p a b c]
structure PN (p:List Int):Prop where
 lt:∀ i,i<p.length->nxt p i<p.length
 inj:∀ i j,i<p.length->j<p.length->nxt p i=nxt p j->i=j
theorem PN.itlt {p:List Int} (h:PN p):∀ k i,i<p.length->itN p k i<p.length
 | 0,_,hi=>hi
 | k+1,i,hi=>h.lt _ (h.itlt k i hi)
structure Cl (p:List Int) (S:List Nat):Prop where
 nd:S.Nodup
 lt:∀ x∈S,x<p.length
 cl:∀ x∈S,nxt p x∈S
theorem Cl.back {p:List Int} (h:PN p) {S:List Nat} (C:Cl p S) {x:Nat} (hx:x<p.length) (hn:nxt p x∈S):x∈S:=by
 have nd:(S.map (nxt p)).Nodup:=by
  rw [List.Nodup,Zbu];refine (List.Pairwise.and_mem.1 C.nd).imp ?_;rintro a b ⟨ha,hb,hab⟩ q;exact hab (h.inj a b (C.lt a ha) (C.lt b hb) q)
 have:=allG nd (fun y hy=>by obtain ⟨z,hz,rfl⟩:=List.mem_map.1 hy;exact C.cl z hz) (by simp) _ hn;obtain ⟨y,hy,e⟩:=List.mem_map.1 this;rw [<- h.inj y x (C.lt y hy) hx e];exact hy
theorem Cl.zr8 {p:List Int} (h:PN p) {S:List Nat} (C:Cl p S) {i:Nat} (hi:i<p.length):∀ k,itN p k i∈S->i∈S
 | 0,q=>q
 | k+1,q=>C.zr8 h hi k (C.back h (h.itlt k i hi) q)
abbrev tN (p:List Int) (i k:Nat):List Nat:=(List.range k).map fun j=>itN p j i
theorem zj1 (p:List Int) (i k:Nat):tN p i (k+1)=tN p i k++[itN p k i]:=by unfold tN;rw [List.range_succ,Zbg];rfl
theorem zoy {p:List Int} {i k a b:Nat} (h:(tN p i k).Nodup) (ha:a<k) (hb:b<k) (e:itN p a i=itN p b i):a=b:=by
 have:=List.pairwise_map.1 h;rcases Nat.lt_trichotomy a b with q | q | q
 ·have:=List.pairwise_iff_getElem.1 this a b (by simpa using ha) (by simpa using hb) q;simp at this;exact absurd e this
 ·exact q
 ·have:=List.pairwise_iff_getElem.1 this b a (by simpa using hb) (by simpa using ha) q;simp at this;exact absurd e.symm this
structure zdh (p:List Int) (r h:Nat):Prop where
 pos:0<r
 back:itN p r h=h
 min:∀ j,0<j->j<r->itN p j h≠h
theorem zeu {n:Nat} {l:List Nat} (hn:l.Nodup) (hl:∀ x∈l,x<n):l.length<=n:=by
 have:=lenG hn (r:=List.range n) fun x hx=>List.mem_range.2 (hl x hx);simpa using this
theorem zq8 {p:List Int} (h:PN p) {S:List Nat} (C:Cl p S) {i:Nat} (hi:i<p.length) (hS:i∉S):∀ (f k:Nat),f=p.length-(S.length+k)->(S++tN p i k).Nodup ->
  ∃ r,oh p (itN p k i) (S++tN p i k)=S++tN p i r/\(S++tN p i r).Nodup/\zdh p r i:=by
 intro f
 induction f with
 | zero =>
  intro k hf hn;have hall:∀ x∈S++tN p i k,x<p.length:=fun x hx=>by
   rcases List.mem_append.1 hx with q | q
   ·exact C.lt x q
   ·obtain ⟨j,_,rfl⟩:=List.mem_map.1 q;exact h.itlt j i hi
  exact zcd h C hi hS hn (Decidable.byContradiction fun q=>by
   have:=zeu (l:=(S++tN p i k)++[itN p k i]) (List.nodup_append.2 ⟨hn,by simp,by rintro a ha b hb rfl;rw [List.mem_singleton.1 hb] at ha;exact q ha⟩) (fun x hx=>by
    rcases List.mem_append.1 hx with q | q
    ·exact hall x q
    ·rw [List.mem_singleton.1 q];exact h.itlt k i hi)
   simp at this;omega)
 | succ f ih =>
  intro k hf hn;by_cases c:itN p k i∈S++tN p i k
  ·exact zcd h C hi hS hn c
  ·have hn2:(S++tN p i (k+1)).Nodup:=by
    rw [zj1,<- Zbk];exact List.nodup_append.2 ⟨hn,by simp,by rintro a ha b hb rfl;rw [List.mem_singleton.1 hb] at ha;exact c ha⟩
   rw [p8 c (by simp;omega),Zbk,<- zj1];exact ih (k+1) (by omega) hn2
where
 zcd {p:List Int} (h:PN p) {S:List Nat} (C:Cl p S) {i k:Nat} (hi:i<p.length) (hS:i∉S) (hn:(S++tN p i k).Nodup) (c:itN p k i∈S++tN p i k):∃ r,oh p (itN p k i) (S++tN p i k)=S++tN p i r/\(S++tN p i r).Nodup/\zdh p r i:=by
  rw [m0 c];have hk0:0<k:=Nat.pos_of_ne_zero fun q=>by
   subst q;have:i∈S:=by simpa [tN,itN] using c
   exact hS this
  have hnT:=(List.nodup_append.1 hn).2.1;rcases List.mem_append.1 c with q | q
  ·exact absurd (C.zr8 h hi k q) hS
  ·obtain ⟨j,hj,e⟩:=List.mem_map.1 q;have hj:=List.mem_range.1 hj;have e:itN p j i=itN p k i:=e;have hj0:j=0:=Decidable.byContradiction fun q=>by
    obtain ⟨j',rfl⟩:∃ j',j=j'+1:=⟨j-1,by omega⟩;obtain ⟨k',rfl⟩:∃ k',k=k'+1:=⟨k-1,by omega⟩;have:=h.inj _ _ (h.itlt j' i hi) (h.itlt k' i hi) e;have:=zoy hnT (by omega) (by omega) this;omega
   subst hj0;refine ⟨k,rfl,hn,hk0,e.symm,fun a ha hak q => ?_⟩;have:=zoy hnT hak hk0 (show itN p a i=itN p 0 i from q);omega
theorem zev {p:List Int} (h:PN p):∀ k,k<=p.length->Cl p (qp p k).1/\(∀ j,j<k->j∈(qp p k).1)/\(∀ x∈(qp p k).1,∃ T∈(qp p k).2,∃ b a,x=itN p a b/\zdh p T.length b/\b<p.length)/\∀ T∈(qp p k).2,∃ b,b<p.length/\zdh p T.length b
 | 0,_=>⟨⟨by simp [qp],by simp [qp],by simp [qp]⟩,fun j hj=>by omega,by simp [qp],by simp [qp]⟩
 | k+1,hk=>by
  obtain ⟨C,h1,h2,h3⟩:=zev h k (by omega);rw [wL]
  generalize qp p k=s at *
  unfold stT;simp only;by_cases c:k∈s.1
  ·rw [m0 c,if_neg (by omega)];refine ⟨C,fun j hj => ?_,h2,h3⟩;by_cases e:j=k
   ·rw [e];exact c
   ·exact h1 j (by omega)
  ·obtain ⟨r,e1,e2,e3⟩:=zq8 h C (show k<p.length by omega) c _ 0 rfl (by simpa [tN] using C.nd);have e1:oh p k s.1=s.1++tN p k r:=by simpa [tN,itN] using e1
   have hr:=e3.pos;have hlen:(tN p k r).length=r:=by simp
   rw [e1,if_pos (by simp;omega),List.drop_left];have zoz:∀ x∈tN p k r,∃ j,j<r/\x=itN p j k:=fun x hx=>by
    obtain ⟨j,hj,rfl⟩:=List.mem_map.1 hx;exact ⟨j,List.mem_range.1 hj,rfl⟩
   refine ⟨⟨e2,fun x hx => ?_,fun x hx => ?_⟩,fun j hj => ?_,fun x hx => ?_,fun T hT => ?_⟩
   ·rcases List.mem_append.1 hx with q | q
    ·exact C.lt x q
    ·obtain ⟨j,_,rfl⟩:=zoz x q;exact h.itlt j k (by omega)
   ·rcases List.mem_append.1 hx with q | q
    ·exact Zbm _ (C.cl x q)
    ·obtain ⟨j,hj,rfl⟩:=zoz x q;refine Zbw _ ?_;by_cases hj1:j+1<r
     ·exact List.mem_map.2 ⟨j+1,List.mem_range.2 hj1,rfl⟩
     ·have:itN p (j+1) k=k:=by rw [show j+1=r by omega];exact e3.back
      exact List.mem_map.2 ⟨0,List.mem_range.2 hr,this.symm⟩
   ·by_cases e:j=k
    ·rw [e];exact Zbw _ (List.mem_map.2 ⟨0,List.mem_range.2 hr,rfl⟩)
    ·exact Zbm _ (h1 j (by omega))
   ·rcases List.mem_append.1 hx with q | q
    ·obtain ⟨T,hT,b,a,q1,q2,q3⟩:=h2 x q;exact ⟨T,by simp [hT],b,a,q1,q2,q3⟩
    ·obtain ⟨j,hj,rfl⟩:=zoz x q;exact ⟨tN p k r,by simp,k,j,rfl,by rw [hlen];exact e3,by omega⟩
   ·rcases List.mem_append.1 hT with q | q
    ·exact h3 T q
    ·rw [List.mem_singleton.1 q,hlen];exact ⟨k,by omega,e3⟩
theorem zdh.mul {p:List Int} {r b:Nat} (c:zdh p r b):∀ q,itN p (q*r) b=b
 | 0=>by rw [Nat.zero_mul];rfl
 | q+1=>by rw [Nat.succ_mul,zj0,c.back,c.mul q]
end Go.Ev
namespace Go.Ev
open Go Go.Proofs
variable {B:Nat}
set_option maxRecDepth 100000
theorem zwj {a b:Int} {K:AV->OP} (h0:b≠0) (h : -9223372036854775808<=a.tdiv b/\a.tdiv b<=9223372036854775807):yc .quo .int (I a) (I b) K=K (I (a.tdiv b)):=by
 have e:yc .quo .int (I a) (I b) K=(bif ieq b 0 then Out.no 5 else xu (IntKind.wrap .i64 (a.tdiv b)) fun z=>K (.int .i64 z)):=rfl;rw [e,xN];have hb:(b==0)=false:=by simpa using h0
 rw [hb,cond_false,wW];have hw:IntKind.wrap .i64 (a.tdiv b)=a.tdiv b:=by simpa [dU] using vA h
 rw [hw]
theorem zim {a b:Nat} {K:AV->OP} (hb:0<b):yc .rem .int (I (a:Int)) (I (b:Int)) K=K (I ((a%b:Nat):Int)):=by
 have e:yc .rem .int (I (a:Int)) (I (b:Int)) K=(bif ieq (b:Int) 0 then Out.no 5 else xu ((a:Int).tmod b) fun z=>K (.int .i64 z)):=rfl;have h0:ieq (b:Int) 0=false:=by rw [xN,beq_eq_false_iff_ne];omega
 rw [e,h0,cond_false,wW];rfl
theorem zo0 {a b:Nat} {K:AV->OP} (ha:a<=9223372036854775807) (hb:0<b):yc .quo .int (I (a:Int)) (I (b:Int)) K=K (I ((a / b:Nat):Int)):=by
 have h1:(a:Int).tdiv b=((a / b:Nat):Int):=by rw [Int.tdiv_eq_ediv_of_nonneg (by omega)];simp
 have h2:a / b<=a:=Nat.div_le_self a b;rw [zwj (by omega) (by rw [h1];generalize a / b=q at *;omega),h1]
theorem zr9 {a b:Int} {K:AV->OP}:sMin true (I a) [I b] K=K (I (max a b)):=by
 have e:sMin true (I a) [I b] K=K (.int .i64 (bif ilt a b then b else a)):=rfl;rw [e,xM]
 congr 2
 by_cases c:a<b
 ·simp only [c,decide_true,cond_true];omega
 ·simp only [c,decide_false,cond_false];omega
theorem zt0 {a b:Nat}:Pure Tryz.prog B 139 [I a,I b] (· = I (Nat.gcd a b)):=by
 refine yD fun h nx K H0 hK=>zR zV yw (b+1) fun hf' => ?_;rw [jc.go,jc.t12,zA,jc.qw,jc.t11,zA,jc.t8,zT];refine jc.t7_L (fun m x0 x1 h' nx'=>∃ a' b':Nat,x0=I a'/\x1=I b'/\b'=m/\Nat.gcd a' b'=Nat.gcd a b/\Hp h h' nx' []) (m:=b) (by omega) ⟨a,b,rfl,rfl,rfl,rfl,H0⟩ ?_;rintro m z0 z1 z3 h3 nx3 R ⟨a',b',rfl,rfl,rfl,hg,H3⟩ hR;rw [jc.t6,zA,jc.t3,zA,jc.qx,xw];by_cases c:b'=0
 ·subst c;rw [decide_eq_true (by omega),Zag,jc.t2,zG,jc.v3,zE,yW,j3,jc.t10,zA,jc.rE];simp only [zN,yA];rw [jc.ret];exact hK _ _ _ _ _ H3 (zJ rfl) (by rw [<- hg,Nat.gcd_zero_right])
 ·rw [decide_eq_false (by omega),Zah,jc.t2,zG,jc.v3,zD,zM,jc.t5,zT,jc.t4_s,zim (by omega)];exact hR (a'%b') _ _ _ _ _ (Nat.mod_lt _ (by omega)) ⟨b',a'%b',rfl,rfl,rfl,by rw [<- hg,Nat.gcd_comm a' b',Nat.gcd_rec b' a',Nat.gcd_comm],H3⟩
theorem zt1 {a b:Nat}:Pure Tryz.prog B 199 [I a,I b] (· = I (Nat.gcd a b)):=by
 refine yD fun h nx K H0 hK=>zR zV yw (b+1) fun hf' => ?_;rw [jd.go,jd.t12,zA,jd.qw,jd.t11,zA,jd.t8,zT];refine jd.t7_L (fun m x0 x1 h' nx'=>∃ a' b':Nat,x0=I a'/\x1=I b'/\b'=m/\Nat.gcd a' b'=Nat.gcd a b/\Hp h h' nx' []) (m:=b) (by omega) ⟨a,b,rfl,rfl,rfl,rfl,H0⟩ ?_;rintro m z0 z1 z3 h3 nx3 R ⟨a',b',rfl,rfl,rfl,hg,H3⟩ hR;rw [jd.t6,zA,jd.t3,zA,jd.qx,cZ];by_cases c:b'=0
 ·subst c;rw [decide_eq_false (by omega),jd.t2,zG,jd.v3,zE,yW,j3,jd.t10,zA,jd.rE];simp only [zN,yA];rw [jd.ret];exact hK _ _ _ _ _ H3 (zJ rfl) (by rw [<- hg,Nat.gcd_zero_right])
 ·rw [decide_eq_true (by omega),jd.t2,zG,jd.v3,zD,zM,jd.t5,zT,jd.t4_s,zim (by omega)];exact hR (a'%b') _ _ _ _ _ (Nat.mod_lt _ (by omega)) ⟨b',a'%b',rfl,rfl,rfl,by rw [<- hg,Nat.gcd_comm a' b',Nat.gcd_rec b' a',Nat.gcd_comm],H3⟩
theorem zt2 {a b:Nat} (ha:a<=9223372036854775807) (hb:b<=9223372036854775807):Pure Tryz.prog B 143 [I a,I b] (· = I (Nat.gcd a b)):=by
 refine yD fun h nx K H0 hK=>zR zV yw 1000 fun hf' => ?_;rw [wz.go,wz.t3,zA,wz.qw,wz.t2,zA,wz.qx,aA (by omega),zr9,aA (by omega),zr9,show max (a:Int) (0-a)=a by omega,show max (b:Int) (0-b)=b by omega];refine zt1 _ _ _ _ ?_;rintro _ rfl _;simp only [zN,yA];rw [wz.ret];exact hK _ _ _ _ _ H0 (zJ rfl) rfl
abbrev nV (k:Nat):AV:=I (k:Int)
def kP (n:Nat) (S:List Nat):List AV:=aB n fun x:Nat=>.bool (decide (x∈S))
theorem zdi {n:Nat} {S:List Nat} {c:Nat}:(kP n S).set c (.bool true)=kP n (S++[c]):=by
 unfold kP;rw [zna];refine zbh fun j _ => ?_;by_cases e:j=c
 ·subst e;rw [if_pos rfl,decide_eq_true (by simp)]
 ·rw [if_neg e];have e2:(j∈S++[c])↔j∈S:=by
   rw [Zan,Zav];exact ⟨fun q=>q.resolve_right e,.inl⟩
  simp only [e2]
theorem zdj {n:Nat} {S:List Nat} {c:Nat} (hc:c<n):(kP n S)[c]? = some (.bool (decide (c∈S))):=xG hc
theorem zdk (n:Nat):List.replicate n (AV.bool false)=kP n []:=by
 rw [zhq,kP];exact zbh fun j _=>by simp
theorem vg.pn {p:List Int} (h:vg p):PN p:={
 lt i hi:=by
  have:=h.2 _ (Zaa (getD_some hi));show (p.getD i 0).toNat<_;omega
 inj i j hi hj e:=by
  have h1:=h.2 _ (Zaa (getD_some hi));have h2:=h.2 _ (Zaa (getD_some hj));have e:(p.getD i 0).toNat=(p.getD j 0).toNat:=e;have e2:p.getD i 0=p.getD j 0:=by omega
  exact zc9 h.1 (getD_some hi) (e2 ▸ getD_some hj) }
theorem zj2 {p:List Int} (h:vg p) {c:Nat} (hc:c<p.length):p.getD c 0=((nxt p c:Nat):Int):=by
 have h1:=h.2 _ (Zaa (getD_some hc));show _=(((p.getD c 0).toNat:Nat):Int);omega
theorem zo1 {n c:Nat} {S:List Nat} (h1:S.Nodup) (h2:∀ x∈S,x<n) (hc:c<n) (hn:c∉S):(S++[c]).Nodup/\(∀ x∈S++[c],x<n)/\S.length<n:=by
 have a1:(S++[c]).Nodup:=List.nodup_append.2 ⟨h1,by simp,by rintro a ha b hb rfl;rw [List.mem_singleton.1 hb] at ha;exact hn ha⟩;have a2:∀ x∈S++[c],x<n:=fun x hx=>by
  rcases List.mem_append.1 hx with q | q
  ·exact h2 x q
  ·rw [List.mem_singleton.1 q];exact hc
 have:=zeu a1 a2;simp at this;exact ⟨a1,a2,by omega⟩
theorem zln {p:List Int} {c:Bool} {h0 h:T Blk} {nx p0:Pa} {L:List Ob} {K:Kw Prop} (H:Hp h0 h nx L) (hp:vg p) (hn:p.length<=1000)
  (hK:∀ o b1 sb z h' nx',Hp h0 h' nx' (.gro o 1 (j8 p).length ((j8 p).map nV)::.arr sb z::.arr b1 [encI p,.bool c]::L)->K (ql o 1 (j8 p).length) h' nx'=.ok True):(CS Tryz.prog B).fn 138 p0 [.agg [encI p,.bool c]] h nx K=.ok True:=by
 refine gJ (p:=.of 138) (K:=K) (zR zV yw 10000000 fun hf => ?_) fun _ _ _ _ q=>q;have hP:=hp.pn;rw [zk.go,zk.t42,zA,zk.qw];refine H.box (l:=[encI p,.bool c]) rfl fun b1 h1 nx1 H1 => ?_;rw [zk.t41,zA,zk.qx,zk.t40,zA,zk.bC,sFx,H1.load (k:=0) (i:=0+0) rfl rfl,zK];refine H1.mk1 (z:=.bool false) p.length rfl rfl (by omega) (by decide) fun sb h2 nx2 H2 => ?_;rw [zdk] at H2;rw [zk.t39,zA,zk.t36,zA,zk.fV,sFx,H2.load (k:=1) (i:=0+0) rfl rfl,zK,zk.t35,zT];refine zk.zuj (fun m x3 x9 h' nx'=>∃ (i:Nat) (o:Option Pa),x9=I i/\x3=ql o 1 (qp p i).2.length/\m=p.length-i/\i<=p.length/\Hp h0 h' nx' (.gro o 1 (qp p i).2.length (((qp p i).2.map List.length).map nV)::.arr sb (kP p.length (qp p i).1)::.arr b1 [encI p,.bool c]::L)) (m:=p.length) (by omega) ⟨0,none,rfl,rfl,by omega,by omega,H2.aC 1⟩ ?_;rintro m z3 z5 z6 z7 z9 z10 z11 z12 h3 nx3 R ⟨i,o,rfl,rfl,rfl,hi,H3⟩ hR;have hle:(qp p i).2.length<=i:=pH p i;rw [zk.t33,zA,zk.t4_s,vk];by_cases hlt:i<p.length
 case neg =>
  obtain rfl:i=p.length:=by omega
  rw [decide_eq_false (by omega),zk.t32,zA,zk.t5,zG,zk.v10,zE,yW,j3,zk.t38,zA,zk.zuk];simp only [zN,yA];rw [zk.ret];have e:(j8 p).length=(qp p p.length).2.length:=Zam _;rw [<- e] at H3 ⊢;exact hK o b1 sb _ _ _ H3
 obtain ⟨C,_⟩:=zev hP i hi;have hnx:=wL p i;unfold stT at hnx;rw [decide_eq_true (by omega),zk.t32,zA,zk.t5,zG,zk.v10,zD,zM,zk.t31,zA,zk.t29,zT,zk.t28,zA,zk.sO,zk.t27,zA,zk.t7_s,zk.t26,zA,zk.t21,zA,zk.rV,zk.t20,zT]
 generalize hS:(qp p i).1=S at *
 generalize hT:(qp p i).2=Ts at *
 refine zk.zlv (fun m x6 x7 h' nx'=>∃ (cc:Nat) (S':List Nat),x6=I ((S'.length-S.length:Nat):Int)/\x7=I cc/\m=p.length-S'.length/\S.length<=S'.length/\cc<p.length/\S'.Nodup/\(∀ x∈S',x<p.length)/\oh p cc S'=oh p i S/\Hp h0 h' nx' (.gro o 1 Ts.length ((Ts.map List.length).map nV)::.arr sb (kP p.length S')::.arr b1 [encI p,.bool c]::L)) (m:=p.length-S.length) (by omega) ⟨i,S,by rw [Nat.sub_self];rfl,rfl,rfl,Zaf _,hlt,C.nd,C.lt,rfl,H3⟩ ?_;rintro m y6 y7 y11 h5 nx5 R2 ⟨cc,S',rfl,rfl,rfl,q0,q1,q2,q3,q4,H5⟩ hR2;have hSl:=zeu q2 q3;rw [zk.t18,zA,zk.t11,zA,zk.rE,sIx rfl q1,H5.load (k:=1) rfl (zdj q1),jB,zk.t10,zG,zk.v11];by_cases d:cc∈S'
 case neg =>
  obtain ⟨d1,d2,d3⟩:=zo1 q2 q3 q1 d;rw [decide_eq_false d,Zah,zD,zM,zk.t17,zA,zk.t15,zT,zk.t14,zA,zk.zah,sIx rfl q1];refine H5.store (k:=1) rfl (by rw [kP];simpa [aB] using q1) rfl fun h6 H6 => ?_;have H6:Hp h0 h6 nx5 (.gro o 1 Ts.length ((Ts.map List.length).map nV)::.arr sb (kP p.length (S'++[cc]))::.arr b1 [encI p,.bool c]::L):=H6.cast (by rw [<- zdi];rfl);rw [zk.ze2,vw (by omega),zk.fM,sFx,H6.load (k:=2) (i:=0+0) rfl rfl,bZ (i:=cc) rfl q1,ldL (fG (getD_some q1)),zj2 hp q1];refine hR2 (p.length-(S'++[cc]).length) _ _ _ _ _ (by simp;omega) ⟨nxt p cc,S'++[cc],?_,rfl,rfl,by simp;omega,hP.lt cc q1,d1,d2,?_,H6⟩
  ·rw [Zao,List.length_singleton];congr 1;omega
  ·rw [<- p8 d (by omega)];exact q4
 rw [decide_eq_true d,Zag,zE,yW,j3,zk.t25,zA,zk.ze1,cZ];rw [m0 d] at q4;rw [<- q4] at hnx;by_cases e:S.length<S'.length
 ·rw [if_pos e] at hnx;have eT:(qp p (i+1)).2=Ts++[S'.drop S.length]:=by rw [hnx]
  have eS:(qp p (i+1)).1=S':=by rw [hnx]
  rw [decide_eq_true (by omega),zk.t24,zG,zk.v12,zD,zk.zck];refine H5.yg (l:=[I ((S'.length-S.length:Nat):Int)]) rfl fun tb h6 nx6 H6 => ?_;refine H6.appN (k:=1) (o:=o) (c:=1) (esz:=1) (new:=[I ((S'.length-S.length:Nat):Int)]) rfl (jh.rd (l:=[I ((S'.length-S.length:Nat):Int)]) (n:=1) (e:=1) (H6.own _ (Zai ..)) rfl) rfl rfl (by decide) (by decide) (by omega) fun o' h7 nx7 _ H7 => ?_;rw [zk.zcj,vw (by omega)];refine hR (p.length-(i+1)) _ _ _ _ _ _ _ _ _ _ (by omega) ⟨i+1,o',rfl,by rw [eT,Zao];rfl,rfl,by omega,?_⟩;rw [eT,eS];refine H7.drop.cast ?_;rw [Zao,Zbg,Zbg];simp
 ·rw [if_neg e] at hnx;have eT:(qp p (i+1)).2=Ts:=by rw [hnx]
  have eS:(qp p (i+1)).1=S':=by rw [hnx]
  rw [decide_eq_false (by omega),zk.t24,zG,zk.v12,zE,zM,zk.zcj,vw (by omega)];refine hR (p.length-(i+1)) _ _ _ _ _ _ _ _ _ _ (by omega) ⟨i+1,o,rfl,by rw [eT],rfl,by omega,?_⟩;rw [eT,eS];exact H5
abbrev zI (T:List Nat):List Int:=T.map fun k:Nat=>(k:Int)
theorem zew {p:List Int} (hp:vg p) (hn:p.length<=1000):Pure Tryz.prog B 142 [encI p] (· = encT ((qp p p.length).2.map zI)):=by
 refine yD fun h nx K H0 hK=>zR zV yw 10000000 fun hf' => ?_;have hP:=hp.pn;rw [zn.go,zn.t40,zA,zn.qw,zn.t39,zA,zn.qx,zn.t38,zA,zn.bC,zK];refine H0.mk1 (z:=.bool false) p.length rfl rfl (by omega) (by decide) fun sb h2 nx2 H2 => ?_;rw [zdk] at H2;rw [zn.t37,zA,zn.t34,zA,zn.fV,zn.t33,zT];refine zn.zum (fun m x2 x4 h' nx'=>∃ (i:Nat) (o:Option Pa) (Rw:List (Pa×List Int)),x4=I i/\x2=ql o 1 Rw.length/\m=p.length-i/\i<=p.length/\Rw.map (·.2)=(qp p i).2.map zI/\Hp h h' nx' (.gro o 1 Rw.length (dD Rw)::.arr sb (kP p.length (qp p i).1)::objR Rw)) (m:=p.length) (by omega) ⟨0,none,[],rfl,rfl,by omega,by omega,rfl,H2.aC 1⟩ ?_;rintro m z2 z4 z5 z6 z7 z8 z9 h3 nx3 R ⟨i,o,Rw,rfl,rfl,rfl,hi,hRw,H3⟩ hR;have hle:(qp p i).2.length<=i:=pH p i;have hRl:Rw.length<=i:=by have:=congrArg List.length hRw;simp at this;omega
 rw [zn.t31,zA,zn.t6,zA,zn.t4_s,zK,vk];by_cases hlt:i<p.length
 case neg =>
  obtain rfl:i=p.length:=by omega
  rw [decide_eq_false (by omega),zn.t5,zG,zn.v7,zE,yW,j3,zn.t36,zA,zn.zun];simp only [zN,yA];rw [zn.ret];exact hK _ _ _ _ _ H3 (H3.zq3 (k:=0) rfl fun x hx=>by simp [hx]) (by rw [hRw])
 obtain ⟨C,_⟩:=zev hP i hi;have hnx:=wL p i;unfold stT at hnx;rw [decide_eq_true (by omega),zn.t5,zG,zn.v7,zD,zM,zn.t30,zA,zn.t28,zT,zn.t27,zA,zn.t7_s,zn.t26,zA,zn.t21,zA,zn.rV,zn.t20,zT]
 generalize hS:(qp p i).1=S at *
 generalize hT:(qp p i).2=Ts at *
 refine zn.zlv (fun m x5 x6 h' nx'=>∃ (cc:Nat) (T:List Nat) (o5:Option Pa),x5=ql o5 1 T.length/\x6=I cc/\m=p.length-(S++T).length/\cc<p.length/\(S++T).Nodup/\(∀ x∈S++T,x<p.length)/\oh p cc (S++T)=oh p i S/\Hp h h' nx' (.gro o5 1 T.length ((zI T).map I)::.gro o 1 Rw.length (dD Rw)::.arr sb (kP p.length (S++T))::objR Rw)) (m:=p.length-S.length) (by omega) ⟨i,[],none,rfl,rfl,by simp,hlt,by simpa using C.nd,by simpa using C.lt,by simp,by simpa using H3.aC 1⟩ ?_;rintro m y5 y6 y8 h5 nx5 R2 ⟨cc,T,o5,rfl,rfl,rfl,q1,q2,q3,q4,H5⟩ hR2;have hSl:=zeu q2 q3;rw [Zao] at hSl;rw [zn.t18,zA,zn.t11,zA,zn.rE,sIx rfl q1,H5.load (k:=2) rfl (zdj q1),jB,zn.t10,zG,zn.v8];by_cases d:cc∈S++T
 case neg =>
  obtain ⟨d1,d2,d3⟩:=zo1 q2 q3 q1 d;rw [decide_eq_false d,Zah,zD,zM,zn.t17,zA,zn.t15,zT,zn.t14,zA,zn.zah,sIx rfl q1];refine H5.store (k:=2) rfl (by rw [kP];simpa [aB] using q1) rfl fun h6 H6 => ?_;have H6:Hp h h6 nx5 (.gro o5 1 T.length ((zI T).map I)::.gro o 1 Rw.length (dD Rw)::.arr sb (kP p.length (S++(T++[cc])))::objR Rw):=H6.cast (by rw [<- Zbk,<- zdi];rfl);rw [zn.ze2];refine H6.yg (l:=[I cc]) rfl fun tb h7 nx7 H7 => ?_;refine H7.appN (k:=1) (o:=o5) (c:=1) (esz:=1) (new:=[I cc]) rfl (jh.rd (l:=[I cc]) (n:=1) (e:=1) (H7.own _ (Zai ..)) rfl) rfl rfl (by decide) (by decide) (by omega) fun o' h8 nx8 _ H8 => ?_;rw [zn.fM,bZ (i:=cc) rfl q1,ldL (fG (getD_some q1)),zj2 hp q1];rw [Zbk] at d1 d2;refine hR2 (p.length-(S++(T++[cc])).length) _ _ _ _ _ (by simp only [Zao,List.length_singleton];rw [Zao] at d3;omega) ⟨nxt p cc,T++[cc],o',by rw [Zao];rfl,rfl,rfl,hP.lt cc q1,d1,d2,?_,H8.drop.cast ?_⟩
  ·rw [<- Zbk,<- p8 d d3];exact q4
  ·simp [zI]
 rw [decide_eq_true d,Zag,zE,yW,j3,zn.t25,zA,zn.ze1,H5.oV (k:=0) rfl,cZ];rw [m0 d] at q4;rw [<- q4] at hnx;by_cases e:0<T.length
 ·rw [if_pos (by rw [Zao];omega),List.drop_left] at hnx;have eT:(qp p (i+1)).2=Ts++[T]:=by rw [hnx]
  have eS:(qp p (i+1)).1=S++T:=by rw [hnx]
  obtain ⟨id,rfl⟩:∃ id,o5=some id:=by
   cases o5 with
   | some id=>exact ⟨id,rfl⟩
   | none=>obtain ⟨h1,h2⟩:=H5.own _ (Zai ..);omega
  have hzl:(zI T).length=T.length:=Zam _;rw [decide_eq_true (by omega),zn.t24,zG,zn.v9,zD,zn.zck];refine H5.yg (l:=[ql (some id) 1 T.length]) rfl fun tb h6 nx6 H6 => ?_;refine H6.appN (k:=2) (o:=o) (c:=1) (esz:=1) (new:=[ql (some id) 1 T.length]) rfl (jh.rd (l:=[ql (some id) 1 T.length]) (n:=1) (e:=1) (H6.own _ (Zai ..)) rfl) rfl rfl (by decide) (by decide) (by omega) fun o' h7 nx7 _ H7 => ?_;rw [zn.zir,vw (by omega)];have e1:Rw.length+1=(Rw++[(id,zI T)]).length:=by simp
  have e2:dD Rw++[ql (some id) 1 T.length]=dD (Rw++[(id,zI T)]):=by unfold dD;rw [Zbg,<- hzl];rfl
  have e3:objR (Rw++[(id,zI T)])=objR Rw++[.gro (some id) 1 T.length ((zI T).map I)]:=by unfold objR;rw [Zbg,<- hzl];rfl
  refine hR (p.length-(i+1)) _ _ _ _ _ _ _ _ _ (by omega) ⟨i+1,o',Rw++[(id,zI T)],rfl,by rw [e1],rfl,by omega,by rw [eT,Zbg,Zbg,hRw];rfl,?_⟩;rw [eS,<- e1,<- e2,e3];have H8:Hp h h7 nx7 (.gro (some id) 1 T.length ((zI T).map I)::.gro o' 1 (Rw.length+1) (dD Rw++[ql (some id) 1 T.length])::.arr sb (kP p.length (S++T))::objR Rw):=H7.drop;have hpm:=List.perm_append_comm (l₁:=[Ob.gro (some id) 1 T.length ((zI T).map I)]) (l₂:=(Ob.gro o' 1 (Rw.length+1) (dD Rw++[ql (some id) 1 T.length])::.arr sb (kP p.length (S++T))::objR Rw));exact H8.perm hpm
 ·have hT0:T=[]:=Zax (by omega);subst hT0;rw [if_neg (by simp),Zcc] at hnx;have eT:(qp p (i+1)).2=Ts:=by rw [hnx]
  have eS:(qp p (i+1)).1=S:=by rw [hnx]
  rw [decide_eq_false (by simp),zn.t24,zG,zn.v9,zE,zM,zn.zir,vw (by omega)];refine hR (p.length-(i+1)) _ _ _ _ _ _ _ _ _ (by omega) ⟨i+1,o,Rw,rfl,rfl,rfl,by omega,by rw [eT];exact hRw,?_⟩;rw [eS];rw [Zcc] at H5;exact H5.drop
theorem zce {n:Nat} (h:d7 n=false):n<=100000:=by
 have:=of_decide_eq_false h;omega
theorem zq9 {p:List Int} (c:Bool) (h:p.length<=256):ordZ p c<9223372036854775807:=by
 have:=zjz h;unfold ordZ;split <;> omega
theorem zdl {p:List Int} {c:Bool}:∀ x∈jW p c,0<x:=fun x hx=>by
 unfold jW at hx;cases c with
 | false=>exact vJ x hx
 | true =>
  rcases List.mem_append.1 hx with q | q
  ·exact vJ x q
  ·rw [List.mem_singleton.1 q];decide
theorem zgx {l:List Nat} {i x:Nat} (hx:l[i]? = some x):bV (l.take (i+1))=bV (l.take i) / Nat.gcd (bV (l.take i)) x*x:=by
 rw [Zaw,hx];show bV (l.take i++[x])=_;rw [zdg,lcm_div]
def rQ (p:List Int):Int:=yF p p.length
def ordV (p:List Int) (c:Bool):AV:=if rQ p≠0 then .tup [I 0,I (rQ p)] else .tup [I (ordZ p c),I 0]
theorem zex {p:List Int} (h:rQ p=0):vg p/\p.length<=256:=by
 obtain ⟨h1,h2,h3⟩:=gZ h;exact ⟨h3,by omega⟩
theorem zra {p:List Int} {c:Bool} (hl:p.length<=100000):Pure Tryz.prog B 55 [.agg [encI p,.bool c]] (· = ordV p c):=by
 refine yD fun h nx K H0 hK=>zR zV yw 10000000 fun hf' => ?_;rw [F55.go,F55.t35,zA,F55.qw];refine H0.box (l:=[encI p,.bool c]) rfl fun b1 h1 nx1 H1 => ?_;rw [F55.t34,zA,F55.t7,zA,F55.qx,H1.zh (k:=0) (n:=2) rfl rfl,sFx,H1.load (k:=0) (i:=0+0) rfl rfl,zK];refine dI hl _ _ _ _ ?_;rintro _ rfl _;rw [show yF p (p.length:Int)=rQ p from rfl,F55.t6,zA,F55.bC,xw,F55.t5,zG,F55.v8];by_cases z:rQ p=0
 case neg =>
  rw [decide_eq_false z,Zah,zD,F55.t4,zA,F55.fV];simp only [zN,yA];rw [F55.ret];exact hK _ _ _ _ _ H1 (jI (zJ rfl) (zJ rfl)) (by rw [ordV,if_pos z])
 obtain ⟨hp,h256⟩:=zex z;rw [decide_eq_true z,Zag,zE,zM,F55.t33,zA,F55.rV,H1.zh (k:=0) (n:=2) rfl rfl];refine zln H1 hp (by omega) fun o b1' sb zz h3 nx3 H3 => ?_;have hzl:(j8 p).length<=256:=by
  have:=pH p p.length;rw [j8,Zam];omega
 rw [F55.t32,zA,F55.t12,zA,F55.rE,sFx,H3.load (k:=3) (i:=0+1) rfl rfl,F55.t11,zG,F55.v9];have hcl:(jW p c).length<=257:=by
  unfold jW;split
  ·rw [Zao];simp;omega
  ·omega
 have rest:∀ (x4 x6 x7 x8 x10 x11 x12 x13:AV) (o:Option Pa) (h4:T Blk) (nx4:Pa) (L:List Ob),Hp h h4 nx4 (.gro o 1 (jW p c).length ((jW p c).map nV)::L)->IR.run F55.t31 (CS Tryz.prog B) 10000000 (fnO F55.res K) (jm F55.res K) (F55.fr (.agg [encI p,.bool c]) (.ptr b1 0) (I 0) (I 0) x4 (ql o 1 (jW p c).length) x6 x7 x8 (.bool c) x10 x11 x12 x13) h4 nx4=.ok True:=by
  intro x4 x6 x7 x8 x10 x11 x12 x13 o h4 nx4 L H4;rw [F55.t31,zA,F55.ze2,F55.t30,zA,F55.t27,zA,F55.aS,H4.oV (k:=0) rfl,F55.t26,zT];refine F55.zui (fun m x6 x12 h' nx'=>∃ i:Nat,x12=I i/\x6=I ((bV ((jW p c).take i):Nat):Int)/\m=(jW p c).length-i/\i<=(jW p c).length/\Hp h h' nx' (.gro o 1 (jW p c).length ((jW p c).map nV)::L)) (m:=(jW p c).length) (by omega) ⟨0,rfl,rfl,by omega,by omega,H4⟩ ?_;rintro m z6 z7 z12 z13 h5 nx5 R ⟨i,rfl,rfl,rfl,hi,H5⟩ hR;have hM:∀ i,bV ((jW p c).take i)<9223372036854775807:=fun i=>by
   have h1:=zgw (zdl (p:=p) (c:=c)) i;rw [zjy] at h1;have:=zq9 c h256;omega
  rw [F55.t24,zA,F55.rW,vk];by_cases hlt:i<(jW p c).length
  case neg =>
   obtain rfl:i=(jW p c).length:=by omega
   rw [decide_eq_false (by omega),F55.t23,zA,F55.t16,zG,F55.v13,zE,yW,j3,F55.t29,zA,F55.zlu];simp only [zN,yA];rw [F55.ret,List.take_length,zjy];exact hK _ _ _ _ _ H5 (jI (zJ rfl) (zJ rfl)) (by rw [ordV,if_neg (fun q=>q z)])
  have hx:(jW p c)[i]? = some (jW p c)[i]:=List.getElem?_eq_getElem hlt;have hpos:=zdl _ (Zaq hlt);have hst:=zgx hx;have hM1:=hM (i+1);have hMi:=hM i
  generalize (jW p c)[i]=x at *
  obtain ⟨id,q1,q2⟩:=H5.zv2 (k:=0) rfl (show ((jW p c).map nV)[i]? = some (nV x) by rw [List.getElem?_map,hx];rfl);have hg:0<Nat.gcd (bV ((jW p c).take i)) x:=Nat.gcd_pos_of_pos_right _ hpos;rw [decide_eq_true (by omega),F55.t23,zA,F55.t16,zG,F55.v13,zD,zM,F55.t22,zA,F55.t20,zT,F55.t19,zA,F55.rU,q1,q2,F55.zae];refine zt0 _ _ _ _ ?_;rintro _ rfl _;rw [hst] at hM1;rw [zo0 (by omega) hg]
  generalize bV ((jW p c).take i) / Nat.gcd (bV ((jW p c).take i)) x=d at *
  have hmul:((d:Nat):Int)*((x:Nat):Int)=((d*x:Nat):Int):=(Int.natCast_mul d x).symm;rw [eP (by rw [hmul];omega),hmul,F55.zac,vw (by omega)];exact hR ((jW p c).length-(i+1)) _ _ _ _ _ _ (by omega) ⟨i+1,rfl,by rw [hst],rfl,by omega,H5⟩
 cases c with
 | false =>
  rw [zE,zM];exact rest _ _ _ _ _ _ _ _ o _ _ _ H3
 | true =>
  rw [zD,F55.rC];refine H3.yg (l:=[I 2]) rfl fun tb h6 nx6 H6 => ?_;refine H6.appN (k:=1) (o:=o) (c:=1) (esz:=1) (new:=[I 2]) rfl (jh.rd (l:=[I 2]) (n:=1) (e:=1) (H6.own _ (Zai ..)) rfl) rfl rfl (by decide) (by decide) (by omega) fun o' h7 nx7 _ H7 => ?_;have e1:(j8 p).length+1=(jW p true).length:=by unfold jW;rw [if_pos rfl,Zao];rfl
  have e2:(j8 p).map nV++[I 2]=(jW p true).map nV:=by unfold jW;rw [if_pos rfl,Zbg];rfl
  rw [e1,e2] at H7;rw [e1];exact rest _ _ _ _ _ _ _ _ o' _ _ _ H7.drop
theorem zin {p:List Int} {c:Bool} (hp:vg p) (h256:p.length<=256):Pure Tryz.prog B 64 [.agg [encI p,.bool c]] (· = I (ordZ p c)):=by
 refine yD fun h nx K H0 hK=>zR zV yw 10000000 fun hf' => ?_;rw [F64.go,F64.t25,zA,F64.qw];refine H0.box (l:=[encI p,.bool c]) rfl fun b1 h1 nx1 H1 => ?_;rw [F64.t24,zA,F64.qx,F64.t23,zA,F64.bC,sFx,H1.load (k:=0) (i:=0+0) rfl rfl];refine zew hp (by omega) _ _ _ _ ?_;rintro _ rfl _;have hlz:(j8 p).length=(qp p p.length).2.length:=Zam _;have hcl:=pH p p.length;have hM:∀ i,bV ((j8 p).take i)<4611686018427387904:=fun i=>by
  have h1:=zgw (vJ (p:=p)) i;have:=zjz h256;omega
 have hzl:((qp p p.length).2.map zI).length=(qp p p.length).2.length:=Zam _;rw [F64.t22,zA,F64.t14,zA,F64.fV,F64.t13,zT];refine F64.zul (fun m x3 x5 h' nx'=>∃ i:Nat,x5=I i/\x3=I ((bV ((j8 p).take i):Nat):Int)/\m=(qp p p.length).2.length-i/\i<=(qp p p.length).2.length/\Hp h h' nx' [.arr b1 [encI p,.bool c]]) (m:=(qp p p.length).2.length) (by omega) ⟨0,rfl,rfl,by omega,by omega,H1⟩ ?_;rintro m z3 z5 z6 h5 nx5 R ⟨i,rfl,rfl,rfl,hi,H5⟩ hR;rw [F64.t11,zA,F64.t6,zA,F64.t4_s,zK,hzl,vk];by_cases hlt:i<(qp p p.length).2.length
 case neg =>
  rw [Zat (by omega)];have hm:=hM (j8 p).length;rw [List.take_length] at hm;rw [decide_eq_false (by omega),F64.t5,zG,F64.v6,zE,yW,j3,F64.t21,zA,F64.t18,zA,F64.rW,sFx,H5.load (k:=0) (i:=0+1) rfl rfl];have fin:∀ (x v:AV),v=I (ordZ p c)->K v h5 nx5=.ok True:=fun x v hv=>hK _ _ _ _ _ H5 (zJ (by rw [hv];rfl)) hv;cases c with
  | false =>
   simp only [kQ,yI];rw [F64.t17,zG,F64.v7,zE,zM,F64.t20,zA,F64.zaf];simp only [zN,yA];rw [F64.ret];exact fin .undef _ (by rw [ordZ,if_neg (fun q=>by cases q.1)])
  | true =>
   simp only [gS];rw [show (I 2:AV)=I ((2:Nat):Int) from rfl,zim (by decide),ny];simp only [yH];by_cases d:bV (j8 p)%2=1
   ·rw [decide_eq_true (by omega),F64.t17,zG,F64.v7,zD,F64.fM,eP (by omega),F64.t20,zA,F64.zaf];simp only [zN,yA];rw [F64.ret];refine fin .undef _ ?_;rw [ordZ,if_pos ⟨rfl,d⟩]
    congr 1
   ·rw [decide_eq_false (by omega),F64.t17,zG,F64.v7,zE,zM,F64.t20,zA,F64.zaf];simp only [zN,yA];rw [F64.ret];exact fin .undef _ (by rw [ordZ,if_neg (fun q=>d q.2)])
 have hx0:(qp p p.length).2[i]? = some (qp p p.length).2[i]:=List.getElem?_eq_getElem hlt;have hTne:=(pI p p.length).2.2 _ (Zaq hlt)
 generalize (qp p p.length).2[i]=T at *
 have hx:(j8 p)[i]? = some T.length:=by rw [j8,List.getElem?_map,hx0];rfl
 have hxz:((qp p p.length).2.map zI)[i]? = some (zI T):=by rw [List.getElem?_map,hx0];rfl
 have hpos:0<T.length:=List.length_pos_iff.2 hTne;have hst:=zgx hx;have hM1:=hM (i+1);have hMi:=hM i;have hg:0<Nat.gcd (bV ((j8 p).take i)) T.length:=Nat.gcd_pos_of_pos_right _ hpos;have hTl:T.length<=256:=by
  have h1:=zdf p;have:∀ (l:List Nat),∀ x∈l,x<=l.sum:=fun l=>by
   induction l with
   | nil=>simp
   | cons a l ih =>
    intro x hx;rw [List.sum_cons];rcases List.mem_cons.1 hx with rfl | hx
    ·omega
    ·have:=ih x hx;omega
  have:=this _ _ (Zaa hx);omega
 have six:∀ op:AV->OP,zX 1 (encT ((qp p p.length).2.map zI)) (I (i:Int)) op=op (.fp ((((qp p p.length).2.map zI).map encI).drop (i*1))):=fun op=>bZ rfl (by rw [hzl];exact hlt);rw [decide_eq_true (by omega),F64.t5,zG,F64.v6,zD,zM,F64.t10,zA,F64.t8,zT,F64.t7_s];simp only [six];have hTz:(zI T).length=T.length:=Zam _;rw [ldL (getT hxz),zK,ldL (getT hxz),zK,hTz];refine zt2 (by omega) (by omega) _ _ _ _ ?_;rintro _ rfl _;rw [zK,hTz,zB,ldL (getT hxz),zB,zB,zB,zB,zB];rw [hst] at hM1;rw [zo0 (by omega) hg]
 generalize bV ((j8 p).take i) / Nat.gcd (bV ((j8 p).take i)) T.length=d at *
 have hmul:((d:Nat):Int)*((T.length:Nat):Int)=((d*T.length:Nat):Int):=(Int.natCast_mul d T.length).symm;rw [eP (by rw [hmul];omega),hmul,F64.rE,vw (by omega)];exact hR ((qp p p.length).2.length-(i+1)) _ _ _ _ _ (by omega) ⟨i+1,rfl,by rw [hst],rfl,by omega,H5⟩
def cmpE (a b:Sym):Int:=uG [yF a.1 a.1.length,yF b.1 a.1.length]
def cmpV (a b:Sym):AV:=if cmpE a b≠0 then .tup [encZ,I (cmpE a b)] else .tup [encS (zQ a b),I 0]
def invV (a:Sym):AV:=if rQ a.1≠0 then .tup [encZ,I (rQ a.1)] else .tup [encS (invS a),I 0]
theorem zj3 (a b:Sym):cmpE a b=if yF a.1 a.1.length≠0 then yF a.1 a.1.length else yF b.1 a.1.length:=by
 show (if yF a.1 a.1.length≠0 then yF a.1 a.1.length else if yF b.1 a.1.length≠0 then yF b.1 a.1.length else 0)=_;by_cases z:yF a.1 a.1.length=0 <;> by_cases z2:yF b.1 a.1.length=0 <;> simp [z,z2]
theorem zlo {a b:Sym} (ha:a.1.length<=100000) (hb:b.1.length<=100000):Pure Tryz.prog B 53 [encS a,encS b] (· = cmpV a b):=by
 refine yD fun h nx K H0 hK=>zR zV yw 10000 fun hf' => ?_;rw [F53.go,F53.t11,zA,F53.qw];refine H0.box (l:=[encI a.1,.bool a.2]) rfl fun b2 h1 nx1 H1 => ?_;refine H1.box (l:=[encI b.1,.bool b.2]) rfl fun b3 h2 nx2 H2 => ?_;refine H2.alloc fun b4 h3 nx3 H3 => ?_;have l2:∀ op:AV->OP,zH 2 (.ptr b2 0) h3 op=op (encS a):=fun op=>H3.zh (k:=2) (n:=2) rfl rfl;have l3:∀ op:AV->OP,zH 2 (.ptr b3 0) h3 op=op (encS b):=fun op=>H3.zh (k:=1) (n:=2) rfl rfl;have m2:∀ op:AV->OP,zF (.ptr b2 (0+0)) h3 op=op (encI a.1):=fun op=>H3.load (k:=2) (i:=0+0) rfl rfl;rw [F53.t10,zA,F53.t7,zA,F53.qx];simp only [l2,l3,sFx,m2,zK];refine dI ha _ _ _ _ ?_;rintro _ rfl _;simp only [l2,l3,sFx,m2,zK,zB];refine dI hb _ _ _ _ ?_;rintro _ rfl _;refine H3.yg (l:=[I (yF a.1 a.1.length),I (yF b.1 a.1.length)]) rfl fun tb h5 nx5 H5 => ?_;refine qA (l:=[yF a.1 a.1.length,yF b.1 a.1.length]) H5 (k:=0) rfl (fun B=>xR (by simp)) (fun v hv=>by rw [hv];exact .int _ _) ?_;rintro _ rfl;rw [show uG [yF a.1 a.1.length,yF b.1 a.1.length]=cmpE a b from rfl,F53.t6,zA,F53.bC,xw,F53.t5,zG,F53.v7];by_cases z:cmpE a b=0
 case neg =>
  rw [decide_eq_false z,Zah,zD,F53.t4,zA,F53.fV,zjs];refine H5.jr (k:=1) (n:=2) rfl rfl rfl fun h6 H6 => ?_;simp only [zN,yA];rw [F53.ret,H6.zh (k:=1) (n:=2) rfl rfl];exact hK _ _ _ _ _ H6 (jI zgk (zJ rfl)) (by rw [cmpV,if_pos z])
 have z':=z;rw [zj3] at z';by_cases za:yF a.1 a.1.length=0
 case neg=>rw [if_pos za] at z';exact absurd z' za
 rw [if_neg (fun q=>q za)] at z';obtain ⟨_,a2,a3⟩:=gZ za;obtain ⟨_,b2',b3'⟩:=gZ z';rw [decide_eq_true z,Zag,zE,zM,F53.t9,zA,F53.rV,H5.zh (k:=3) (n:=2) rfl rfl,H5.zh (k:=2) (n:=2) rfl rfl];refine xY (a:=a) (b:=b) (fun x hx=>by have:=b3'.2 x hx;omega) (by omega) _ _ _ _ ?_;rintro _ rfl _;refine H5.jr (k:=1) (n:=2) rfl rfl rfl fun h6 H6 => ?_;simp only [zN,yA];rw [F53.ret,H6.zh (k:=1) (n:=2) rfl rfl];exact hK _ _ _ _ _ H6 (jI (zb0 _) (zJ rfl)) (by rw [cmpV,if_neg (fun q=>q z)])
theorem zo2 {a:Sym} (ha:a.1.length<=100000):Pure Tryz.prog B 54 [encS a] (· = invV a):=by
 refine yD fun h nx K H0 hK=>zR zV yw 10000 fun hf' => ?_;rw [F54.go,F54.t11,zA,F54.qw];refine H0.box (l:=[encI a.1,.bool a.2]) rfl fun b1 h1 nx1 H1 => ?_;refine H1.alloc fun b2 h2 nx2 H2 => ?_;rw [F54.t10,zA,F54.t7,zA,F54.qx,H2.zh (k:=1) (n:=2) rfl rfl,sFx,H2.load (k:=1) (i:=0+0) rfl rfl,zK];refine dI ha _ _ _ _ ?_;rintro _ rfl _;rw [show yF a.1 (a.1.length:Int)=rQ a.1 from rfl,F54.t6,zA,F54.bC,xw,F54.t5,zG,F54.v5];by_cases z:rQ a.1=0
 case neg =>
  rw [decide_eq_false z,Zah,zD,F54.t4,zA,F54.fV,zjs];refine H2.jr (k:=0) (n:=2) rfl rfl rfl fun h6 H6 => ?_;simp only [zN,yA];rw [F54.ret,H6.zh (k:=0) (n:=2) rfl rfl];exact hK _ _ _ _ _ H6 (jI zgk (zJ rfl)) (by rw [invV,if_pos z])
 obtain ⟨hp,h256⟩:=zex z;rw [decide_eq_true z,Zag,zE,zM,F54.t9,zA,F54.rV,H2.zh (k:=1) (n:=2) rfl rfl];refine zou (DP.of hp rfl) (by omega) _ _ _ _ ?_;rintro _ rfl _;refine H2.jr (k:=0) (n:=2) rfl rfl rfl fun h6 H6 => ?_;simp only [zN,yA];rw [F54.ret,H6.zh (k:=0) (n:=2) rfl rfl];exact hK _ _ _ _ _ H6 (jI (zb0 _) (zJ rfl)) (by rw [invV,if_neg (fun q=>q z)])
theorem zrb {a:Sym}:Pure Tryz.prog B 61 [encS a] (· = I (rQ a.1)):=by
 refine yD fun h nx K H0 hK=>zR zV yw 10000 fun hf' => ?_;rw [F61.go,F61.t3,zA,F61.qw];refine H0.box (l:=[encI a.1,.bool a.2]) rfl fun b1 h1 nx1 H1 => ?_;rw [F61.t2,zA,F61.qx,H1.zh (k:=0) (n:=2) rfl rfl,sFx,H1.load (k:=0) (i:=0+0) rfl rfl,zK];refine zej _ _ _ _ ?_;rintro _ rfl _;simp only [zN,yA];rw [F61.ret];exact hK _ _ _ _ _ H1 (zJ rfl) rfl
def aG (a:Sym) (f:List Int):Int:=if gM f≠0 then gM f else if yF a.1 f.length≠0 then yF a.1 f.length else uZ (jL a.2 a.1 f)
def appV (a:Sym) (f:List Int):AV:=if aG a f≠0 then .tup [.zi,I (aG a f)] else .tup [encI (jL a.2 a.1 f),I 0]
theorem zo3 {a:Sym} {f:List Int} (ha:a.1.length<=100000) (hl:f.length<=100000):Pure Tryz.prog B 52 [encS a,encI f] (· = appV a f):=by
 refine yD fun h nx K H0 hK=>zR zV yw 10000 fun hf' => ?_;have hal:(jL a.2 a.1 f).length=f.length:=vT ..;rw [F52.go,F52.t27,zA,F52.qw];refine H0.box (l:=[encI a.1,.bool a.2]) rfl fun b2 h1 nx1 H1 => ?_;rw [F52.t26,zA,F52.t7,zA,F52.qx]
 (refine zqo (by omega) _ _ _ _ ?_;rintro _ rfl _)
 rw [F52.t6,zA,F52.bC,xw,F52.t5,zG,F52.v8];by_cases z:gM f=0
 case neg =>
  rw [decide_eq_false z,Zah,zD,F52.t4,zA,F52.fV];simp only [zN,yA];rw [F52.ret];have e:aG a f=gM f:=if_pos z;exact hK _ _ _ _ _ H1 (jI (zJ rfl) (zJ rfl)) (by rw [appV,e,if_pos z])
 obtain ⟨f1,f2⟩:=zc5 z;rw [decide_eq_true z,Zag,zE,zM,F52.t25,zA,F52.t14,zA,F52.rV,H1.zh (k:=0) (n:=2) rfl rfl,zK];refine dI ha _ _ _ _ ?_;rintro _ rfl _;rw [F52.t13,zA,F52.rE,xw,F52.t12,zG,F52.v9];by_cases y:yF a.1 f.length=0
 case neg =>
  rw [decide_eq_false y,Zah,zD,F52.t11,zA,F52.rC];simp only [zN,yA];rw [F52.ret];have e:aG a f=yF a.1 f.length:=by rw [aG,if_neg (fun q=>q z),if_pos y]
  exact hK _ _ _ _ _ H1 (jI (zJ rfl) (zJ rfl)) (by rw [appV,e,if_pos y])
 obtain ⟨_,s2,s3⟩:=gZ y;have e:aG a f=uZ (jL a.2 a.1 f):=by rw [aG,if_neg (fun q=>q z),if_neg (fun q=>q y)]
 rw [decide_eq_true y,Zag,zE,zM,F52.t24,zA,F52.rW,H1.zh (k:=0) (n:=2) rfl rfl];refine zoo (g:=a.1) (c:=a.2) (by omega) (by omega) s3 (fun y hy=>by have:=f2 y hy;omega) _ _ _ _ ?_;rintro _ rfl _;rw [F52.t23,zA,F52.t20,zA,F52.fM];refine zf6 (l:=jL a.2 a.1 f) (by omega) (fun x _ K hK=>zop x _ _ _ _ fun v hv _=>by rw [hv];exact hK) ?_;rw [F52.t19,zG,F52.v10];cases hnf:(jL a.2 a.1 f).any aQ with
 | true =>
  have e2:uZ (jL a.2 a.1 f)=3:=by rw [uZ,hnf];rfl
  rw [zD,F52.t18,zA,F52.rU];simp only [zN,yA];rw [F52.ret];exact hK _ _ _ _ _ H1 (jI (zJ rfl) (zJ rfl)) (by rw [appV,e,e2];rfl)
 | false =>
  have e2:uZ (jL a.2 a.1 f)=0:=by rw [uZ,hnf];rfl
  rw [zE,zM,F52.t22,zA,F52.zac];simp only [zN,yA];rw [F52.ret];exact hK _ _ _ _ _ H1 (jI (zJ (uU _)) (zJ rfl)) (by rw [appV,e,e2];rfl)
theorem zrd (a:Sym) (f:List Int):appV a f=.tup [if aG a f=0 then encI (jL a.2 a.1 f) else .zi,I (aG a f)]:=by
 unfold appV;by_cases z:aG a f=0
 ·rw [if_neg (fun q=>q z),if_pos z,z]
 ·rw [if_pos z,if_neg z]
theorem zre (a b:Sym):cmpV a b=.tup [if cmpE a b=0 then encS (zQ a b) else encZ,I (cmpE a b)]:=by
 unfold cmpV;by_cases z:cmpE a b=0
 ·rw [if_neg (fun q=>q z),if_pos z,z]
 ·rw [if_pos z,if_neg z]
theorem zrf (a:Sym):invV a=.tup [if rQ a.1=0 then encS (invS a) else encZ,I (rQ a.1)]:=by
 unfold invV;by_cases z:rQ a.1=0
 ·rw [if_neg (fun q=>q z),if_pos z,z]
 ·rw [if_pos z,if_neg z]
theorem zrg (p:List Int) (c:Bool):ordV p c=.tup [if rQ p=0 then I (ordZ p c) else I 0,I (rQ p)]:=by
 unfold ordV;by_cases z:rQ p=0
 ·rw [if_neg (fun q=>q z),if_pos z,z]
 ·rw [if_pos z,if_neg z]
theorem zo4 {c:Prop} [Decidable c] (a:Sym):∃ x y,(if c then encS a else encZ:AV)=.agg [x,y]:=by
 split <;> exact ⟨_,_,rfl⟩
theorem law9 {a b:Sym} {f:List Int} (haw:∀ {B},Pure Tryz.prog B 18 [] (· = .bool true)):Pure Tryz.prog B 9 [encS a,encS b,encI f] (· = .bool true):=by
 refine yD fun h nx K H0 hK=>zR zV yw 1000 fun hf => ?_;have awk:∀ (h:T Blk) (nx:Pa) (Z:Kw Prop),Z (.bool true) h nx=.ok True->(CS Tryz.prog B).fn 18 (.of 18) [] h nx Z=.ok True:=fun h nx Z hZ=>haw _ _ _ _ fun v hv _=>by rw [hv];exact hZ
 have ret:∀ {h1 nx1 L},Hp h h1 nx1 L->K (.bool true) h1 nx1=.ok True:=fun H=>hK _ _ _ _ _ H (zJ rfl) rfl;rw [F9.go,F9.t62,zA,F9.qw];refine H0.box (l:=[encI a.1,.bool a.2]) rfl fun b3 h1 nx1 H1 => ?_;refine H1.box (l:=[encI b.1,.bool b.2]) rfl fun b4 h2 nx2 H2 => ?_;have l3:∀ op:AV->OP,zH 2 (.ptr b3 0) h2 op=op (encS a):=fun op=>H2.zh (k:=1) (n:=2) rfl rfl;have l4:∀ op:AV->OP,zH 2 (.ptr b4 0) h2 op=op (encS b):=fun op=>H2.zh (k:=0) (n:=2) rfl rfl;have m3:∀ op:AV->OP,zF (.ptr b3 (0+0)) h2 op=op (encI a.1):=fun op=>H2.load (k:=1) (i:=0+0) rfl rfl;have m4:∀ op:AV->OP,zF (.ptr b4 (0+0)) h2 op=op (encI b.1):=fun op=>H2.load (k:=0) (i:=0+0) rfl rfl;have out:∀ (x5 x6 x7 x8 x9 x10 x11 x12 x13 x14 x15 x16 x17 x18 x19 x20 x21 x22:AV),IR.run F9.t3 (CS Tryz.prog B) 1000 (fnO F9.res K) (IR.run F9.t60 (CS Tryz.prog B) 1000 (fnO F9.res K) (jm F9.res K)) (F9.fr (encS a) (encS b) (encI f) (.ptr b3 0) (.ptr b4 0) x5 x6 x7 x8 x9 x10 x11 x12 x13 x14 x15 x16 x17 x18 x19 x20 x21 x22) h2 nx2=.ok True:=by
  intros
  rw [F9.t3,zA,F9.bC];refine awk _ _ _ ?_;simp only [zN,yA];rw [F9.ret];exact ret H2
 rw [F9.t61,zA,F9.t5,zA,F9.qx,F9.r1_0,F9.zgy];refine awk _ _ _ ?_;rw [F9.r1_1,F9.zdo,jB,Zag];simp only [jV,sFx,m3,zjn]
 (refine zid _ _ _ _ ?_;rintro _ rfl _)
 rw [F9.r1_2,F9.zse];cases c1:d7 a.1.length with
 | true =>
  simp only [yI,gB,zof];rw [F9.r1_3,F9.zlx];simp only [yH,gB,zof];rw [F9.r1_4,F9.zgz];simp only [yH];rw [F9.t4,zG,F9.v16,zD];exact out ..
 | false =>
 simp only [yI,jV,sFx,m4,zjn]
 (refine zid _ _ _ _ ?_;rintro _ rfl _)
 rw [F9.r1_3,F9.zlx];cases c2:d7 b.1.length with
 | true =>
  simp only [yI,gB,zof];rw [F9.r1_4,F9.zgz];simp only [yH];rw [F9.t4,zG,F9.v16,zD];exact out ..
 | false =>
 simp only [yI,jV,zjn]
 (refine zid _ _ _ _ ?_;rintro _ rfl _)
 rw [F9.r1_4,F9.zgz];cases c3:d7 f.length with
 | true =>
  simp only [yI];rw [F9.t4,zG,F9.v16,zD];exact out ..
 | false =>
 have hal:=zce c1;have hbl:=zce c2;have hfl:=zce c3;simp only [yI];rw [F9.t4,zG,F9.v16,zE,zM,F9.t60,zA,F9.sO,l3];refine zo3 hal hfl _ _ _ _ ?_;rintro _ rfl _;rw [zrd,jE,jH,F9.t59,zA,F9.t7_s,l3,l4];refine zlo hal hbl _ _ _ _ ?_;rintro _ rfl _;obtain ⟨c8,c8',hc8⟩:=zo4 (c:=cmpE a b=0) (zQ a b);obtain ⟨c10,c10',hc10⟩:=zo4 (c:=rQ a.1=0) (invS a);rw [zre,jE,jH,hc8];refine H2.alloc fun b8 h3 nx3 H3 => ?_;refine H3.jr (k:=0) (n:=2) rfl rfl rfl fun h4 H4 => ?_;have H4:Hp h h4 nx3 [.arr b8 [c8,c8'],.arr b4 [encI b.1,.bool b.2],.arr b3 [encI a.1,.bool a.2]]:=H4;rw [F9.t58,zA,F9.rV,H4.zh (k:=2) (n:=2) rfl rfl];refine zo2 hal _ _ _ _ ?_;rintro _ rfl _;rw [zrf,jE,jH,hc10];refine H4.alloc fun b10 h5 nx5 H5 => ?_;refine H5.jr (k:=0) (n:=2) rfl rfl rfl fun h6 H6 => ?_
 clear l3 l4 m3 m4 out
 have H6:Hp h h6 nx5 [.arr b10 [c10,c10'],.arr b8 [c8,c8'],.arr b4 [encI b.1,.bool b.2],.arr b3 [encI a.1,.bool a.2]]:=H6;have l3:∀ op:AV->OP,zH 2 (.ptr b3 0) h6 op=op (encS a):=fun op=>H6.zh (k:=3) (n:=2) rfl rfl;have l4:∀ op:AV->OP,zH 2 (.ptr b4 0) h6 op=op (encS b):=fun op=>H6.zh (k:=2) (n:=2) rfl rfl;have m3:∀ op:AV->OP,zF (.ptr b3 (0+0)) h6 op=op (encI a.1):=fun op=>H6.load (k:=3) (i:=0+0) rfl rfl;have l8:∀ op:AV->OP,zH 2 (.ptr b8 0) h6 op=op (if cmpE a b=0 then encS (zQ a b) else encZ):=fun op=>by rw [hc8];exact H6.zh (k:=1) (n:=2) rfl rfl
 have l10:∀ op:AV->OP,zH 2 (.ptr b10 0) h6 op=op (if rQ a.1=0 then encS (invS a) else encZ):=fun op=>by rw [hc10];exact H6.zh (k:=0) (n:=2) rfl rfl
 rw [F9.t57,zA,F9.rE,l3];refine zra hal _ _ _ _ ?_;rintro _ rfl _;rw [zrg,jE,jH,F9.t56,zA,F9.t14,zA,F9.rC];simp only [l3,zK];refine dI hal _ _ _ _ ?_;rintro _ rfl _;simp only [l3,zK,zB];refine zej _ _ _ _ ?_;rintro _ rfl _;rw [xw,decide_eq_true rfl,Zag,F9.t13,zG,F9.v17,zE,zM,F9.t55,zA,F9.rW];simp only [l3,zK];refine zts (by omega) _ _ _ _ ?_;rintro _ rfl _;simp only [l3,zK,zB];refine zej _ _ _ _ ?_;rintro _ rfl _;refine H6.yg (l:=[I (gM f),I (yF a.1 f.length)]) rfl fun tb h7 nx7 H7 => ?_;refine qA (l:=[gM f,yF a.1 f.length]) H7 (k:=0) rfl (fun B=>zqp (by simp)) (fun v hv=>by rw [hv];exact .int _ _) ?_;rintro _ rfl
 clear l3 l4 m3 l8 l10
 have l3:∀ op:AV->OP,zH 2 (.ptr b3 0) h7 op=op (encS a):=fun op=>H7.zh (k:=4) (n:=2) rfl rfl;have l4:∀ op:AV->OP,zH 2 (.ptr b4 0) h7 op=op (encS b):=fun op=>H7.zh (k:=3) (n:=2) rfl rfl;have m3:∀ op:AV->OP,zF (.ptr b3 (0+0)) h7 op=op (encI a.1):=fun op=>H7.load (k:=4) (i:=0+0) rfl rfl;have l8:∀ op:AV->OP,zH 2 (.ptr b8 0) h7 op=op (if cmpE a b=0 then encS (zQ a b) else encZ):=fun op=>by rw [hc8];exact H7.zh (k:=2) (n:=2) rfl rfl
 have l10:∀ op:AV->OP,zH 2 (.ptr b10 0) h7 op=op (if rQ a.1=0 then encS (invS a) else encZ):=fun op=>by rw [hc10];exact H7.zh (k:=1) (n:=2) rfl rfl
 have e1:uG [gM f,yF a.1 f.length]=if gM f≠0 then gM f else yF a.1 f.length:=by
  show (if gM f≠0 then gM f else if yF a.1 f.length≠0 then yF a.1 f.length else 0)=_;by_cases z:gM f=0 <;> by_cases z2:yF a.1 f.length=0 <;> simp [z,z2]
 have rest:∀ (x14 x15 x16 x17 x18 x19 x20 x21 x22:AV),IR.run F9.t51 (CS Tryz.prog B) 1000 (fnO F9.res K) (jm F9.res K) (F9.fr (encS a) (encS b) (encI f) (.ptr b3 0) (.ptr b4 0) (.bool false) (if aG a f=0 then encI (jL a.2 a.1 f) else .zi) (I (aG a f)) (.ptr b8 0) (I (cmpE a b)) (.ptr b10 0) (I (rQ a.1)) (if rQ a.1=0 then I (ordZ a.1 a.2) else I 0) (I (rQ a.1)) x14 x15 x16 x17 x18 x19 x20 x21 x22) h7 nx7=.ok True:=by
  intro x14 x15 x16 x17 x18 x19 x20 x21 x22;rw [F9.t51,zA,F9.zlu,l3];refine zrb _ _ _ _ ?_;rintro _ rfl _;rw [F9.t50,zA,F9.t33,zA,F9.zir,xw,F9.t32,zG,F9.v20];have ec:=zj3 a b;rw [show yF a.1 (a.1.length:Int)=rQ a.1 from rfl] at ec;by_cases z:rQ a.1=0
  case neg =>
   rw [if_pos z] at ec;rw [ec] at l8 ⊢;simp only [if_neg z] at l8 l10 ⊢;rw [decide_eq_false z,Zah,zD,F9.t31,zA,F9.zcj,F9.zlw,F9.zo5];simp only [l8]
   (refine zeo z _ _ _ _ ?_;rintro _ rfl _)
   rw [F9.zrj,F9.zo6];simp only [gS,l10,zjo]
   (refine zeo z _ _ _ _ ?_;rintro _ rfl _)
   rw [F9.zri,F9.zo7];simp only [gS,yH,ny,decide_true];rw [F9.zrh,F9.zo8];simp only [gS,yH,ny,decide_true];simp only [zN,yA];rw [F9.ret];exact ret H7
  obtain ⟨hp,h256⟩:=zex z;rw [if_neg (fun q=>q z)] at ec;simp only [if_pos z] at l10 ⊢;rw [decide_eq_true z,Zag,zE,zM,F9.t49,zA,F9.t38,zA,F9.zuo];simp only [l10,l3];refine zwi hp (by omega) _ _ _ _ ?_;rintro _ rfl _;simp only [l10,zB,z];have hil:(invS a).1.length<=1000000:=by
   have:(invS a).1.length=a.1.length:=by show (jL false a.1 (idL a.1.length)).length=_;rw [vT,vL]
   omega
  refine zor hil _ _ _ _ ?_;rintro _ rfl _;have g1:gOk (.bool false) false=true:=rfl;simp only [jB,Zag,jV,xw,decide_true,yI,g1,cond_true,l3,zjn];refine zin hp h256 _ _ _ _ ?_;rintro _ rfl _;simp only [zB,jV,xw,decide_true,Zag,yI];rw [F9.t37,zG,F9.v21,zE,zM,F9.t48,zA,F9.t45,zA,F9.zup];simp only [l4,sFx,m3,zK];refine zej _ _ _ _ ?_;rintro _ rfl _;rw [F9.t44,zA,F9.zuq,xw,F9.t43,zG,F9.v22];rw [ec] at l8 ⊢;by_cases y:yF b.1 a.1.length=0
  case neg =>
   simp only [if_neg y] at l8;rw [decide_eq_false y,Zah,zD,F9.t42,zA,F9.zur];simp only [l8];refine zeo y _ _ _ _ ?_;rintro _ rfl _;simp only [zN,yA];rw [F9.ret];exact ret H7
  obtain ⟨_,b2,b3'⟩:=gZ y;simp only [if_pos y] at l8;rw [decide_eq_true y,Zag,zE,zM,F9.t47,zA,F9.zus];simp only [l8,l3,l4];refine zh7 (fun x hx=>by have:=b3'.2 x hx;omega) hbl _ _ _ _ ?_;rintro _ rfl _;simp only [l8,zB,y];refine zor (by show (uW a.1 b.1).length<=1000000;rw [gO];omega) _ _ _ _ ?_;rintro _ rfl _;simp only [zN,yA];rw [F9.ret];exact ret H7
 rw [e1,F9.t54,zA,F9.fM,F9.t53,zA,F9.t22,zA,F9.rU,ny,F9.t21,zG,F9.v18];by_cases z:(if gM f≠0 then gM f else yF a.1 f.length)=0
 case neg =>
  have ea:aG a f=if gM f≠0 then gM f else yF a.1 f.length:=by
   unfold aG;by_cases y:gM f=0
   ·rw [if_neg (fun q=>q y)] at z;rw [if_neg (fun q=>q y),if_pos z,if_neg (fun q=>q y)]
   ·rw [if_pos y,if_pos y]
  rw [decide_eq_false z,zE,zM,F9.t52,zA,F9.t27,zA,F9.zck,<- ea];rw [<- ea] at z;simp only [if_neg z] at rest ⊢;refine zgj z _ _ _ _ ?_;rintro _ rfl _;rw [jB,Zag,F9.t26,zG,F9.v19,zE,zM];exact rest ..
 have zf:gM f=0:=Decidable.byContradiction fun q=>by rw [if_pos q] at z;exact q z
 rw [if_neg (fun q=>q zf)] at z;obtain ⟨f1,f2⟩:=zc5 zf;obtain ⟨_,s2,s3⟩:=gZ z;have ea:aG a f=uZ (jL a.2 a.1 f):=by rw [aG,if_neg (fun q=>q zf),if_neg (fun q=>q z)]
 have hil:(jL a.2 a.1 f).length=f.length:=vT ..;rw [if_neg (fun q=>q zf),decide_eq_true z,zD,F9.t20,zA,F9.zae,l3];refine zqg (g:=a.1) (c:=a.2) (by omega) (by omega) s3 (fun y hy=>by have:=f2 y hy;omega) _ _ _ _ ?_;rintro _ rfl _;rw [F9.zaf];refine zjr (by omega) _ _ _ _ ?_;rintro _ rfl _;rw [F9.t52,zA,F9.t27,zA,F9.zck,<- ea];by_cases y:aG a f=0
 ·simp only [if_pos y] at rest ⊢;rw [y] at rest ⊢;refine zqq (by omega) _ _ _ _ ?_;rintro _ rfl _;rw [jB,Zag,F9.t26,zG,F9.v19,zE,zM];exact rest ..
 ·simp only [if_neg y] at rest ⊢;refine zgj y _ _ _ _ ?_;rintro _ rfl _;rw [jB,Zag,F9.t26,zG,F9.v19,zE,zM];exact rest ..
end Go.Ev
