import Derived.Test.YtkjkjpmahgeneaaGreatDoorWordsa
import Derived.Test.YtkjkjpmahgeneaaGreatDoorCodea
import Derived.Test.YtkjkjpmahgeneaaGreatDoorEvD
import Derived.IntWalk
import Derived.Test.YtkjkjpmahgeneaaGreatDoorIrT
import Derived.KernelRfl
import Derived.Test.YtkjkjpmahgeneaaGreatDoorLaws
import Derived.Shelf.SlSortCmp.Whole1
import Derived.Deep.Slices
import Derived.Sort.Grow
import Derived.Sort.Row
set_option linter.unusedSimpArgs false
set_option linter.unusedVariables false
noncomputable section
namespace Go.Ev
open Go Go.Proofs
variable {B:Nat}
set_option maxRecDepth 100000
theorem zwf {α:Type} (a b c d e f g:α) (L:List α):(a::b::c::d::e::f::g::L).Perm (b::c::e::([a,d,f,g]++L)) :=
 (List.Perm.swap b a _).trans (.cons b ((List.Perm.swap c a _).trans (.cons c (((List.Perm.swap e d _).cons a).trans (List.Perm.swap e a _)))))
def subE (G S:List Sym) (n:Int):Int:=if j5 G n≠0 then j5 G n else if j5 S n≠0 then j5 S n else if S.all (fun a=>decide (a∈G)) then 0 else 28
theorem mU {h0 h:T Blk} {nx p:Pa} {K:Kw Prop} {L:List Ob} {n:Int} {G S:List Sym} (hG:G.length<=100000) (hw:∀ g∈G,g.1.length<=100000) (hS:S.length<=100000) (hw2:∀ g∈S,g.1.length<=100000) (H:Hp h0 h nx L)
  (hbad:∀ e h' nx' X,e=subE G S n->e≠0->Hp h0 h' nx' (X++L)->K (.tup [.jk,.agg [.zf,.zf],I e]) h' nx'=.ok True)
  (hok:∀ (n':Nat) (u1 q1 u2 q2:List Sym) g o1 o2 h' nx' X,n=n'->sF G n'->sF S n'->subE G S n=0->(∀ c∈u1,c∈G)->u1.length<=G.length->CloS n' u1 q1->(∀ a,a∈q1↔a∈G)->(∀ c∈u2,c∈S)->u2.length<=S.length->CloS n' u2 q2->(∀ a,a∈q2↔a∈S)->(∀ a∈S,a∈G) ->
   Hp h0 h' nx' (.map g (wz q2)::.gro o2 2 u2.length (yL u2)::.gro o1 2 u1.length (yL u1)::(X++L))->K (.tup [.map g,.agg [jy o1 2 u1.length,jy o2 2 u2.length],I 0]) h' nx'=.ok True) :
  (CS Tryz.prog B).fn 120 p [jh G,jh S,I n] h nx K=.ok True:=by
 refine jG (p:=.of 120) (K:=K) (zR zT yu 10000000 fun hf => ?_) fun _ _ _ _ q=>q;rw [zk.go,zk.t40,zA,zk.fU];refine H.alloc fun b4 h1 nx1 H1 => ?_;rw [zk.t39,zA,zk.fV];refine H1.alloc fun b6 h2 nx2 H2 => ?_;rw [zk.t38,zA,zk.rP];refine zeg hG hw H2 (fun h3 nx3 hg H3 => ?_) fun n' u1 q1 g1 o1 h3 nx3 hn ok1 hg1 hu1 hul1 hC1 hnd1 hq1 H3 => ?_
 ·rw [yP,yS,yZ,zk.t37,zA,zk.t7,zA,zk.au,qx,decide_eq_false hg,Zad,zk.t6,zG,zk.v13,zD,zk.t5,zA,zk.t4_s,H3.zi (k:=0) (n:=2) rfl rfl];refine H3.qy (k:=1) (n:=2) rfl rfl rfl fun h4 H4 => ?_;rw [zB];simp only [yK,jM];rw [zk.ret,H4.zi (k:=1) (n:=2) rfl rfl];exact hbad _ _ _ [_,_] (by rw [subE,if_pos hg]) hg H4
 rw [yP,yS,yZ,zk.t37,zA,zk.t7,zA,zk.au,qx,decide_eq_true rfl,Zae,zk.t6,zG,zk.v13,zC,zO,zk.t36,zA,zk.aG];refine zeg hS hw2 H3 (fun h4 nx4 hg H4 => ?_) fun n2 u2 q2 g2 o2 h4 nx4 hn2 ok2 hg2 hu2 hul2 hC2 hnd2 hq2 H4 => ?_
 ·rw [yP,yS,yZ,zk.t35,zA,zk.t13,zA,zk.aQ,qx,decide_eq_false hg,Zad,zk.t12,zG,zk.v14,zD,zk.t11,zA,zk.eF,H4.zi (k:=2) (n:=2) rfl rfl];refine H4.qy (k:=3) (n:=2) rfl rfl rfl fun h5 H5 => ?_;rw [zB];simp only [yK,jM];rw [zk.ret,H5.zi (k:=3) (n:=2) rfl rfl];exact hbad _ _ _ [_,_,_,_] (by rw [subE,if_neg (by simp [hg1]),if_pos hg]) hg H5
 subst hn;obtain rfl:n'=n2:=by omega
 rw [yP,yS,yZ,zk.t35,zA,zk.t13,zA,zk.aQ,qx,decide_eq_true rfl,Zae,zk.t12,zG,zk.v14,zC,zO,zk.t34,zA,zk.t29,zA,zk.zah];refine H4.range (k:=0) rfl fun it h5 nx5 H5 => ?_;have hlen:(wz q2).length=q2.length:=by simp [wz]
 have hql:q2.length<=S.length:=lenG hnd2 fun a ha=>(hq2 a).1 ha;have zad:n'<=256:=ok1.n256;have hd1:∀ b∈q1,DS n' b:=fun b hb=>(ok1.dp b ((hq1 b).1 hb)).1;rw [zk.t28,zV]
 refine zk.ztx (fun m' h' nx'=>∃ seen:List Nat,(gQ q2.length seen).length=m'/\(∀ i∈seen,∀ a,q2[i]? = some a->a∈G) /\
  Hp h0 h' nx' (.iter it g2 (wz q2).length seen (wz q2).length::.map g2 (wz q2)::.gro o2 2 u2.length (yL u2)::.map g1 (wz q1)::.gro o1 2 u1.length (yL u1)::.arr b6 [.zf,.zf]::.arr b4 [.zf,.zf]::L)) (m:=q2.length) (by omega)
  ⟨[],by (have e:gQ q2.length []=List.range q2.length:=List.filter_eq_self.2 (by simp));rw [e];simp,by simp,H5⟩ ?_
 rintro m' z3 z5 z12 z16 z17 h6 nx6 R ⟨seen,rfl,hse,H6⟩ hR;rw [zk.t26,zA,zk.eG];refine H6.next (k:=0) (j:=1) rfl rfl (fun hall => ?_) fun i a b h7 hi hnin hab H7 => ?_
 ·have hsub:∀ a∈S,a∈G:=fun a ha=>by
   obtain ⟨i,hi⟩:=List.getElem?_of_mem ((hq2 a).2 ha);exact hse i (hall i (by rw [hlen];exact (List.getElem?_eq_some_iff.1 hi).1)) a hi
  rw [yP,zk.t25,zA,zk.t16,zG,zk.v16,zC,jB,jX,zk.t33,zA,zk.zlk,sAx0];refine H6.store (k:=5) rfl (by simp) (uD _ _ _) fun h7 H7 => ?_;rw [sAx1];refine H7.store (k:=5) rfl (by simp) (uD _ _ _) fun h8 H8 => ?_;rw [zk.t32,zA,zk.zam,H8.zi (k:=5) (n:=2) rfl rfl];refine H8.qy (k:=6) (n:=2) rfl rfl rfl fun h9 H9 => ?_;simp only [yK,jM];rw [zk.ret,H9.zi (k:=6) (n:=2) rfl rfl];refine hok n' u1 q1 u2 q2 g2 o1 o2 _ _ [_,_,_,_] rfl ok1 ok2 (by rw [subE,if_neg (by simp [hg1]),if_neg (by simp [hg2]),if_pos (List.all_eq_true.2 fun a ha=>decide_eq_true (hsub a ha))]) hu1 hul1 hC1 hq1 hu2 hul2 hC2 hq2 hsub (H9.perm (zwf _ _ _ _ _ _ _ _))
 ·have hi':i<q2.length:=by rw [<- hlen];exact hi
  have hx:q2[i]? = some q2[i]:=List.getElem?_eq_getElem hi';have hent:(wz q2)[i]? = some (.str (xq q2[i]),encS q2[i]):=by rw [wz,List.getElem?_map,hx];rfl
  rw [hent] at hab;cases hab
  rw [yP,zk.t25,zA,zk.t16,zG,zk.v16,zD,zO,zk.t24,zV,zk.t23,zA,zk.aO,H7.entry (k:=0) (j:=1) rfl rfl hent,yS];refine H7.alloc fun b5 h8 nx8 H8 => ?_;refine H8.qy (k:=0) (n:=2) rfl rfl rfl fun h9 H9 => ?_;rw [zk.t22,zA,zk.zen,H9.zi (k:=0) (n:=2) rfl rfl];have hd2:DS n' q2[i]:=(ok2.dp _ ((hq2 _).1 (Zan hi'))).1;refine zb4 (a:=q2[i]) zad hd2 hd1 H9 (k:=4) rfl ?_;rw [yG,zk.t21,zG,zk.v17];by_cases c:q2[i]∈q1
  ·rw [decide_eq_true c,Zae,zC,zO];refine hR _ _ _ _ _ _ _ _ (show (gQ q2.length (i::seen)).length<_ by have:=zbr hi' hnin;omega) ⟨i::seen,rfl,fun j hj a ha => ?_,H9.drop⟩;rcases List.mem_cons.1 hj with rfl | r
   ·rw [hx] at ha;cases ha;exact (hq1 _).1 c
   ·exact hse j r a ha
  ·rw [decide_eq_false c,Zad,zD,zk.t20,zA,zk.zal,H9.zi (k:=6) (n:=2) rfl rfl];refine H9.qy (k:=7) (n:=2) rfl rfl rfl fun h10 H10 => ?_;simp only [yK,zha,jM];rw [zk.ret,H10.zi (k:=7) (n:=2) rfl rfl];refine hbad 28 _ _ [_,_,_,_,_,_,_,_] ?_ (by decide) H10;rw [subE,if_neg (by simp [hg1]),if_neg (by simp [hg2]),if_neg];intro hall;have:=List.all_eq_true.1 hall q2[i] ((hq2 _).1 (Zan hi'));exact c ((hq1 _).2 (of_decide_eq_true this))
def zb0 (l:List Sym) (n:Int):Int:=if n<0\/256<n then 3 else if 256<l.length then 5 else j9 n l
def zi4 (l:List Sym) (n:Int) (v:AV):Prop:=if zb0 l n≠0 then v=.tup [.zf,I (zb0 l n)] else ∃ n':Nat,n=n'/\n'<=256/\(∀ a∈l,DP n' a) /\
 ((bH n' 1536 l/\v=.tup [.zf,I 20])\/∃ u q s,(∀ c∈u,c∈l)/\(∀ a∈l,a∈q)/\q.Nodup/\CloS n' u q/\q.length<=1536/\s.Perm q/\s.Pairwise (fun a b=>fC a b<=0)/\v=.tup [jh s,I 0])
abbrev fxP (a:Sym):AV×Sym:=(encI a.1,a)
theorem zej:∀ q:List Sym,(q.map fxP).map (·.2)=q
 | []=>rfl
 | a::q=>congrArg (a :: ·) (zej q)
theorem zqr (q:List Sym):∃ s:List Sym,s.Perm q/\s.Pairwise (fun a b=>fC a b<=0) :=
 ⟨(srtP (q.map fxP)).map (·.2),by have:=(mA (q.map fxP)).map (·.2);rw [zej] at this;exact this,List.pairwise_map.2 (zca _)⟩
theorem zqs (q:List Sym):aY (q.map fxP)=wz q:=by simp [aY,wz]
theorem zgd:∀ q:List Sym,jJ (q.map fxP)=yL q
 | []=>rfl
 | a::q=>by
  show encI a.1::.bool a.2::jJ (q.map fxP)=_;rw [zgd q];rfl
theorem xF {q:List Sym}:∀ v∈yL q,rU v=true:=fun v hv=>by
 obtain ⟨x,_,hx⟩:=List.mem_flatMap.1 hv;simp only [Zah,List.not_mem_nil,or_false] at hx;rcases hx with rfl | rfl
 ·exact vO _
 ·rfl
theorem zkh {l:List Sym} {n:Int} (hl:l.length<=100000) (hw:∀ g∈l,g.1.length<=100000):Pure Tryz.prog B 27 [jh l,I n] (zi4 l n):=by
 refine jF fun h nx K H0 hK=>zR zT yu 1000 fun hf' => ?_;rw [F27.go,F27.t27,zA,F27.fU,F27.t26,zA,F27.t7,zA,F27.fV]
 (refine zb3 n _ _ _ _ ?_;rintro _ rfl _)
 rw [zH,xk]
 (refine kW _ _ _ _ _ _ ?_;rintro _ rfl _)
 refine H0.zx (l:=[I (if n<0\/256<n then 3 else 0),I (if decide ((256:Int)<(l.length:Int))=true then 5 else 0)]) rfl fun tb h1 nx1 H1 => ?_;refine kG (l:=[if n<0\/256<n then 3 else 0,if decide ((256:Int)<(l.length:Int))=true then 5 else 0]) H1 (k:=0) rfl (fun B=>xY (by simp)) (fun v hv=>by rw [hv];exact .int _ _) ?_;rintro _ rfl;have fE:gU [if n<0\/256<n then (3:Int) else 0,if decide ((256:Int)<(l.length:Int))=true then 5 else 0]=if n<0\/256<n then 3 else if 256<l.length then 5 else 0:=by
  by_cases c1:n<0\/256<n
  ·rw [if_pos c1,if_pos c1];rfl
  rw [if_neg c1,if_neg c1];by_cases c2:256<l.length
  ·rw [decide_eq_true (show (256:Int)<(l.length:Int) by omega),if_pos c2];rfl
  ·rw [decide_eq_false (show ¬ (256:Int)<(l.length:Int) by omega),if_neg c2];rfl
 rw [fE,F27.t6,zA,F27.rP,qx,F27.t5,zG,F27.v8];have bad:∀ (e:Int) h' nx' L',Hp h h' nx' L'->e=zb0 l n->e≠0->K (.tup [.zf,I e]) h' nx'=.ok True:=fun e h' nx' L' H' he hne =>
  hK _ _ _ _ _ H' (kN (zN rfl) (zN rfl)) (by rw [zi4,<- he,if_pos hne])
 by_cases c1:(if n<0\/256<n then (3:Int) else if 256<l.length then 5 else 0)=0
 case neg =>
  rw [decide_eq_false c1,Zad,zD,F27.t4,zA,F27.au];simp only [yK,jM];rw [F27.ret];refine bad _ _ _ _ H1 ?_ c1;rw [zb0];split at c1
  ·rename_i q;rw [if_pos q,if_pos q]
  ·rename_i q;rw [if_neg q,if_neg q];split at c1
   ·rename_i q;rw [if_pos q,if_pos q]
   ·exact absurd rfl c1
 rw [decide_eq_true c1,Zae,zC,zO,F27.t25,zA,F27.t14,zA,F27.aG];obtain ⟨c2,c3⟩:¬ (n<0\/256<n)/\¬ 256<l.length:=by
  split at c1
  ·omega
  ·rename_i q;split at c1
   ·omega
   ·rename_i q2;exact ⟨q,q2⟩
 have e0:zb0 l n=j9 n l:=by rw [zb0,if_neg c2,if_neg c3]
 refine m4 hl hw _ _ _ _ ?_;rintro _ rfl _;rw [F27.t13,zA,F27.aQ,qx,F27.t12,zG,F27.v9];by_cases c4:j9 n l=0
 case neg =>
  rw [decide_eq_false c4,Zad,zD,F27.t11,zA,F27.eF];simp only [yK,jM];rw [F27.ret];exact bad _ _ _ _ H1 e0.symm c4
 rw [decide_eq_true c4,Zae,zC,zO,F27.t24,zA,F27.eG];obtain ⟨n',rfl⟩:∃ n':Nat,n=(n':Int):=⟨n.toNat,by omega⟩;have hdp:∀ g∈l,DP n' g:=fun g hg=>by
  obtain ⟨_,q2,q3⟩:=p9 (wZ c4 g hg);exact DP.of q3 (by omega)
 have zad:n'<=256:=by omega
 have good:∀ {v h' nx' L' v'},Hp h h' nx' L'->aA h h' v v'->((bH n' 1536 l/\v'=.tup [.zf,I 20])\/∃ u q s,(∀ c∈u,c∈l)/\(∀ a∈l,a∈q)/\q.Nodup/\CloS n' u q/\q.length<=1536/\s.Perm q/\s.Pairwise (fun a b=>fC a b<=0)/\v'=.tup [jh s,I 0])->K v h' nx'=.ok True:=fun H' hF hq =>
  hK _ _ _ _ _ H' hF (by rw [zi4,e0,if_neg (by simp [c4])];exact ⟨n',rfl,zad,hdp,hq⟩)
 refine zb5 (n:=n') (limit:=1536) zad (by omega) (by omega) (fun g hg=>(hdp g hg).1) (by omega) H1 (fun h16 nx16 hT H16 => ?_) fun u q g o h16 nx16 hu _ hin hqn hC hql H16 => ?_
 ·rw [yP,yS,yZ,F27.t23,zA,F27.t20,zA,F27.fZ,yG,Zad,F27.t19,zG,F27.v10,zD,F27.t18,zA,F27.aO];simp only [yK,jM];rw [F27.ret];exact good H16 (kN (zN rfl) (zN rfl)) (.inl ⟨hT,rfl⟩)
 rw [yP,yS,yZ,F27.t23,zA,F27.t20,zA,F27.fZ,yG,Zae,F27.t19,zG,F27.v10,zC,zO,F27.t22,zA,F27.zll];have hdq:∀ a∈q,DP n' a:=hC.dom (gB n') fun b hb=>hdp b (hu b hb);have hone:idS n'∈q:=hC.one;have hq0:0<q.length:=List.length_pos_of_mem hone;obtain ⟨s,hs1,hs2⟩:∃ s:List Sym,s.Perm q/\s.Pairwise (fun a b=>fC a b<=0):=by
  exact zqr q
 have hsm:=zej;have he:(Ob.map g (wz q))=.map g (aY (q.map fxP)):=by rw [zqs]
 rw [he] at H16;refine zjc (k:=0) (q:=q.map fxP) (s:=s.map fxP) H16 rfl (by simpa using hq0) (by simp;omega) (fun a ha => ?_) (by rw [hsm];exact hqn) (hs1.map _) (List.pairwise_map.2 hs2) fun o' h17 nx17 A H17 => ?_
 ·obtain ⟨b,hb,rfl⟩:=List.mem_map.1 ha;have:=(hdq b hb).1.1;exact ⟨.inl rfl,by show b.1.length<=_;omega⟩
 ·simp only [yK,jM];rw [F27.ret];rw [Zar,zgd] at H17;rw [Zar];refine good H17 (kN (H17.zbq (k:=0) rfl xF) (zN rfl)) (.inr ⟨u,q,s,hu,hin,hqn,hC,hql,hs1,hs2,rfl⟩)
end Go.Ev
namespace Go.Ev
theorem zcd {a b:Sym} (h:tC a b=true):tC b a=false:=by
 cases c:tC b a with
 | false=>rfl
 | true=>have:=zb6 h c;rw [qY] at this;cases this
def j4 (S:List Sym) (a:Sym):Bool:=S.all fun b => !tC (zP a b) a
def cosL (G S:List Sym):List Sym:=G.filter (j4 S)
def cosU (C S:List Sym):List Sym:=C.flatMap fun a=>S.map (zP a)
theorem zae {C S:List Sym} {x:Sym}:x∈cosU C S↔∃ a∈C,∃ b∈S,zP a b=x:=by
 simp [cosU]
section
variable {G S:List Sym} {n:Nat}
theorem sF.inv2 (hS:sF S n) {b:Sym} (hb:b∈S):∃ c∈S,∀ a,DP n a->zP (zP a b) c=a:=by
 obtain ⟨c,hc,e⟩:=hS.inv b hb;exact ⟨c,hc,fun a ha=>by rw [(gB n).assoc a b c ha (hS.dp b hb) (hS.dp c hc),e,(gB n).er a ha]⟩
theorem zce (hS:sF S n) {a x b:Sym} (ha:DP n a) (hb:b∈S) (e:zP a b=x):∃ c∈S,zP x c=a:=by
 obtain ⟨c,hc,q⟩:=hS.inv2 hb;exact ⟨c,hc,by rw [<- e];exact q a ha⟩
theorem zh5 (hS:sF S n) {a x b c:Sym} (ha:DP n a) (hb:b∈S) (hc:c∈S) (e:zP a b=x):zP x c=zP a (zP b c)/\zP b c∈S :=
 ⟨by rw [<- e,(gB n).assoc a b c ha (hS.dp b hb) (hS.dp c hc)],hS.cl b hb c hc⟩
theorem zh6 (hG:sF G n) {i j:Nat} {a b:Sym} (hi:G[i]? = some a) (hj:G[j]? = some b) (h:i<j):tC a b=true:=by
 obtain ⟨hi1,rfl⟩:=List.getElem?_eq_some_iff.1 hi;obtain ⟨hj1,rfl⟩:=List.getElem?_eq_some_iff.1 hj;exact List.pairwise_iff_getElem.1 (bB hG.ord) i j hi1 hj1 h
theorem zqu (hG:sF G n) {i j:Nat} {a b:Sym} (hi:G[i]? = some a) (hj:G[j]? = some b) (h:tC a b=true):i<j:=by
 rcases Nat.lt_trichotomy i j with q | rfl | q
 ·exact q
 ·rw [hi] at hj;cases hj;rw [qY] at h;cases h
 ·have:=zh6 hG hj hi q;rw [zcd this] at h;cases h
theorem zge (hG:sF G n) (hS:sF S n) (hs:∀ a∈S,a∈G) {i:Nat} {a:Sym} (hi:G[i]? = some a):∃ (j:Nat) (m:Sym),j<=i/\G[j]? = some m/\j4 S m=true/\(∃ b∈S,zP a b=m)/\∀ k x,G[k]? = some x->(∃ b∈S,zP a b=x)->j<=k:=by
  have haG:=Zaa hi;have hda:=hG.dp a haG;have hex:∃ (k:Nat) (x:Sym),G[k]? = some x/\∃ b∈S,zP a b=x:=⟨i,a,hi,idS n,hS.one,(gB n).er a hda⟩;have key:∀ N:Nat,(∃ (k:Nat) (x:Sym),k<=N/\G[k]? = some x/\∃ b∈S,zP a b=x)->∃ (j:Nat) (m:Sym),G[j]? = some m/\(∃ b∈S,zP a b=m)/\∀ (k:Nat) (x:Sym),G[k]? = some x->(∃ b∈S,zP a b=x)->j<=k:=by
    intro N
    induction N with
    | zero=>rintro ⟨k,x,hk,hx,hb⟩;obtain rfl:k=0:=by omega
            exact ⟨0,x,hx,hb,fun _ _ _ _=>Nat.zero_le _⟩
    | succ N ih =>
      rintro ⟨k,x,hk,hx,hb⟩;by_cases c:∃ (k:Nat) (x:Sym),k<=N/\G[k]? = some x/\∃ b∈S,zP a b=x
      · exact ih c
      · have hkN:k=N+1:=by
          rcases Nat.lt_or_ge k (N+1) with q | q
          · exact absurd ⟨k,x,by omega,hx,hb⟩ c
          · omega
        subst hkN;refine ⟨_,x,hx,hb,fun k' x' hk' hb' => ?_⟩;rcases Nat.lt_or_ge k' (N+1) with q | q
        · exact absurd ⟨k',x',by omega,hk',hb'⟩ c
        · exact q
  obtain ⟨k0,x0,h1,h2⟩:=hex;obtain ⟨j,m,hj,hm,hmin⟩:=key k0 ⟨k0,x0,Zaj _,h1,h2⟩;refine ⟨j,m,hmin i a hi ⟨idS n,hS.one,(gB n).er a hda⟩,hj,List.all_eq_true.2 fun b hb => ?_,hm,hmin⟩;obtain ⟨c,hc,e⟩:=hm;obtain ⟨e2,hcb⟩:=zh5 hS hda hc hb e;have hin:zP m b∈G:=hG.cl m (Zaa hj) b (hs b hb);obtain ⟨k,hk⟩:=List.getElem?_of_mem hin;have hle:=hmin k _ hk ⟨_,hcb,e2.symm⟩;cases q:tC (zP m b) m with
  | false=>rfl
  | true=>have:=zqu hG hk hj q;omega
theorem zh7 (hG:sF G n) (hS:sF S n) (hs:∀ a∈S,a∈G) {i:Nat} {a:Sym} (hi:G[i]? = some a):a∈cosU ((G.take i).filter (j4 S)) S↔j4 S a=false:=by
 rw [zae];have hda:=hG.dp a (Zaa hi);constructor
 ·rintro ⟨m,hm,b,hb,e⟩;obtain ⟨hm1,hm2⟩:=List.mem_filter.1 hm;obtain ⟨j,hj⟩:=List.getElem?_of_mem hm1;have hjl:=(List.getElem?_eq_some_iff.1 hj).1;rw [Zax] at hjl;rw [List.getElem?_take_of_lt (by omega)] at hj;have hlt:=zh6 hG hj hi (by omega);obtain ⟨c,hc,e2⟩:=zce hS (hG.dp m (Zaa hj)) hb e;cases q:j4 S a with
  | false=>rfl
  | true =>
   have:=List.all_eq_true.1 q c hc;rw [e2,hlt] at this;cases this
 ·intro hl;obtain ⟨j,m,hj1,hj,hm,⟨b,hb,e⟩,_⟩:=zge hG hS hs hi;have hne:j≠i:=by
   rintro rfl;rw [hi] at hj;cases hj;rw [hm] at hl;cases hl
  refine ⟨m,List.mem_filter.2 ⟨?_,hm⟩,zce hS hda hb e⟩;exact Zaa (i:=j) (by rw [List.getElem?_take_of_lt (by omega)];exact hj)
theorem zk0 (hG:sF G n) (hS:sF S n) {C:List Sym} (hC:∀ m∈C,m∈G) {a b:Sym} (ha:a∈G) (hb:b∈S) (hn:a∉cosU C S):zP a b∉cosU C S:=by
 intro h;obtain ⟨m,hm,c,hc,e⟩:=zae.1 h;obtain ⟨d,hd,q⟩:=hS.inv2 hb;have hdm:=hG.dp m (hC m hm);refine hn (zae.2 ⟨m,hm,zP c d,hS.cl c hc d hd,?_⟩);rw [<- (gB n).assoc m c d hdm (hS.dp c hc) (hS.dp d hd),e];exact q a (hG.dp a ha)
theorem zk1 (hS:sF S n) {a b c:Sym} (ha:DP n a) (hb:b∈S) (hc:c∈S) (e:zP a b=zP a c):b=c:=(gB n).cl a b c ha (hS.dp b hb) (hS.dp c hc) e
end
end Go.Ev
namespace Go.Ev
open Go Go.Proofs
variable {B:Nat}
set_option maxRecDepth 100000
theorem zcf (q:List Sym) (a:Sym):yL (q++[a])=yL q++[encI a.1,.bool a.2]:=by unfold yL;rw [Zbs];rfl
theorem zk2 {h0 h:T Blk} {nx p:Pa} {L:List Ob} {f:List Int} {K:Kw Prop} (hf:0<f.length) (hl:f.length<=1000) (H:Hp h0 h nx L)
  (hK:∀ id cap h' nx',pO f.length cap->Hp h0 h' nx' (.arr id (f.map I)::L)->K (.sl id 0 f.length cap 1) h' nx'=.ok True):(CS Tryz.prog B).fn 106 p [encI f] h nx K=.ok True:=by
 refine jG (p:=.of 106) (K:=K) (zR zT yu 9 fun hf => ?_) fun _ _ _ _ q=>q;cases f with
 | nil=>simp at hf
 | cons x t =>
  rw [ak.go];have e:∀ A C:OP,(zy .eql (.nil .sl) (encI (x::t)) .zf fun v1=>yC v1 A C)=C:=fun A C=>nr rfl;rw [e];exact H.zoc (new:=(x::t).map I) (c:=(x::t).length) (fun e h1 n1 H1=>zvx 1) (by simp) (List.all_eq_true.2 fun v hv=>by obtain ⟨z,_,rfl⟩:=List.mem_map.1 hv;rfl) (by decide) (by omega) hK
def zcg (L:List Ob) (p:AV×Sym):Prop:=∃ rid cap,p.1=.sl rid 0 p.2.1.length cap 1/\pO p.2.1.length cap/\Ob.arr rid (p.2.1.map I)∈L
theorem zcg.mono {L L':List Ob} {p:AV×Sym} (h:zcg L p) (hl:∀ x∈L,x∈L'):zcg L' p:=by
 obtain ⟨r,c,e,hc,m⟩:=h;exact ⟨r,c,e,hc,hl _ m⟩
theorem zqv {h0 h:T Blk} {nx:Pa} {L:List Ob} {id:Pa} {l:List Int} {cap:Option Nat} (H:Hp h0 h nx L) (hm:Ob.arr id (l.map I)∈L) (hc:pO l.length cap):Frz False (fun _=>True) (fun _=>False) h (.sl id 0 l.length cap 1) (encI l):=by
 obtain ⟨op,t,h1,h2⟩:=H.own _ hm;rw [Zar] at h1 h2;refine .sl _ _ _ _ _ op _ t _ trivial hc h1 (by omega) (by simp) (List.all_eq_true.2 fun v hv=>by obtain ⟨z,_,rfl⟩:=List.mem_map.1 hv;rfl) fun i v hi => ?_;have hil:i<l.length:=by have:=(List.getElem?_eq_some_iff.1 hi).1;simpa using this
 have:=zZ t 0 l.length i hil;rw [h2,hi] at this;rw [<- Option.some.inj this];obtain ⟨z,_,rfl⟩:=List.mem_map.1 (Zaa hi);exact .int _ _
theorem ztp {h0 h:T Blk} {nx:Pa} {L:List Ob} {k n:Nat} {o:Option Pa} {out:List (AV×Sym)} (H:Hp h0 h nx L) (hk:L[k]? = some (.gro o 2 n (jJ out))) (hr:∀ p∈out,zcg L p):Frz False (fun _=>True) (fun _=>False) h (jy o 2 n) (jh (out.map (·.2))):=by
 have own:=H.own _ (Zaa hk);have hlen:=qE out;cases o with
 | none =>
  obtain ⟨e,rfl⟩:=own;rw [e] at hlen;obtain rfl:out=[]:=Zaw (by simp at hlen;omega);exact .zbl 2
 | some id =>
  obtain ⟨t,h1,h2,h3⟩:=own;have hn:n=(out.map (·.2)).length:=by rw [Zar];omega
  subst hn;refine .sl _ _ _ _ _ true _ t _ trivial trivial h1 (by omega) (uZ _) (List.all_eq_true.2 fun v hv=>rU.jg (xF v hv)) fun i v hi => ?_;have hil:i<(out.map (·.2)).length*2:=by have:=(List.getElem?_eq_some_iff.1 hi).1;rwa [uZ] at this
  have:=zZ t 0 ((out.map (·.2)).length*2) i hil;rw [h3,wS] at this;rw [mP,List.getElem?_map] at hi;cases hq:out[i / 2]? with
  | none=>rw [hq] at hi;cases hi
  | some p =>
   rw [hq] at hi this;obtain ⟨rid,cap,e,hc,hm⟩:=hr p (Zaa hq);have hi:=Option.some.inj hi;have this:=Option.some.inj this;by_cases c:i%2=0
   ·simp only [if_pos c] at hi this;rw [<- this,<- hi,e];exact zqv H hm hc
   ·simp only [if_neg c] at hi this;rw [<- this,<- hi];exact .bool _
theorem zk3 {N:Pa->Prop} {O:AV->Prop} {A:Prop} {hh:T Blk} {a b a' b':AV} (h1:Frz A N O hh a a') (h2:Frz A N O hh b b'):Frz A N O hh (.tup [a,b]) (.tup [a',b']):=by
 refine .tup _ _ rfl fun i v v' hi hi' => ?_
 match i with
 | 0=>simp at hi hi';subst hi;subst hi';exact h1
 | 1=>simp at hi hi';subst hi;subst hi';exact h2
 | i+2=>simp at hi
theorem zki {G S:List Sym} {n:Int} (hG:G.length<=100000) (hw:∀ g∈G,g.1.length<=100000) (hS:S.length<=100000) (hw2:∀ g∈S,g.1.length<=100000) (hse0:subE G S n=0) (hn0:0<n):ziz Tryz.prog 39 [jh G,jh S,I n] (.tup [jh (cosL G S),I 0]):=by
 intro B K hK0;have hK:∀ v h' nx' L v',Hp .e h' nx' L->Frz False (fun _=>True) (fun _=>False) h' v v'->v'=.tup [jh (cosL G S),I 0]->K v h' nx'=.ok True:=fun v h' nx' L v' _ hF e=>hK0 _ _ _ (e ▸ hF);refine zR zT yu 10000000 fun hf' => ?_;have H0:Hp .e .e .z []:=Hp.init hf';rw [F39.go,F39.t37,zA,F39.fU];refine H0.box (l:=[jh S]) rfl fun b3 h1 nx1 H1 => ?_;rw [F39.t36,zA,F39.t7,zA,F39.fV,H1.load (k:=0) (i:=0) rfl rfl];refine mU hG hw hS hw2 H1 (fun e h2 nx2 X he hne H2 => ?_) fun n' u1 q1 u2 q2 g o1 o2 h2 nx2 X hn ok1 ok2 hse _ _ _ _ _ _ _ _ hsub H2 => ?_
 ·rw [yP,yS,yZ];refine H2.alloc fun b6 h3 nx3 H3 => ?_;refine H3.qy (k:=0) (n:=2) rfl rfl rfl fun h4 H4 => ?_;rw [hse0] at he;exact absurd he hne
 subst hn;have zad:=ok1.n256;have H2:Hp .e h2 nx2 [.arr b3 [jh S]]:=Hp.pre (_::_::_::X) H2;rw [yP,yS,yZ];refine H2.alloc fun b6 h3 nx3 H3 => ?_;refine H3.qy (k:=0) (n:=2) rfl rfl rfl fun h4 H4 => ?_;rw [F39.t6,zA,F39.rP,qx,decide_eq_true rfl,Zae,F39.t5,zG,F39.v12,zC,zO,F39.t35,zA,F39.aG];refine H4.rG fun gm h5 nx5 H5 => ?_;refine H5.alloc fun b7 h6 nx6 H6 => ?_;refine H6.store (k:=0) rfl (by simp) rfl fun h7 H7 => ?_;rw [F39.t34,zA,F39.aQ];refine H7.alloc fun b8 h8 nx8 H8 => ?_;rw [F39.t33,zA,F39.t30,zA,F39.eF];refine zee _ _ _ _ ?_;rintro _ rfl _;rw [F39.t29,zV,F39.t28];have H9:=H8.eY 2;have T:∃ T:List Ob,T=[.arr b6 [jy o1 2 u1.length,jy o2 2 u2.length],.arr b3 [jh S]]:=⟨_,rfl⟩;obtain ⟨T,hT⟩:=T;have hout:∀ i,((G.take i).filter (j4 S)).length<=G.length:=fun i=>by
  have:=Zcf (j4 S) (G.take i);rw [Zax] at this;omega
 refine zry H9 F39.zt1 (fun v w k=>F39.zt2 k) (by omega)
  (fun i L'=>∃ (o:Option Pa) (out:List (AV×Sym)) (rows:List Ob),out.map (·.2)=(G.take i).filter (j4 S)/\(∀ p∈out,zcg rows p)/\L'=.gro o 2 out.length (jJ out)::.arr b8 [jy o 2 out.length]::.arr b7 [.map gm]::.map gm (wz (cosU ((G.take i).filter (j4 S)) S))::(T++rows))
  (fun _=>False) (fun _ _=>False) ⟨none,[],[],by simp,by simp,by subst hT;rfl⟩
  (fun i x Rb Rb' h10 nx10 L' M E O1 O2 hx hJ H10 hM hE hR hX => ?_) (fun h10 nx10 L' hJ H10 => ?_) (fun _ _ _ hX _=>hX.elim) (fun _ _ _ _ hX _=>hX.elim)
 case refine_2 =>
  obtain ⟨o,out,rows,ho,hr,rfl⟩:=hJ;rw [Zam (Zaj _)] at H10 ho;rw [F39.t32,zA,F39.zam,H10.load (k:=1) (i:=0) rfl rfl];simp only [yK,jM];rw [F39.ret];refine hK _ _ _ _ (.tup [jh (cosL G S),I 0]) H10 (zk3 ?_ (.int _ _)) rfl;have:=ztp (k:=0) H10 rfl fun p hp=>(hr p hp).mono fun x hx=>by simp [hx]
  rw [ho] at this;exact this
 obtain ⟨o,out,rows,ho,hr,rfl⟩:=hJ;have hol:out.length=((G.take i).filter (j4 S)).length:=by rw [<- ho,Zar]
 have hxm:=Zaa hx;have hdx:=ok1.dp x hxm;have htake:G.take (i+1)=G.take i++[x]:=by rw [Zal,hx];rfl
 have hCm:∀ m∈(G.take i).filter (j4 S),m∈G:=fun m hm=>Zby (List.mem_filter.1 hm).1;have hks:∀ b∈cosU ((G.take i).filter (j4 S)) S,DS n' b:=fun b hb=>by
  obtain ⟨m,hm,c,hc,rfl⟩:=zae.1 hb;exact (ok1.dp _ (ok1.cl m (hCm m hm) c (hsub c hc))).1
 rw [F39.tJ];refine H10.alloc fun b9 h11 nx11 H11 => ?_;refine H11.qy (k:=0) (n:=2) rfl rfl rfl fun h12 H12 => ?_;refine hM _ _ _ [_] H12 fun h13 H13 => ?_;rw [F39.t27,zV,F39.t26,zA,F39.t14,zA,F39.zan,H13.load (k:=4) (i:=0) rfl rfl,H13.zi (k:=0) (n:=2) rfl rfl];refine zb4 (a:=x) zad hdx.1 hks H13 (k:=5) rfl ?_;rw [F39.t13,zG,F39.v16];have zr0:=zh7 ok1 ok2 hsub hx;by_cases c:x∈cosU ((G.take i).filter (j4 S)) S
 ·rw [decide_eq_true c,zD,jB,jX];have hfl:(G.take (i+1)).filter (j4 S)=(G.take i).filter (j4 S):=by
   rw [htake,List.filter_append,List.filter_cons_of_neg (by rw [zr0.1 c];decide)];simp
  exact hE _ _ _ [_] _ ⟨o,out,rows,by rw [hfl];exact ho,hr,by rw [hfl]⟩ H13
 have hlx:j4 S x=true:=by
  cases q:j4 S x with
  | true=>rfl
  | false=>exact absurd (zr0.2 q) c
 have hfl:(G.take (i+1)).filter (j4 S)=(G.take i).filter (j4 S)++[x]:=by
  rw [htake,List.filter_append,List.filter_cons_of_pos hlx];rfl
 rw [decide_eq_false c,zC,zO,F39.t25,zA,F39.t23,zA,F39.eG];subst hT;rw [H13.load (k:=7) (i:=0) rfl rfl];refine zee _ _ _ _ ?_;rintro _ rfl _;rw [F39.t22,zV,F39.t21]
 refine zry H13 F39.zty (fun v w k=>F39.ztz k) (by omega)
  (fun k L'=>L'=.arr b9 [encI x.1,.bool x.2]::Rb'::.gro o 2 out.length (jJ out)::.arr b8 [jy o 2 out.length]::.arr b7 [.map gm]::.map gm (wz (cosU ((G.take i).filter (j4 S)) S++(S.take k).map (zP x)))::([.arr b6 [jy o1 2 u1.length,jy o2 2 u2.length],.arr b3 [jh S]]++rows))
  (fun _=>False) (fun _ _=>False) (by simp)
  (fun k y Sb Sb' h14 nx14 L' M' E' O1' O2' hy hJ H14 hM' hE' hR' hX' => ?_) (fun h14 nx14 L' hJ H14 => ?_) (fun _ _ _ hX _=>hX.elim) (fun _ _ _ _ hX _=>hX.elim)
 ·subst hJ;have hym:=Zaa hy;have hdy:=ok2.dp y hym;have htk:S.take (k+1)=S.take k++[y]:=by rw [Zal,hy];rfl
  have hxy:DS n' (zP x y):=(ok1.dp _ (ok1.cl x hxm y (hsub y hym))).1;rw [F39.fZ];refine H14.alloc fun b10 h15 nx15 H15 => ?_;refine H15.qy (k:=0) (n:=2) rfl rfl rfl fun h16 H16 => ?_;refine hM' _ _ _ [_] H16 fun h17 H17 => ?_;rw [F39.t20,zV,F39.t19,zA,F39.aO,H17.zi (k:=2) (n:=2) rfl rfl,H17.zi (k:=0) (n:=2) rfl rfl];refine pV (a:=x) (b:=y) (fun z hz=>by rw [hdx.1.1];exact hdy.1.2 z hz) (by rw [hdy.1.1];omega) _ _ _ _ ?_;rintro _ rfl _;refine H17.alloc fun b11 h18 nx18 H18 => ?_;refine H18.qy (k:=0) (n:=2) rfl rfl rfl fun h19 H19 => ?_;rw [F39.zen,H19.load (k:=7) (i:=0) rfl rfl,H19.zi (k:=0) (n:=2) rfl rfl,H19.zi (k:=0) (n:=2) rfl rfl];refine dI (a:=zP x y) (fun z hz=>by have:=hxy.2 z hz;omega) (by rw [hxy.1];omega) _ _ _ _ ?_;rintro _ rfl _;rw [H19.zi (k:=0) (n:=2) rfl rfl,zB,H19.load (k:=7) (i:=0) rfl rfl,zB];refine H19.putS (a:=zP x y) zad hxy (fun b hb => ?_) (fun hin => ?_) (k:=8) rfl fun h20 H20 => ?_
  ·rcases List.mem_append.1 hb with q | q
   ·exact hks b q
   ·obtain ⟨z,hz,rfl⟩:=List.mem_map.1 q;exact (ok1.dp _ (ok1.cl x hxm z (hsub z (Zby hz)))).1
  ·rcases List.mem_append.1 hin with q | q
   ·exact zk0 ok1 ok2 hCm hxm hym c q
   ·obtain ⟨z,hz,e⟩:=List.mem_map.1 q;have:=zk1 ok2 hdx (Zby hz) hym e;subst this;obtain ⟨j,hj⟩:=List.getElem?_of_mem hz;have hjl:=(List.getElem?_eq_some_iff.1 hj).1;rw [Zax] at hjl;rw [List.getElem?_take_of_lt (by omega)] at hj;have:=zh6 ok2 hj hy (by omega);rw [qY] at this;cases this
  ·refine hE' _ _ _ [_,_] _ ?_ H20;rw [htk,Zbv,<- Zbe]
   rfl
 ·subst hJ;rw [Zam (Zaj _)] at H14;rw [F39.zt0,H14.load (k:=3) (i:=0) rfl rfl,sFx,H14.load (k:=0) (i:=0+0) rfl rfl,sFx,H14.load (k:=0) (i:=0+1) rfl rfl];refine zk2 (f:=x.1) (by rw [hdx.1.1];omega) (by rw [hdx.1.1];omega) H14 fun rid cap h15 nx15 hcap H15 => ?_;rw [H15.load (k:=1) (i:=0+1) rfl rfl,zB,sFx,zB,H15.load (k:=4) (i:=0) rfl rfl,zB,dV rfl rfl];refine H15.zx (l:=[.sl rid 0 x.1.length cap 1,.bool x.2]) rfl fun tb h16 nx16 H16 => ?_;rw [H16.load (k:=5) (i:=0) rfl rfl,zB,tH];refine H16.appN (k:=4) (o:=o) (c:=1) (esz:=2) (new:=[.sl rid 0 x.1.length cap 1,.bool x.2]) rfl (jd.rd (l:=[.sl rid 0 x.1.length cap 1,.bool x.2]) (n:=1) (e:=2) (H16.own _ (Zai ..)) rfl) rfl rfl (by decide) (by decide) (by have:=hout i;omega) fun o'' h17 nx17 _ H17 => ?_;refine H17.store (k:=5) rfl (by simp) (uD _ _ _) fun h18 H18 => ?_;have hp:Hp .e h18 nx17 ([.arr tb [.sl rid 0 x.1.length cap 1,.bool x.2],.arr b9 [encI x.1,.bool x.2]]++Rb'::(.gro o'' 2 (out.length+1) (jJ out++[.sl rid 0 x.1.length cap 1,.bool x.2])::.arr b8 [jy o'' 2 (out.length+1)]::.arr b7 [.map gm]::.map gm (wz (cosU ((G.take i).filter (j4 S)) S++S.map (zP x)))::([.arr b6 [jy o1 2 u1.length,jy o2 2 u2.length],.arr b3 [jh S]]++(.arr rid (x.1.map I)::rows)))):=by
   refine H18.perm ?_;show List.Perm (_::_::_::_::_::_::_::_::_::_::rows) (_::_::_::_::_::_::_::_::_::_::rows);exact .cons _ (Zbo (l₁:=[_,_,_,_,_,_,_,_]) (a:=Ob.arr rid (x.1.map I)) (l₂:=rows)).symm
  refine hE _ _ _ [_,_] _ ⟨o'',out++[(.sl rid 0 x.1.length cap 1,x)],.arr rid (x.1.map I)::rows,?_,?_,?_⟩ hp
  ·rw [Zbv,ho,hfl];rfl
  ·intro p hp;rcases List.mem_append.1 hp with q | q
   ·exact (hr p q).mono fun z hz=>Zak _ hz
   ·obtain rfl:=List.mem_singleton.1 q;exact ⟨rid,cap,rfl,hcap,Zai ..⟩
  ·rw [hfl];have e1:cosU ((G.take i).filter (j4 S)++[x]) S=cosU ((G.take i).filter (j4 S)) S++S.map (zP x):=by simp [cosU]
   have e2:jJ (out++[(.sl rid 0 x.1.length cap 1,x)])=jJ out++[.sl rid 0 x.1.length cap 1,.bool x.2]:=by unfold jJ;rw [Zbs];rfl
   rw [e1,e2,Zat]
   subst_vars
   rfl
end Go.Ev
namespace Go.Ev
theorem zdb {α:Type} [DecidableEq α]:∀ (l r:List α),l.Nodup->(∀ x∈l,x∈r)->∃ s,r.Perm (l++s)
 | [],r,_,_=>⟨r,.refl _⟩
 | a::l,r,hn,hs=>by
  obtain ⟨h1,h2⟩:=List.nodup_cons.1 hn;have ha:=hs a (by simp);obtain ⟨s,hp⟩:=zdb l (r.erase a) h2 fun x hx=>(List.mem_erase_of_ne (by rintro rfl;exact h1 hx)).2 (hs x (by simp [hx]));exact ⟨s,(List.perm_cons_erase ha).trans (.cons a hp)⟩
theorem zgf {α:Type} [DecidableEq α] {l r:List α} (h1:l.Nodup) (h2:∀ x∈l,x∈r) (h3:r.length<=l.length):r.Perm l:=by
 obtain ⟨s,hs⟩:=zdb l r h1 h2;have hl:=hs.length_eq;obtain rfl:s=[]:=Zaw (by rw [Zat] at hl;omega);simpa using hs
theorem zk4 {α:Type} {l:List α} (h:l.Nodup) {i j:Nat} {x:α} (hi:l[i]? = some x) (hj:l[j]? = some x):i=j:=by
 obtain ⟨a1,a2⟩:=List.getElem?_eq_some_iff.1 hi;obtain ⟨b1,b2⟩:=List.getElem?_eq_some_iff.1 hj;have hp:=List.pairwise_iff_getElem.1 h;rcases Nat.lt_trichotomy i j with c | c | c
 ·exact absurd (a2.trans b2.symm) (hp i j a1 b1 c)
 ·exact c
 ·exact absurd (b2.trans a2.symm) (hp j i b1 a1 c)
theorem getD_some {l:List Int} {i:Nat} (h:i<l.length):l[i]? = some (l.getD i 0):=by
 rw [Zac,List.getElem?_eq_getElem h];rfl
theorem rX.surj {g:List Int} (h:rX g) {j:Nat} (hj:j<g.length):∃ i,i<g.length/\g[i]? = some (j:Int):=by
 have hp:((List.range g.length).map fun (i:Nat)=>(i:Int)).Perm g:=zgf h.1 (fun x hx=>by
  have:=h.2 x hx;exact List.mem_map.2 ⟨x.toNat,List.mem_range.2 (by omega),by omega⟩) (by simp)
 have hm:(j:Int)∈g:=hp.mem_iff.1 (List.mem_map.2 ⟨j,List.mem_range.2 hj,rfl⟩);obtain ⟨i,hi⟩:=List.mem_iff_getElem?.1 hm;exact ⟨i,(List.getElem?_eq_some_iff.1 hi).1,hi⟩
theorem zch {n:Nat} {c:Bool} {g f:List Int} (hg:rX g) (hgn:g.length=n):∀ (i k:Nat),i<=n->k<i->(kU n c g f i)[(g.getD k 0).toNat]? = some (xOf n c (f.getD k 0))
 | 0,k,_,h=>by omega
 | i+1,k,hi,h=>by
  rw [vD];have hk:=hg.2 _ (Zaa (getD_some (l:=g) (i:=k) (by omega)));have hi':=hg.2 _ (Zaa (getD_some (l:=g) (i:=i) (by omega)));by_cases e:k=i
  ·subst e;rw [List.getElem?_set,if_pos rfl,if_pos (by rw [uS];omega)]
  ·rw [List.getElem?_set_ne,zch hg hgn i k (by omega) (by omega)];intro q;have e1:g.getD i 0=g.getD k 0:=by omega
   have:=zk4 hg.1 (getD_some (l:=g) (i:=i) (by omega)) (e1 ▸ getD_some (l:=g) (i:=k) (by omega));omega
theorem zh8 {c:Bool} {g f:List Int} (hg:rX g) (hgn:g.length=f.length) {k:Nat} (h:k<f.length):(zb1 c g f)[(g.getD k 0).toNat]? = some (xOf f.length c (f.getD k 0)):=zch hg hgn _ k (Zaj _) h
theorem zk5 (c:Bool) (g f:List Int):(zb1 c g f).length=f.length:=uS _ _ _ _ _
theorem DP.surj {n:Nat} {a:Sym} (ha:DP n a) {j:Nat} (hj:j<n):∃ i,i<n/\a.1.getD i 0=(j:Int):=by
 have h1:=ha.1.1;obtain ⟨i,hi,e⟩:=ha.perm.surj (show j<a.1.length by omega);exact ⟨i,by omega,by rw [Zac,e];rfl⟩
def idL (n:Nat):List Int:=(List.range n).map fun j:Nat=>(j:Int)
theorem bC (n:Nat):(idL n).length=n:=by simp [idL]
theorem zjd {n i:Nat} (h:i<n):(idL n).getD i 0=(i:Int):=by
 rw [idL,Zac,List.getElem?_map,List.getElem?_range h];rfl
def invS (a:Sym):Sym:=(zb1 false a.1 (idL a.1.length),a.2)
theorem zje {n:Nat} {a:Sym} (ha:DP n a) {k:Nat} (hk:k<n):(invS a).1[(a.1.getD k 0).toNat]? = some (k:Int):=by
 have h1:=ha.1.1;have:=zh8 (c:=false) ha.perm (f:=idL a.1.length) (by rw [bC]) (k:=k) (by rw [bC];omega);rw [zjd (by omega)] at this;exact this
theorem xV {n:Nat} {a:Sym} (ha:DP n a):DP n (invS a):=by
 have h1:=ha.1.1;have hl:(invS a).1.length=n:=by show (zb1 _ _ _).length=n;rw [zk5,bC,h1]
 have hv:∀ j,j<n->∃ i,i<n/\a.1.getD i 0=(j:Int)/\(invS a).1[j]? = some (i:Int):=fun j hj=>by
  obtain ⟨i,hi,e⟩:=ha.surj hj;have:=zje ha hi;rw [e,Int.toNat_natCast] at this;exact ⟨i,hi,e,this⟩
 refine ⟨⟨hl,fun x hx => ?_⟩,?_⟩
 ·obtain ⟨j,hj⟩:=List.getElem?_of_mem hx;obtain ⟨i,hi,_,e⟩:=hv j (by rw [<- hl];exact (List.getElem?_eq_some_iff.1 hj).1);rw [hj] at e;cases e;omega
 ·rw [List.Nodup,Zbr];intro i j hi hj hij e;obtain ⟨a1,_,b1,c1⟩:=hv i (by omega);obtain ⟨a2,_,b2,c2⟩:=hv j (by omega);rw [List.getElem?_eq_getElem hi] at c1;rw [List.getElem?_eq_getElem hj] at c2;have e1:=Option.some.inj c1;have e2:=Option.some.inj c2;have:a1=a2:=by omega
  subst this;rw [b1] at b2;omega
theorem zjf {n:Nat} {a:Sym} (ha:DP n a):zP (invS a) a=idS n:=by
 refine Prod.ext (vQ (n:=n) (by show (xM _ _).length=n;rw [uM,ha.1.1]) (by simp [idS]) fun i hi => ?_) (by show (a.2 != a.2)=false;cases a.2 <;> rfl);rw [u4 ha.1 hi,Zac (l:=(invS a).1),zje ha hi];show some (i:Int)=((List.range n).map fun j:Nat=>(j:Int))[i]?;rw [List.getElem?_map,List.getElem?_range hi];rfl
theorem zol {n:Nat} {a:Sym} (ha:DP n a):zP a (invS a)=idS n:=by
 have L:=gB n;have hb:=xV ha;have hc:=xV hb;have e1:=zjf ha;have e2:=zjf hb;have:a=invS (invS a):=by
  have q:=L.assoc (invS (invS a)) (invS a) a hc hb ha;rw [e2,e1,L.el a ha,L.er _ hc] at q;exact q
 rw [show zP a (invS a)=zP (invS (invS a)) (invS a) by rw [<- this]];exact e2
theorem zgg {n:Nat} {a b:Sym} (ha:DP n a) (hb:DP n b) (h:zP a b=idS n):b=invS a:=by
 have L:=gB n;have hi:=xV ha;have q:=L.assoc (invS a) a b hi ha hb;rw [zjf ha,h,L.el b hb,L.er _ hi] at q;exact q
def conj (a b:Sym):Sym:=zP (zP a b) (invS a)
theorem zom {n:Nat} {a b c:Sym} (ha:DP n a) (hb:DP n b) (hc:DP n c):conj a (zP b c)=zP (conj a b) (conj a c):=by
 have L:=gB n;have hi:=xV ha;have hab:=L.dm a b ha hb;have hac:=L.dm a c ha hc;have hci:=L.dm _ _ hac hi;unfold conj;rw [L.assoc (zP a b) (invS a) (zP (zP a c) (invS a)) hab hi hci,<- L.assoc (invS a) (zP a c) (invS a) hi hac hi,<- L.assoc (invS a) a c hi ha hc,zjf ha,L.el c hc,<- L.assoc (zP a b) c (invS a) hab hc hi,L.assoc a b c ha hb hc]
theorem zk6 {n:Nat} {a b c:Sym} (ha:DP n a) (hb:DP n b) (hc:DP n c):conj (zP a b) c=conj a (conj b c):=by
 have L:=gB n;have hia:=xV ha;have hib:=xV hb;have hab:=L.dm a b ha hb;have e:invS (zP a b)=zP (invS b) (invS a):=by
  refine (zgg hab (L.dm _ _ hib hia) ?_).symm;rw [L.assoc a b _ ha hb (L.dm _ _ hib hia),<- L.assoc b (invS b) (invS a) hb hib hia,zol hb,L.el _ hia,zol ha]
 have hbc:=L.dm b c hb hc;unfold conj;rw [e,L.assoc a b c ha hb hc,<- L.assoc (zP a (zP b c)) (invS b) (invS a) (L.dm _ _ ha hbc) hib hia,L.assoc a (zP b c) (invS b) ha hbc hib]
theorem zqw {n:Nat} {a b:Sym} (ha:DP n a) (hb:DP n b):DP n (conj a b):=(gB n).dm _ _ ((gB n).dm _ _ ha hb) (xV ha)
def zi5 (G S:List Sym):Bool:=G.all fun a=>S.all fun b=>decide (conj a b∈S)
theorem zk7 {G S u1 q1 u2 q2:List Sym} {n:Nat} (hG:sF G n) (hS:sF S n) (hu1:∀ c∈u1,c∈G) (h1:CloS n u1 q1) (hq1:∀ a,a∈q1↔a∈G) (hu2:∀ c∈u2,c∈S) (h2:CloS n u2 q2) (hq2:∀ a,a∈q2↔a∈S) :
  (u1.all fun a=>u2.all fun b=>decide (conj a b∈S))=zi5 G S:=by
 rw [Zbu];simp only [zi5,Zaf,decide_eq_true_eq];have L:=gB n;constructor
 ·intro h;have k1:∀ a∈u1,∀ b∈S,conj a b∈S:=fun a ha b hb=>by
   have da:=hG.dp a (hu1 a ha)
   have:=h2.ind (fun b=>DP n b/\conj a b∈S) ⟨L.de,by unfold conj;rw [L.er a da,zol da];exact hS.one⟩ (fun x hx c hc=>by
    have dc:=hS.dp c (hu2 c hc);exact ⟨L.dm _ _ dc hx.1,by rw [zom da dc hx.1];exact hS.cl _ (h a ha c hc) _ hx.2⟩) b ((hq2 b).2 hb)
   exact this.2
  intro a ha
  have:=h1.ind (fun a=>DP n a/\∀ b∈S,conj a b∈S) ⟨L.de,fun b hb=>by
   have e:invS (idS n)=idS n:=(zgg L.de L.de (L.el _ L.de)).symm;unfold conj
   rw [e,L.er _ (L.dm _ _ L.de (hS.dp b hb)),L.el b (hS.dp b hb)];exact hb⟩ (fun x hx c hc=>by
    have dc:=hG.dp c (hu1 c hc);exact ⟨L.dm _ _ dc hx.1,fun b hb=>by rw [zk6 dc hx.1 (hS.dp b hb)];exact k1 c hc _ (hx.2 b hb)⟩) a ((hq1 a).2 ha)
  exact this.2
 ·intro h a ha b hb;exact h a (hu1 a ha) b (hu2 b hb)
end Go.Ev
namespace Go.Ev
open Go Go.Proofs
variable {B:Nat}
set_option maxRecDepth 100000
theorem ztq {a:Sym} {n:Nat} (ha:DP n a) (hn:n<=1000):Pure Tryz.prog B 124 [encS a] (· = encS (invS a)):=by
 have hl:=ha.1.1;refine jF fun h nx K H0 hK=>zR zT yu 10000 fun hf' => ?_;rw [yj.go,yj.t20,zA,yj.fU];refine H0.box (l:=[encI a.1,.bool a.2]) rfl fun b1 h1 nx1 H1 => ?_;refine H1.alloc fun b2 h2 nx2 H2 => ?_;have ld0:∀ {hh nn L'} (HH:Hp h hh nn (L'++[.arr b2 [.zf,.bool false],.arr b1 [encI a.1,.bool a.2]])) (op:AV->OP),zE (.ptr b1 (0+0)) hh op=op (encI a.1):=fun {hh nn L'} HH op=>HH.load (k:=L'.length+1) (i:=0) (l:=[encI a.1,.bool a.2]) (by rw [List.getElem?_append_right (by omega)];simp) rfl;have ld1:∀ {hh nn L'} (HH:Hp h hh nn (L'++[.arr b2 [.zf,.bool false],.arr b1 [encI a.1,.bool a.2]])) (op:AV->OP),zE (.ptr b1 (0+1)) hh op=op (.bool a.2):=fun {hh nn L'} HH op=>HH.load (k:=L'.length+1) (i:=1) (l:=[encI a.1,.bool a.2]) (by rw [List.getElem?_append_right (by omega)];simp) rfl;have mk:mkSl 8 (I (a.1.length:Int)) (I (a.1.length:Int))=true:=by
  show (Nat.ble a.1.length a.1.length&&Nat.ble a.1.length 1000000&&Nat.ble (8*a.1.length) 281474976710656)=true;rw [Zab (Zaj _),Zab (by omega),Zab (by omega)];rfl
 rw [yj.t19,zA,yj.fV];simp only [Bool.and_self,yN,sFx];rw [ld0 (L':=[]) H2,zH,mk];simp only [Bool.and_self,yN];rw [ld1 (L':=[]) H2];refine H2.mk1 a.1.length rfl rfl (by omega) (by decide) fun tb h3 nx3 H3 => ?_;rw [ld1 (L':=[_]) H3];simp only [zB,zH];rw [ld0 (L':=[_]) H3]
 try simp only [zB]
 rw [dV rfl rfl];refine H3.alloc fun b3 h4 nx4 H4 => ?_;rw [dV rfl rfl]
 try simp only [zB]
 rw [ld1 (L':=[_,_]) H4]
 try simp only [zB,zH]
 rw [ld0 (L':=[_,_]) H4]
 try simp only [zB]
 refine H4.qy (k:=0) (n:=2) rfl rfl rfl fun h5 H5 => ?_;rw [yj.t18,zA,yj.t15,zA,yj.rP,sFx,ld0 (L':=[_,_]) H5,zH];have e0:List.replicate a.1.length (I 0)=(kU a.1.length false a.1 (idL a.1.length) 0).map I:=by simp [kU]
 rw [e0] at H5;rw [yj.t14,zV]
 refine yj.zeo (fun m x8 h' nx'=>∃ i:Nat,x8=I i/\m=a.1.length-i/\i<=a.1.length/\Hp h h' nx' [.arr b3 [.sl tb 0 a.1.length (some a.1.length) 1,.bool a.2],.arr tb ((kU a.1.length false a.1 (idL a.1.length) i).map I),.arr b2 [.zf,.bool false],.arr b1 [encI a.1,.bool a.2]]) (m:=a.1.length) (by omega)
  ⟨0,rfl,by omega,by omega,H5⟩ ?_
 rintro m z4 z5 z8 z9 h6 nx6 R ⟨i,rfl,rfl,hi,H6⟩ hR;rw [yj.t12,zA,yj.au,uf];by_cases hlt:i<a.1.length
 case neg =>
  rw [decide_eq_false (by omega),yj.t11,zA,yj.t4,zG,yj.v9,zC,jB,jX,yj.t17,zA,yj.fZ,H6.zi (k:=0) (n:=2) rfl rfl];refine H6.qy (k:=2) (n:=2) rfl rfl rfl fun h7 H7 => ?_;simp only [yK,jM];rw [yj.ret,H7.zi (k:=2) (n:=2) rfl rfl];obtain rfl:i=a.1.length:=by omega
  have hal:=uS a.1.length false a.1 (idL a.1.length) a.1.length;have e:invS a=(kU a.1.length false a.1 (idL a.1.length) a.1.length,a.2):=by
   unfold invS zb1;rw [bC]
  refine hK _ _ _ _ (encS (invS a)) H7 (pD ?_ (zN rfl) rfl) rfl;rw [e];have:=H7.zd6 (k:=1) (e:=1) (n:=a.1.length) (cap:=some a.1.length) rfl (Zaj _) (by simp [hal]) zv9;show aA h h7 _ (AV.lst 1 (kU _ _ _ _ _).length _);rw [hal];exact this
 rw [decide_eq_true (by omega),yj.t11,zA,yj.t4,zG,yj.v9,zD,zO];have hx:a.1[i]? = some a.1[i]:=List.getElem?_eq_getElem hlt;have hgb:=ha.perm.2 _ (Zan hlt);have hgd:a.1.getD i 0=a.1[i]:=by rw [Zac,hx];rfl
 rw [yj.t10,zA,yj.t8,zV,yj.t7,zA,yj.t5_s,bQ rfl hlt,ldL (su hx),yj.oW,sFx,H6.load (k:=0) (i:=0+0) rfl rfl,sIx (i:=(a.1[i]).toNat) (by omega) (by omega)];refine H6.store (k:=1) rfl (by rw [Zar,uS];omega) rfl fun h7 H7 => ?_;rw [yj.aQ,qc (by omega)];refine hR _ _ _ _ _ _ _ (by omega) ⟨i+1,rfl,rfl,by omega,H7.cast ?_⟩;rw [vD,hgd,zjd hlt];simp [List.map_set,xOf]
def nrmV (G S:List Sym) (n:Int):AV:=if subE G S n≠0 then .tup [.bool false,I (subE G S n)] else .tup [.bool (zi5 G S),I 0]
theorem uT {α:Type} {l:List α} {p:α->Bool} {i:Nat} {x:α} (hx:l[i]? = some x) (h:(l.take i).all p=true) (hp:p x=true):(l.take (i+1)).all p=true:=by
 rw [Zal,hx,List.all_append,h];simp [hp]
theorem pT {α:Type} {l:List α} {p:α->Bool} (h:(l.take l.length).all p=true):l.all p=true:=by rwa [Zam (Zaj _)] at h
theorem zht {G S:List Sym} {n:Int} (hG:G.length<=100000) (hw:∀ g∈G,g.1.length<=100000) (hS:S.length<=100000) (hw2:∀ g∈S,g.1.length<=100000):Pure Tryz.prog B 40 [jh G,jh S,I n] (· = nrmV G S n):=by
 refine jF fun h nx K H0 hK=>zR zT yu 10000000 fun hf' => ?_;rw [F40.go,F40.t43,zA,F40.fU,F40.t42,zA,F40.fV];refine mU hG hw hS hw2 H0 (fun e h2 nx2 X he hne H2 => ?_) fun n' u1 q1 u2 q2 g o1 o2 h2 nx2 X hn ok1 ok2 hse hu1 hul1 hC1 hq1 hu2 hul2 hC2 hq2 hsub H2 => ?_
 ·rw [yP,yS,yZ];refine H2.alloc fun b6 h3 nx3 H3 => ?_;refine H3.qy (k:=0) (n:=2) rfl rfl rfl fun h4 H4 => ?_;rw [F40.t41,zA,F40.t6,zA,F40.rP,qx,decide_eq_false hne,Zad,F40.t5,zG,F40.v10,zD,F40.t4,zA,F40.au];simp only [yK,jM];rw [F40.ret];exact hK _ _ _ _ _ H4 (kN (zN rfl) (zN rfl)) (by rw [nrmV,<- he,if_pos hne])
 subst hn;have zad:=ok1.n256;have hgen:=zk7 ok1 ok2 hu1 hC1 hq1 hu2 hC2 hq2;rw [yP,yS,yZ];refine H2.alloc fun b6 h3 nx3 H3 => ?_;refine H3.qy (k:=0) (n:=2) rfl rfl rfl fun h4 H4 => ?_;rw [F40.t41,zA,F40.t6,zA,F40.rP,qx,decide_eq_true rfl,Zae,F40.t5,zG,F40.v10,zC,zO,F40.t40,zA,F40.t37,zA,F40.t7_s,sAx0,H4.load (k:=0) (i:=0) rfl rfl,H4.zaa (k:=3) rfl];have hd2:∀ b∈q2,DS n' b:=fun b hb=>(ok2.dp b ((hq2 b).1 hb)).1;have no:∀ {h' nx' L'},Hp h h' nx' L'->(∃ a∈u1,∃ b∈u2,conj a b∉S)->K (.tup [.bool false,I 0]) h' nx'=.ok True:=fun H' ⟨a,ha,b,hb,hc⟩=>by
  refine hK _ _ _ _ _ H' (kN (zN rfl) (zN rfl)) ?_;rw [nrmV,hse,if_neg (by decide),<- hgen]
  congr 3
  refine (Bool.eq_false_iff.2 fun q => ?_).symm;have:=List.all_eq_true.1 (List.all_eq_true.1 q a ha) b hb;exact hc (of_decide_eq_true this)
 rw [F40.t36,zV]
 refine F40.zt4 (fun m x13 h' nx'=>∃ i:Nat,x13=I i/\m=u1.length-i/\i<=u1.length/\(u1.take i).all (fun a=>u2.all fun b=>decide (conj a b∈S))=true/\Hp h h' nx' (.arr b6 [jy o1 2 u1.length,jy o2 2 u2.length]::.map g (wz q2)::.gro o2 2 u2.length (yL u2)::.gro o1 2 u1.length (yL u1)::(X++[]))) (m:=u1.length) (by omega)
  ⟨0,rfl,by omega,by omega,by simp,H4⟩ ?_
 rintro m z3 z4 z8 z9 z13 z14 z15 z16 z17 z18 z19 h6 nx6 R ⟨i,rfl,rfl,hi,hal,H6⟩ hR;rw [F40.t34,zA,F40.aG,uf];by_cases hlt:i<u1.length
 case neg =>
  rw [decide_eq_false (by omega),F40.t33,zA,F40.t9,zG,F40.v14,zC,jB,jX,F40.t39,zA,F40.zt5];simp only [yK,jM];rw [F40.ret];obtain rfl:i=u1.length:=by omega
  exact hK _ _ _ _ _ H6 (kN (zN rfl) (zN rfl)) (by rw [nrmV,hse,if_neg (by decide),<- hgen,pT hal])
 rw [decide_eq_true (by omega),F40.t33,zA,F40.t9,zG,F40.v14,zD,zO,F40.t32,zA,F40.t30,zV,F40.t29,zA,F40.eF];have hx:u1[i]? = some u1[i]:=List.getElem?_eq_getElem hlt;have hxm:=Zaa hx;have hdx:=ok1.dp _ (hu1 _ hxm);obtain ⟨iu,ou,e1,e2⟩:=zh1 (k:=3) H6 rfl hx;rw [e1,e2];refine H6.alloc fun b8 h7 nx7 H7 => ?_;refine H7.qy (k:=0) (n:=2) rfl rfl rfl fun h8 H8 => ?_;rw [F40.t28,zA,F40.tJ,sAx1,H8.load (k:=1) (i:=0+1) rfl rfl,H8.zaa (k:=3) rfl,F40.t27,zV]
 refine F40.zt3 (fun m x17 h' nx'=>∃ k:Nat,x17=I k/\m=u2.length-k/\k<=u2.length/\(u2.take k).all (fun b=>decide (conj u1[i] b∈S))=true/\Hp h h' nx' (.arr b8 [encI u1[i].1,.bool u1[i].2]::.arr b6 [jy o1 2 u1.length,jy o2 2 u2.length]::.map g (wz q2)::.gro o2 2 u2.length (yL u2)::.gro o1 2 u1.length (yL u1)::(X++[]))) (m:=u2.length) (by omega)
  ⟨0,rfl,by omega,by omega,by simp,H8⟩ ?_
 rintro m y3 y4 y9 y17 y18 y19 h9 nx9 R' ⟨k,rfl,rfl,hk,hal2,H9⟩ hR';rw [F40.t25,zA,F40.zan,uf];by_cases hlt2:k<u2.length
 case neg =>
  rw [decide_eq_false (by omega),F40.t24,zA,F40.t13,zG,F40.v18,zC,jB,jX,F40.zam,qc (by omega)];obtain rfl:k=u2.length:=by omega
  exact hR _ _ _ _ _ _ _ _ _ _ _ _ _ _ (by omega) ⟨i+1,rfl,rfl,by omega,uT hx hal (pT hal2),H9.drop⟩
 rw [decide_eq_true (by omega),F40.t24,zA,F40.t13,zG,F40.v18,zD,zO,F40.t23,zA,F40.t21,zV,F40.t20,zA,F40.zah];have hy:u2[k]? = some u2[k]:=List.getElem?_eq_getElem hlt2;have hym:=Zaa hy;have hdy:=ok2.dp _ (hu2 _ hym);obtain ⟨iv,ov,e3,e4⟩:=zh1 (k:=3) H9 rfl hy;rw [e3,e4];refine H9.alloc fun b9 h10 nx10 H10 => ?_;refine H10.qy (k:=0) (n:=2) rfl rfl rfl fun h11 H11 => ?_;rw [F40.t19,zA,F40.eG,H11.zi (k:=1) (n:=2) rfl rfl,H11.zi (k:=0) (n:=2) rfl rfl,H11.zi (k:=1) (n:=2) rfl rfl];refine pV (a:=u1[i]) (b:=u2[k]) (fun z hz=>by rw [hdx.1.1];exact hdy.1.2 z hz) (by rw [hdy.1.1];omega) _ _ _ _ ?_;rintro _ rfl _;rw [H11.zi (k:=1) (n:=2) rfl rfl,zB,zB];refine ztq (a:=u1[i]) hdx (by omega) _ _ _ _ ?_;rintro _ rfl _;have hdi:=xV hdx;have hdxy:=(gB n').dm _ _ hdx hdy;rw [zB];refine pV (a:=zP u1[i] u2[k]) (b:=invS u1[i]) (fun z hz=>by rw [hdxy.1.1];exact hdi.1.2 z hz) (by rw [hdi.1.1];omega) _ _ _ _ ?_;rintro _ rfl _;rw [zB];have hdc:DP n' (conj u1[i] u2[k]):=zqw hdx hdy;refine zb4 (a:=conj u1[i] u2[k]) zad hdc.1 hd2 H11 (k:=3) rfl ?_;rw [yG,F40.t18,zG,F40.v19];by_cases c:conj u1[i] u2[k]∈q2
 ·rw [decide_eq_true c,Zae,zC,zO,F40.zem,qc (by omega)];exact hR' _ _ _ _ _ _ _ _ _ (by omega) ⟨k+1,rfl,rfl,by omega,uT hy hal2 (decide_eq_true ((hq2 _).1 c)),H11.drop⟩
 ·rw [decide_eq_false c,Zad,zD,F40.t17,zA,F40.fZ];simp only [yK,zha,jM];rw [F40.ret];exact no H11 ⟨_,hxm,_,hym,fun q=>c ((hq2 _).2 q)⟩
end Go.Ev
namespace Go.Ev
abbrev AscS (l:List Sym):Prop:=l.Pairwise fun a b=>tC a b=true
theorem AscS.nd {l:List Sym} (h:AscS l):l.Nodup:=h.imp fun hab e=>by rw [e,qY] at hab;cases hab
theorem zfs:∀ {a b:List Sym},AscS a->AscS b->(∀ x,x∈a↔x∈b)->a=b
 | [],[],_,_,_=>rfl
 | [],y::b,_,_,h=>by have:=(h y).2 (by simp);cases this
 | x::a,[],_,_,h=>by have:=(h x).1 (by simp);cases this
 | x::a,y::b,ha,hb,h=>by
  have ha':=List.pairwise_cons.1 ha;have hb':=List.pairwise_cons.1 hb;have e:x=y:=by
   have h1:=(h x).1 (by simp);have h2:=(h y).2 (by simp);rcases List.mem_cons.1 h1 with q | q
   ·exact q
   ·rcases List.mem_cons.1 h2 with r | r
    ·exact r.symm
    ·have h3:=hb'.1 x q;have h4:=ha'.1 y r;rw [zcd h3] at h4;cases h4
  subst e
  congr 1
  refine zfs ha'.2 hb'.2 fun z => ?_;have hz:=h z;simp only [Zah] at hz;constructor
  ·intro q;rcases hz.1 (.inr q) with rfl | r
   ·have:=ha'.1 z q;rw [qY] at this;cases this
   ·exact r
  ·intro q;rcases hz.2 (.inr q) with rfl | r
   ·have:=hb'.1 z q;rw [qY] at this;cases this
   ·exact r
end Go.Ev
namespace Go.Ev
open Go Go.Proofs
theorem zon {a b:Sym} (h:a≠b) (h2:fC a b<=0):tC a b=true:=by
 rw [wN] at h2;unfold tC;by_cases c:a.1=b.1
 ·rw [if_pos c] at h2 ⊢;have:a.2≠b.2:=fun q=>h (Prod.ext c q)
  revert h2 this;cases a.2 <;> cases b.2 <;> simp
 ·rw [if_neg c] at h2 ⊢;rw [wP];have:=mH c;exact decide_eq_true (by omega)
theorem zhs {s:List Sym} (hn:s.Nodup) (h:s.Pairwise fun a b=>fC a b<=0):AscS s:=(List.pairwise_and_iff.2 ⟨hn,h⟩).imp fun ⟨h1,h2⟩=>zon h1 h2
end Go.Ev
namespace Go.Ev
theorem zgh:∀ {l:List Int},l.Pairwise (· < ·)->∀ c∈l,c<=l.getLastD 0
 | [],_,c,h=>by simp at h
 | [a],_,c,h=>by simp at h;subst h;simp
 | a::b::l,hp,c,h=>by
  have ih:=zgh (l:=b::l) (List.pairwise_cons.1 hp).2;have e:(a::b::l).getLastD 0=(b::l).getLastD 0:=by simp [List.getLastD]
  rw [e];rcases List.mem_cons.1 h with q | q
  ·subst q;have:=(List.pairwise_cons.1 hp).1 b (by simp);have:=ih b (by simp);omega
  ·exact ih c q
section
variable {σ α:Type}
end
end Go.Ev
namespace Go.Ev
def SpOK (M:Int) (q:List (Int×Int)):Prop:=q.Pairwise (fun a b=>a.1<b.1)/\∀ p∈q,0<=p.1/\p.1<=M
theorem SpOK.len {q:List (Int×Int)} (h:SpOK 9000 q):q.length<=9001:=by
 obtain ⟨t,ht⟩:=zf1 (q.map (·.1)) ((List.range 9001).map fun (i:Nat)=>(i:Int)) (by
  rw [List.nodup_iff_pairwise_ne,Zcc];exact h.1.imp fun {a b} q e=>by omega) fun x hx=>by
  obtain ⟨p,hp,rfl⟩:=List.mem_map.1 hx;have:=h.2 p hp;exact List.mem_map.2 ⟨p.1.toNat,List.mem_range.2 (by omega),by omega⟩
 have:=ht.length_eq;rw [Zar,List.length_range,Zat,Zar] at this;omega
def uF (n:Nat):Nat->List Int->List (List Int)
 | 0,pre=>[pre]
 | r+1,pre=>(List.range n).flatMap fun (x:Nat)=>if (x:Int)∈pre then [] else uF n r (pre++[(x:Int)])
def facZ:Nat->Nat
 | 0=>1
 | n+1=>(n+1)*facZ n
theorem mG {n:Nat}:∀ {r:Nat} {pre f:List Int},pre.Nodup->(f∈uF n r pre↔∃ t,f=pre++t/\t.length=r/\(pre++t).Nodup/\∀ x∈t,0<=x/\x<(n:Int))
 | 0,pre,f,hp=>by
  rw [uF,Zbd];constructor
  ·rintro rfl;exact ⟨[],by simp,rfl,by simpa using hp,by simp⟩
  ·rintro ⟨t,rfl,ht,_,_⟩;rw [Zaw ht];simp
 | r+1,pre,f,hp=>by
  rw [uF,Zba];constructor
  ·rintro ⟨x,hx,hf⟩;have hxn:=List.mem_range.1 hx;by_cases c:(x:Int)∈pre
   ·rw [if_pos c] at hf;cases hf
   rw [if_neg c] at hf;have hn2:(pre++[(x:Int)]).Nodup:=List.nodup_append.2 ⟨hp,by simp,by rintro a ha b hb rfl;rw [List.mem_singleton.1 hb] at ha;exact c ha⟩;obtain ⟨t,rfl,h1,h2,h3⟩:=(mG hn2).1 hf;refine ⟨(x:Int)::t,by simp,by simp [h1],by simpa using h2,fun y hy => ?_⟩;rcases List.mem_cons.1 hy with rfl | hy
   ·omega
   ·exact h3 y hy
  ·rintro ⟨t,rfl,h1,h2,h3⟩;cases t with
   | nil=>cases h1
   | cons y t =>
    obtain ⟨q1,q2⟩:=h3 y (by simp);have hy:y∉pre:=fun q=>(List.nodup_append.1 h2).2.2 y q y (by simp) rfl;refine ⟨y.toNat,List.mem_range.2 (by omega),?_⟩;rw [show ((y.toNat:Nat):Int)=y by omega,if_neg hy];have hn2:(pre++[y]).Nodup:=by
     have:pre++y::t=(pre++[y])++t:=by simp
     rw [this] at h2;exact (List.nodup_append.1 h2).1
    exact (mG hn2).2 ⟨t,by simp,by simpa using h1,by simpa using h2,fun x hx=>h3 x (by simp [hx])⟩
theorem zdc {n:Nat}:∀ {r:Nat} {pre f:List Int},f∈uF n r pre->∃ t,f=pre++t
 | 0,pre,f,h=>⟨[],by rw [uF,Zbd] at h;simp [h]⟩
 | r+1,pre,f,h=>by
  rw [uF,Zba] at h;obtain ⟨x,_,hf⟩:=h;by_cases c:(x:Int)∈pre
  ·rw [if_pos c] at hf;cases hf
  rw [if_neg c] at hf;obtain ⟨t,rfl⟩:=zdc hf;exact ⟨(x:Int)::t,by simp⟩
end Go.Ev
namespace Go.Ev
open Go Go.Proofs
def nonJ:Nat->List AV->T Blk->Option (AV×T Blk):=fun _ _ _=>none
theorem zjg {P:Program} {B:Nat}:JOk P B nonJ:=fun _ _ hk=>by cases hk
def zoo (f:Nat) (args:List AV) (res:AV):Bool:=match (qX (fun _=>false) nonJ tbl 1000 60).fn f (.of f) args .e .z endK with
 | .ok v=>oG v res
 | .no _=>false
theorem zh9 {f:Nat} {args:List AV} {res:AV} {B:Nat} (ha:nns args=true) (h:zoo f args res=true):Pure Tryz.prog B f args (· = res):=by
 unfold zoo at h;cases hq:(qX (fun _=>false) nonJ tbl 1000 60).fn f (.of f) args .e .z endK with
 | no n=>rw [hq] at h;cases h
 | ok v =>
  rw [hq] at h;have e:=wD h;subst e;exact pM zT mixed (fun _=>zjg) ha hq
def tX (k:Nat):List UInt8:=if k<10 then [UInt8.ofNat (48+k)] else if k<100 then [UInt8.ofNat (48+k / 10),UInt8.ofNat (48+k%10)] else [UInt8.ofNat (48+k / 100),UInt8.ofNat (48+k / 10%10),UInt8.ofNat (48+k%10)]
end Go.Ev
namespace Go.Ev
open Go Go.Proofs
set_option maxRecDepth 100000
def prsU:List (Nat×Nat):=(List.range 120).map (·,24)++(List.range 24).map (·,6)++(List.range 6).map (·,2)++(List.range 2).map (·,1)
def quoB (r s:Nat):List UInt8:=if s / Nat.gcd r s=1 then tX (r / Nat.gcd r s) else tX (r / Nat.gcd r s)++47::tX (s / Nat.gcd r s)
abbrev EnM:=List AV×AV
def e119 (p:Nat×Nat):EnM:=([.str (tX p.1),.str (tX p.2)],.str (quoB p.1 p.2))
def e173 (p:Nat×Nat):EnM:=([.str (quoB p.1 p.2)],.str (tX (p.1 / p.2)))
def e133 (p:Nat×Nat):EnM:=([.str (tX p.1),.str (tX (p.1 / p.2*p.2))],.str (tX (p.1%p.2)))
def prsM:List (Nat×Nat):=[24,6,2,1].flatMap fun s=>(List.range 5).map (·,s)
def e172 (p:Nat×Nat):EnM:=([.str (tX p.1),.str (tX p.2)],.str (tX (p.1*p.2)))
def e108 (n:Nat):EnM:=([I n],.str (tX (facZ n)))
def e107 (n:Nat):EnM:=([.str (tX n)],.tup [I n,.bool true])
def e49 (n:Nat):EnM:=([I n],.str (tX n))
def okE (f:Nat) (e:EnM):Bool:=zoo f e.1 e.2
theorem ztr:(((List.range 120).map (·,24)).all fun p=>okE 119 (e119 p))=true:=by kernel_rfl
theorem zts:(((List.range 24).map (·,6)++(List.range 6).map (·,2)++(List.range 2).map (·,1)).all fun p=>okE 119 (e119 p))=true:=by kernel_rfl
theorem zwg:(prsU.all fun p=>okE 173 (e173 p))=true:=by kernel_rfl
theorem zwh:(prsU.all fun p=>okE 133 (e133 p))=true:=by kernel_rfl
theorem zwi:(prsM.all fun p=>okE 172 (e172 p))=true:=by kernel_rfl
theorem zr1:((List.range 6).all fun n=>okE 108 (e108 n))=true:=by kernel_rfl
theorem zr2:((List.range 121).all fun n=>okE 107 (e107 n))=true:=by kernel_rfl
theorem ok49:((List.range 120).all fun n=>okE 49 (e49 n))=true:=by kernel_rfl
theorem d5 {f:Nat} {e:EnM} {B:Nat} (ha:nns e.1=true) (h:okE f e=true):Pure Tryz.prog B f e.1 (· = e.2):=zh9 ha h
theorem qQ {α:Type} {f:Nat} {g:α->EnM} {l:List α} (h:(l.all fun p=>okE f (g p))=true) (ha:∀ p,nns (g p).1=true):uI Tryz.prog f (l.map g):=fun e he B=>by
 obtain ⟨p,hp,rfl⟩:=List.mem_map.1 he;exact d5 (ha p) (List.all_eq_true.1 h p hp)
theorem qP {P:Program} {k:Nat} {l:List EnM} {g:Nat->List EnM} (h1:uI P k l) {f:Nat} (h2:uI P f (g f)):uI P f (bif Nat.beq f k then l else g f):=by
 cases q:Nat.beq f k with
 | false=>exact h2
 | true=>obtain rfl:=Nat.eq_of_beq_eq_true q;exact h1
theorem zwj:(prsU.all fun p=>okE 119 (e119 p))=true:=by
 have h1:=ztr;have h2:=zts;rw [prsU,Zbe,Zbe,List.all_append,h1,Bool.true_and,<- Zbe];exact h2
def Nu (f:Nat):List EnM:=bif Nat.beq f 119 then prsU.map e119 else bif Nat.beq f 173 then prsU.map e173 else bif Nat.beq f 133 then prsU.map e133 else bif Nat.beq f 172 then prsM.map e172 else bif Nat.beq f 108 then (List.range 6).map e108 else bif Nat.beq f 107 then (List.range 121).map e107 else bif Nat.beq f 49 then (List.range 120).map e49 else []
theorem zwk (f:Nat):uI Tryz.prog f (Nu f) :=
 qP (g:=fun f=>bif Nat.beq f 173 then prsU.map e173 else bif Nat.beq f 133 then prsU.map e133 else bif Nat.beq f 172 then prsM.map e172 else bif Nat.beq f 108 then (List.range 6).map e108 else bif Nat.beq f 107 then (List.range 121).map e107 else bif Nat.beq f 49 then (List.range 120).map e49 else []) (qQ zwj fun _=>rfl)
 (qP (g:=fun f=>bif Nat.beq f 133 then prsU.map e133 else bif Nat.beq f 172 then prsM.map e172 else bif Nat.beq f 108 then (List.range 6).map e108 else bif Nat.beq f 107 then (List.range 121).map e107 else bif Nat.beq f 49 then (List.range 120).map e49 else []) (qQ zwg fun _=>rfl)
 (qP (g:=fun f=>bif Nat.beq f 172 then prsM.map e172 else bif Nat.beq f 108 then (List.range 6).map e108 else bif Nat.beq f 107 then (List.range 121).map e107 else bif Nat.beq f 49 then (List.range 120).map e49 else []) (qQ zwh fun _=>rfl)
 (qP (g:=fun f=>bif Nat.beq f 108 then (List.range 6).map e108 else bif Nat.beq f 107 then (List.range 121).map e107 else bif Nat.beq f 49 then (List.range 120).map e49 else []) (qQ zwi fun _=>rfl)
 (qP (g:=fun f=>bif Nat.beq f 107 then (List.range 121).map e107 else bif Nat.beq f 49 then (List.range 120).map e49 else []) (qQ zr1 fun _=>rfl)
 (qP (g:=fun f=>bif Nat.beq f 49 then (List.range 120).map e49 else []) (qQ zr2 fun _=>rfl)
 (qP (g:=fun _=>[]) (qQ ok49 fun _=>rfl) (fun _ h=>by cases h)))))))
def okUm (n k:Nat):Bool:=match (qX (fun _=>false) (zc0 Nu nonJ) tbl 1000 60).fn 109 (.of 109) [I n,.str (tX k)] .e .z endK with
 | .ok v=>oG v (encI ((uF n n []).getD k []))
 | .no _=>false
theorem zk8 {n k B:Nat} (h:okUm n k=true):Pure Tryz.prog B 109 [I n,.str (tX k)] (· = encI ((uF n n []).getD k [])):=by
 unfold okUm at h;cases hq:(qX (fun _=>false) (zc0 Nu nonJ) tbl 1000 60).fn 109 (.of 109) [I n,.str (tX k)] .e .z endK with
 | no n=>rw [hq] at h;cases h
 | ok v =>
  rw [hq] at h;have e:=wD h;rw [<- e];exact pM zT mixed (fun _=>zd8 zwk zjg) rfl hq
theorem um1:((List.range 1).all fun k=>okUm 1 k)=true:=by kernel_rfl
theorem um2:((List.range 2).all fun k=>okUm 2 k)=true:=by kernel_rfl
theorem um3:((List.range 6).all fun k=>okUm 3 k)=true:=by kernel_rfl
theorem um4:((List.range 24).all fun k=>okUm 4 k)=true:=by kernel_rfl
theorem zqx {n B:Nat} (hn:n<=5):Pure Tryz.prog B 108 [I n] (· = .str (tX (facZ n))):=d5 (e:=e108 n) rfl (List.all_eq_true.1 zr1 n (List.mem_range.2 (by omega)))
theorem zop {n B:Nat} (hn:n<=120):Pure Tryz.prog B 107 [.str (tX n)] (· = .tup [I n,.bool true]):=d5 (e:=e107 n) rfl (List.all_eq_true.1 zr2 n (List.mem_range.2 (by omega)))
theorem zk9 {n B:Nat} (hn:n<120):Pure Tryz.prog B 49 [I n] (· = .str (tX n)):=d5 (e:=e49 n) rfl (List.all_eq_true.1 ok49 n (List.mem_range.2 hn))
theorem zla:((List.range 7).all fun n=>decide ((uF n n []).length=facZ n))=true:=by decide +kernel
theorem zci {n:Nat} (hn:n<=6):(uF n n []).length=facZ n:=of_decide_eq_true (List.all_eq_true.1 zla n (List.mem_range.2 (by omega)))
theorem zwl:((List.range 20).all fun k=>okUm 5 (0+k))=true:=by kernel_rfl
theorem zwm:((List.range 20).all fun k=>okUm 5 (20+k))=true:=by kernel_rfl
theorem zwn:((List.range 20).all fun k=>okUm 5 (40+k))=true:=by kernel_rfl
theorem zwo:((List.range 20).all fun k=>okUm 5 (60+k))=true:=by kernel_rfl
theorem zwp:((List.range 20).all fun k=>okUm 5 (80+k))=true:=by kernel_rfl
theorem zwq:((List.range 20).all fun k=>okUm 5 (100+k))=true:=by kernel_rfl
end Go.Ev
namespace Go.Ev
open Go Go.Proofs
theorem um5 {k:Nat} (h:k<120):okUm 5 k=true:=by
 have key:∀ q,((List.range 20).all fun k=>okUm 5 (20*q+k))=true->20*q<=k->k<20*q+20->okUm 5 k=true:=fun q h0 h1 h2=>by
  have:=List.all_eq_true.1 h0 (k-20*q) (List.mem_range.2 (by omega))
  rwa [show 20*q+(k-20*q)=k by omega] at this
 rcases (by omega:k<20\/(20<=k/\k<40)\/(40<=k/\k<60)\/(60<=k/\k<80)\/(80<=k/\k<100)\/100<=k) with c | c | c | c | c | c
 ·exact key 0 zwl (by omega) (by omega)
 ·exact key 1 zwm (by omega) (by omega)
 ·exact key 2 zwn (by omega) (by omega)
 ·exact key 3 zwo (by omega) (by omega)
 ·exact key 4 zwp (by omega) (by omega)
 ·exact key 5 zwq (by omega) (by omega)
theorem zlb {n k B:Nat} (hn:1<=n/\n<=5) (hk:k<facZ n):Pure Tryz.prog B 109 [I n,.str (tX k)] (· = encI ((uF n n []).getD k [])):=by
 refine zk8 ?_;rcases (by omega:n=1\/n=2\/n=3\/n=4\/n=5) with rfl | rfl | rfl | rfl | rfl
 ·exact List.all_eq_true.1 um1 k (List.mem_range.2 hk)
 ·exact List.all_eq_true.1 um2 k (List.mem_range.2 hk)
 ·exact List.all_eq_true.1 um3 k (List.mem_range.2 hk)
 ·exact List.all_eq_true.1 um4 k (List.mem_range.2 hk)
 ·exact um5 hk
end Go.Ev
namespace Go.Ev
open Go Go.Proofs
variable {B:Nat}
set_option maxRecDepth 100000
theorem zqy {P:Program} {f:Nat} {p:Pa} {args args':List AV} {h:T Blk} {nx:Pa} {K:Kw Prop} (hv:∀ (E:Env) (vs:List Value),VRL E args vs->VRL E args' vs) (hk:(CS P B).fn f p args' h nx K=.ok True):(CS P B).fn f p args h nx K=.ok True:=by
 rw [sK] at hk ⊢;exact ⟨fun E w vs H hv'=>hk.1 E w vs H (hv _ _ hv'),rfl⟩
theorem zqz {E:Env} {e:Nat} {vv:Value} (h:VR E .zf vv):VR E (.lst e 0 []) vv:=by
 simp only [VR] at h ⊢;exact ⟨rfl,by simp,none,0,h,.inl (by simp)⟩
def LG (v:AV) (l:List Sym):Prop:=(v=.zf/\l=[])\/(v=jh l/\l≠[])
theorem LG.len {v:AV} {l:List Sym} (h:LG v l) {op:AV->OP}:sLen v op=op (I l.length):=by
 rcases h with ⟨rfl,rfl⟩ | ⟨rfl,_⟩
 ·exact zY
 ·exact zH ..
theorem LG.frz {v:AV} {l:List Sym} (h:LG v l) {N:Pa->Prop} {O:AV->Prop} {hh:T Blk}:Frz True N O hh v (jh l):=by
 rcases h with ⟨rfl,rfl⟩ | ⟨rfl,_⟩
 ·exact .zbl 2
 ·exact zN (zc8 _)
theorem LG.call {P:Program} {f:Nat} {p:Pa} {v:AV} {rest:List AV} {l:List Sym} (h:LG v l) {hh:T Blk} {nx:Pa} {K:Kw Prop} (hk:(CS P B).fn f p (jh l::rest) hh nx K=.ok True):(CS P B).fn f p (v::rest) hh nx K=.ok True:=by
 rcases h with ⟨rfl,rfl⟩ | ⟨rfl,_⟩
 ·refine zqy (fun E vs hv => ?_) hk;simp only [VRL] at hv ⊢;obtain ⟨a,m,q,r,s⟩:=hv;exact ⟨a,m,q,zqz r,s⟩
 ·exact hk
end Go.Ev
namespace Go.Ev
open Go.Proofs (ql xS wA qD uR)
abbrev AscT (l:List (List Int)):Prop:=l.Pairwise fun a b=>gZ a b=true
end Go.Ev
namespace Go.Ev
open Go Go.Proofs
variable {B:Nat}
set_option maxRecDepth 100000
def Kept (s r:List (List Int)) (j:Nat):Prop:=AscT r/\(∀ x,x∈r↔x∈s.take j)/\1<=r.length/\r.length<=j/\r.getLast? = s[j-1]?
theorem Kept.same {s r:List (List Int)} {j:Nat} (hj:1<=j) (h:Kept s r j) (hl:j<s.length) (e:s[j]=s[j-1]):Kept s r (j+1):=by
 obtain ⟨h1,h2,h3,h4,h5⟩:=h;have hp:s[j-1]? = some s[j-1]:=List.getElem?_eq_getElem (by omega);refine ⟨h1,fun x => ?_,h3,by omega,?_⟩
 ·rw [h2,Zal,List.getElem?_eq_getElem hl,Zas];constructor
  ·exact .inl
  ·rintro (q | q)
   ·exact q
   ·have:x=s[j-1]:=by rw [<- e];simpa using q
    rw [this];exact Zaa (i:=j-1) (by rw [List.getElem?_take_of_lt (by omega)];exact hp)
 ·rw [h5,hp,Nat.add_sub_cancel,List.getElem?_eq_getElem hl,e]
theorem Kept.new {s r:List (List Int)} {j:Nat} (hj:1<=j) (h:Kept s r j) (hs:s.Pairwise fun a b=>ql a b<=0) (hl:j<s.length) (e:s[j]≠s[j-1]):Kept s (r++[s[j]]) (j+1):=by
 obtain ⟨h1,h2,h3,h4,h5⟩:=h;have hlt:∀ x∈s.take j,gZ x s[j]=true:=fun x hx=>by
  have hpw:=List.pairwise_iff_getElem.1 hs;obtain ⟨i,hi⟩:=List.getElem?_of_mem hx;have hil:=(List.getElem?_eq_some_iff.1 hi).1;rw [Zax] at hil;rw [List.getElem?_take_of_lt (by omega),List.getElem?_eq_getElem (by omega)] at hi;obtain rfl:=Option.some.inj hi;have a1:=hpw i j (by omega) hl (by omega);have a2:=hpw (j-1) j (by omega) hl (by omega);have a3:ql s[j-1] s[j]≠0:=fun q=>e (wA q).symm;rw [wP];by_cases q:i=j-1
  ·subst q;exact decide_eq_true (by omega)
  ·have a4:=hpw i (j-1) (by omega) (by omega) (by omega);by_cases z:ql s[i] s[j-1]=0
   ·rw [wA z];exact decide_eq_true (by omega)
   ·exact decide_eq_true (uR (b:=s[j-1]) (by omega) (by omega))
 refine ⟨List.pairwise_append.2 ⟨h1,by simp,fun x hx y hy => ?_⟩,fun x => ?_,by simp,by simp;omega,?_⟩
 ·rw [List.mem_singleton.1 hy];exact hlt x ((h2 x).1 hx)
 ·rw [Zas,h2,Zal,List.getElem?_eq_getElem hl,Zas];simp
 ·rw [Nat.add_sub_cancel,List.getElem?_eq_getElem hl];simp
theorem wF {a b c:List Int} (h1:ql a b<=0) (h2:ql b c<=0):ql a c<=0:=by
 by_cases z1:ql a b=0
 ·rw [wA z1];exact h2
 ·by_cases z2:ql b c=0
  ·rw [<- wA z2];exact h1
  ·have:=uR (a:=a) (b:=b) (c:=c) (by omega) (by omega);omega
def LT (v:AV) (l:List (List Int)):Prop:=(v=.zf/\l=[])\/(v=qo l/\l≠[])
theorem LT.len {v:AV} {l:List (List Int)} (h:LT v l) {op:AV->OP}:sLen v op=op (I l.length):=by
 rcases h with ⟨rfl,rfl⟩ | ⟨rfl,_⟩
 ·exact zY
 ·exact zH ..
theorem LT.frz {v:AV} {l:List (List Int)} (h:LT v l) {N:Pa->Prop} {O:AV->Prop} {hh:T Blk}:Frz True N O hh v (qo l):=by
 rcases h with ⟨rfl,rfl⟩ | ⟨rfl,_⟩
 ·exact .zbl 1
 ·exact zN (zj3 _)
end Go.Ev
namespace Go.Ev
open Go.Proofs
section
variable {G S:List Sym} {n:Nat}
end
end Go.Ev
namespace Go.Ev
section
variable {G:List Sym} {n:Nat}
end
end Go.Ev
namespace Go.Ev
open Go Go.Proofs Go.RowKit Go.Sort
def xW:List AV->Option (List Int)
 | []=>some []
 | .int k n::l=>match k with
  | .i64=>match xW l with
   | some xs=>some (n::xs)
   | none=>none
  | _=>none
 | _=>none
theorem zgi:∀ {l:List AV} {xs:List Int},xW l=some xs->l=xs.map I
 | [],xs,h=>by simp [xW] at h;subst h;rfl
 | x::l,xs,h=>by
  cases x <;> first | (simp [xW] at h;done) | skip
  rename_i k n;cases k <;> first | (simp [xW] at h;done) | skip
  simp only [xW] at h;cases hl:xW l with
  | none=>simp [hl] at h
  | some ys=>simp [hl] at h;subst h;simp [zgi hl]
theorem zlc (l:List Int):xW (l.map I)=some l:=by
 induction l with
 | nil=>rfl
 | cons a l ih=>show (match xW (l.map I) with | some xs=>some (a::xs) | none=>none)=_;rw [ih]
def zdd (v:AV) (h:T Blk):Option (T Blk):=match v with
 | .sl id off ln _ esz=>match T.get .no id h with
  | .cells op m t=>bif Nat.beq esz 1&&Nat.ble (off+ln) m&&Nat.ble ln 1000000 then (match xW (yD t off ln) with
   | some l=>some (T.set .no (.cells op m (yW ((srt l).map I) t off)) id h)
   | none=>none) else none
  | _=>none
 | .zf=>some h
 | _=>none
def zoq (f:Nat) (args:List AV) (h:T Blk):Option (AV×T Blk):=bif Nat.beq f 91 then (match args with
 | [v]=>match zdd v h with
  | some h=>some (.tup [],h)
  | none=>none
 | _=>none) else none
theorem HR.sorted {P:Program} {B:Nat} {E:Env} {h:T Blk} {nx:Pa} {w:World} (H:HR P B E h nx w) {id:Pa} {op:Bool} {m off b n k:Nat} {t:T AV} {l l':List Int} {os:Array Obj} (hb:T.get .no id h=.cells op m t) (hE:E id=some (b,n))
  (hl':l'.length=l.length) (hm:off+l.length<=m) :
  HR P B E (T.set .no (.cells op m (yW (l'.map I) t off)) id h) nx (grow (putRow (Value.int .i64) (Sort.ahead w k) b off l'.toArray) os)/\Ex E E w (grow (putRow (Value.int .i64) (Sort.ahead w k) b off l'.toArray) os):=by
 have hid:T.get .no id h≠.no:=by rw [hb];intro e;cases e
 obtain ⟨b',n',o,h1,h2,h3⟩:=H.blk id hid;rw [hE] at h1;cases h1;rw [hb] at h3;obtain ⟨c,ty,fr,rfl,q1,q2,q3,q4,q5⟩:=h3;have hcs:(putCells (Value.int .i64) off l'.toArray c).size=c.size:=by simp [putCells]
 have hbr:BR P E n (.cells op m (yW (l'.map I) t off)) (.cells (putCells (Value.int .i64) off l'.toArray c) ty fr):=by
  refine ⟨_,ty,fr,rfl,by rw [hcs];exact q1,by rw [hcs];exact q2,q3,q4,fun i hi => ?_⟩;rw [uA];have hic:i<c.size:=by omega
  have hce:(putCells (Value.int .i64) off l'.toArray c)[i]? = some (if off<=i/\i<off+l'.length then Value.int .i64 (l'.toArray[i-off]!) else c[i]):=by
   simp [putCells,Array.getElem?_eq_getElem hic]
  rw [Zar];by_cases hr:off<=i/\i<off+l'.length
  ·rw [if_pos hr];rw [if_pos hr] at hce;have hj:i-off<l'.length:=by omega
   have e1:(l'.map I).getD (i-off) .undef=I l'[i-off]:=by
    rw [Zac,List.getElem?_map,List.getElem?_eq_getElem hj];rfl
   have e2:l'.toArray[i-off]! = l'[i-off]:=by simp [getElem!_pos,hj]
   rw [e1];exact ⟨rfl,_,hce,by rw [e2];simp only [VR]⟩
  ·rw [if_neg hr];rw [if_neg hr] at hce;obtain ⟨r1,v,r2,r3⟩:=q5 i hi;rw [Array.getElem?_eq_getElem hic] at r2;exact ⟨r1,_,hce,by rw [Option.some.inj r2];exact r3⟩
 have H1:=H.put hid hE hbr;have X1:Ex E E w (w.putObj b (.cells (putCells (Value.int .i64) off l'.toArray c) ty fr)):=Ex.put hE h2 fun L hL=>by cases hL
 have hbl:b<w.heap.size:=(Array.getElem?_eq_some_iff.1 h2).1;have hBel:Below (w.putObj b (.cells (putCells (Value.int .i64) off l'.toArray c) ty fr)).heap.size (w.putObj b (.cells (putCells (Value.int .i64) off l'.toArray c) ty fr)) (grow (putRow (Value.int .i64) (Sort.ahead w k) b off l'.toArray) os):=by
  refine ⟨rfl,rfl,rfl,?_,fun j hj => ?_⟩
  ·rw [World.putObj_size];simp [grow,putRow,mapBlock,Sort.ahead]
  ·rw [World.putObj_size] at hj;have e1:(grow (putRow (Value.int .i64) (Sort.ahead w k) b off l'.toArray) os).heap[j]? = (w.heap.modify b (onCells (putCells (Value.int .i64) off l'.toArray)))[j]? := by
    show (w.heap.modify b (onCells (putCells (Value.int .i64) off l'.toArray))++os)[j]? = _;rw [Array.getElem?_append_left (by simpa using hj)]
   rw [e1,Array.getElem?_modify];by_cases e:b=j
   ·subst e;rw [if_pos rfl,h2,gT _ hbl];rfl
   ·rw [if_neg e,yI _ (fun q=>e q.symm)]
 obtain ⟨r1,r2⟩:=H1.below hBel;exact ⟨r1,X1.trans r2⟩
theorem zor {B:Nat} (law:∀ (blk off cap:Nat) (zs:List Int) (w:World),Holds (Value.int .i64) w blk off zs.toArray->blk<w.heap.size->zs.length<4611686018427387904 ->
   Go.Calls Tryz.prog 91 #[.slice (some ⟨blk,off,none⟩) zs.length cap] w fun e w'=>e=.returned (.tuple #[])/\∃ n os,w'=grow (putRow (Value.int .i64) (Sort.ahead w n) blk off (zs.mergeSort fun x y=>decide (x<=y)).toArray) os)
  (law0:∀ (p:Option Addr) (cap:Nat) (w:World),Go.Calls Tryz.prog 91 #[.slice p 0 cap] w fun e w'=>e=.returned (.tuple #[])/\w'=w):JOk Tryz.prog B zoq:=by
 intro E h nx w f args vs v h2 H hv hj;unfold zoq at hj;cases hf:Nat.beq f 91 with
 | false=>simp [hf] at hj
 | true =>
  obtain rfl:=yE hf;rw [hf,cond_true] at hj;split at hj
  case h_2=>cases hj
  rename_i _ x;cases hjj:zdd x h with
  | none=>simp [hjj] at hj
  | some hs =>
  simp only [hjj,Option.some.injEq,Prod.mk.injEq] at hj;obtain ⟨rfl,rfl⟩:=hj;refine ⟨_,Tryz.func91,by kernel_rfl,by kernel_rfl,fun n=>callsIn_wide.2 ?_⟩;obtain ⟨l⟩:=vs;simp only [VRL] at hv;obtain ⟨u,_,rfl,hu,rfl⟩:=hv;unfold zdd at hjj;split at hjj
  ·rename_i id off ln cap esz;split at hjj
   ·rename_i op m t hb;cases hq:(Nat.beq esz 1&&Nat.ble (off+ln) m&&Nat.ble ln 1000000) with
    | false=>simp [hq] at hjj
    | true =>
     rw [hq,cond_true] at hjj;simp only [Zag] at hq;obtain ⟨⟨q1,q2⟩,q3⟩:=hq;obtain rfl:=yE q1;have q2:=yA q2;have q3:=yA q3;cases hx:xW (yD t off ln) with
     | none=>simp [hx] at hjj
     | some xs =>
      simp only [hx,Option.some.injEq] at hjj;subst hjj;have hxs:=zgi hx;have hln:xs.length=ln:=by
       have:=congrArg List.length hxs;simpa using this.symm
      obtain ⟨b,n,c,hE,rfl,hcap⟩:=hu.rZ;obtain ⟨b',n',o,h1,h2,h3⟩:=H.blk id (by rw [hb];intro e;cases e);rw [hE] at h1;cases h1;rw [hb] at h3;obtain ⟨cs,ty,fr,rfl,g1,g2,g3,g4,hc⟩:=h3;have hH:Holds (Value.int .i64) w b off xs.toArray:=by
       intro j hj;have hj:j<xs.length:=by simpa using hj
       obtain ⟨_,v',k1,k2⟩:=hc (off+j) (by omega);have he:T.get .undef (.of (off+j)) t=I xs[j]:=by
        have e1:=zZ t off ln j (by omega);rw [hxs,List.getElem?_map,List.getElem?_eq_getElem hj] at e1;exact (Option.some.inj e1).symm
       rw [he] at k2;simp only [VR] at k2;subst k2;have e2:xs.toArray[j]! = xs[j]:=by simp [getElem!_pos,hj]
       rw [e2];refine ⟨by simp [World.cell?,h2,k1],?_⟩;have:=g1 (off+j) (Array.getElem?_eq_some_iff.1 k1).1;simp only [World.frozen?,h2];obtain ⟨lo,hi⟩:=fr;simp only [Bool.and_eq_false_iff,decide_eq_false_iff_not];simp only at this;omega
      rw [<- hln];refine (law b off c xs w hH (H.lt _ _ _ hE).2 (by omega)).mono ?_;rintro e w' ⟨rfl,k,os,rfl⟩;have hp:(srt xs).length=xs.length:=(qK xs).length_eq;obtain ⟨r1,r2⟩:=H.sorted (off:=off) (l:=xs) (l':=srt xs) (k:=k) (os:=os) hb hE hp (by omega);exact ⟨_,E,rfl,by simp only [VR,VRL];exact ⟨_,rfl,rfl⟩,r1,r2⟩
   ·cases hjj
  ·obtain rfl:=(Option.some.inj hjj).symm;simp only [VR] at hu;subst hu;refine (law0 none 0 w).mono ?_;rintro e w' ⟨rfl,rfl⟩;exact ⟨_,E,rfl,by simp only [VR,VRL];exact ⟨_,rfl,rfl⟩,H,.refl _ _⟩
  ·cases hjj
end Go.Ev
namespace Go.Ev
open Go Go.Proofs
variable {B:Nat}
set_option maxRecDepth 100000
theorem zq0 {B:Nat}:JOk Tryz.prog B zoq:=zor Tryz.slices_Sort_int Tryz.slices_Sort_int_none
theorem zq1 {h0 h:T Blk} {nx p id:Pa} {L:List Ob} {k n:Nat} {K:Kw Prop} {l:List Int} (H:Hp h0 h nx L) (hk:L[k]? = some (.gro (some id) 1 n (l.map I))) (hn:n<=1000000)
  (hK:∀ h',Hp h0 h' nx (L.set k (.gro (some id) 1 n ((srt l).map I)))->K (.tup []) h' nx=.ok True):(CS Tryz.prog B).fn 91 p [jy (some id) 1 n] h nx K=.ok True:=by
 obtain ⟨t,h1,h2,h3⟩:=H.own _ (Zaa hk);rw [Zar] at h2;have hp:=(qK l).length_eq;have hln:l.length=n:=by omega
 have hsl:((srt l).map I).length=n*1:=by rw [Zar,hp,h2]
 refine ziv zq0 (v:=.tup []) (h2:=T.set .no (.cells true (n*1) (yW ((srt l).map I) t 0)) id h) ?_ (hK _ ?_)
 ·show (match zdd (.sl id 0 n none 1) h with
   | some h=>some (AV.tup [],h)
   | none=>none)=_
  have e:zdd (.sl id 0 n none 1) h=some (T.set .no (.cells true (n*1) (yW ((srt l).map I) t 0)) id h):=by
   unfold zdd;simp only [h1];rw [Zcb] at h3 ⊢;simp only [Zay,Zau,Zab (Zaj n),Zab hn,Bool.and_self,cond_true,h3,zlc]
  rw [e]
 ·refine H.upd hk (by simp [Ob.names]) rfl ⟨_,T.get_set_same ..,hsl,?_⟩;have:=kF t [] ((srt l).map I) 0 rfl;rw [Zau,List.nil_append,hsl] at this;exact this
def RB (l:List Int):Prop:=∀ x∈l,0<=x/\x<256
theorem zgj:∀ {l l':List Int},RB l->RB l'->xq (l,false)=xq (l',false)->l=l'
 | [],[],_,_,_=>rfl
 | [],_::_,_,_,h=>by cases h
 | _::_,[],_,_,h=>by cases h
 | x::l,y::l',h1,h2,h=>by
  have h:UInt8.ofNat x.toNat::xq (l,false)=UInt8.ofNat y.toNat::xq (l',false):=h;obtain ⟨e1,e2⟩:=List.cons.inj h;have hx:=h1 x (by simp);have hy:=h2 y (by simp);have e:x=y:=by
   have:=congrArg UInt8.toNat e1;simp only [UInt8.toNat_ofNat'] at this;omega
  rw [e,zgj (fun z hz=>h1 z (by simp [hz])) (fun z hz=>h2 z (by simp [hz])) e2]
def sQ (ks:List (List Int)):List (AV×AV):=ks.map fun l=>(.str (xq (l,false)),.bool true)
theorem zos {a:List Int} (ha:RB a):∀ (ks:List (List Int)) (i:Nat),(∀ b∈ks,RB b)->(a∈ks->∃ j,u3 .str (.str (xq (a,false))) (sQ ks) i=some (some (j,.bool true)))/\(a∉ks->u3 .str (.str (xq (a,false))) (sQ ks) i=some none)
 | [],i,_=>⟨fun h=>absurd h (by simp),fun _=>rfl⟩
 | b::ks,i,h=>by
  obtain ⟨r1,r2⟩:=zos ha ks (i+1) fun c hc=>h c (by simp [hc])
  have e:u3 .str (.str (xq (a,false))) (sQ (b::ks)) i=(match some (jW (xq (a,false)) (xq (b,false))) with
   | some true=>some (some (i,.bool true))
   | some false=>u3 .str (.str (xq (a,false))) (sQ ks) (i+1)
   | none=>none):=rfl
  rw [e];by_cases c:a=b
  ·subst c;rw [vw.2 rfl];exact ⟨fun _=>⟨i,rfl⟩,fun q=>absurd (by simp) q⟩
  ·have hb:jW (xq (a,false)) (xq (b,false))=false:=by
    cases q:jW (xq (a,false)) (xq (b,false)) with
    | false=>rfl
    | true=>exact absurd (zgj ha (h b (by simp)) (vw.1 q)) c
   rw [hb]
   exact ⟨fun q=>r1 (by
    rcases List.mem_cons.1 q with q | q
    ·exact absurd q c
    ·exact q),fun q=>r2 fun q2=>q (by simp [q2])⟩
theorem zwr {a:List Int} (ha:RB a) {ks:List (List Int)} (hks:∀ b∈ks,RB b) {h0 h:T Blk} {nx:Pa} {L:List Ob} {k:Nat} {id:Pa} {op:AV->OP} (H:Hp h0 h nx L) (hk:L[k]? = some (.map id (sQ ks))):zel .str (.bool false) false (.map id) (.str (xq (a,false))) h op=op (.bool (decide (a∈ks))):=by
 have own:T.get .no id h=.map _ _:=H.own _ (Zaa hk);obtain ⟨r1,r2⟩:=zos ha ks 0 hks;show bf (T.get .no id h) _ _=_;rw [own]
 show (match gJ .str (.str (xq (a,false))) (sQ ks) with
    | some (some (_,v))=>op (bif false then .tup [v,.bool true] else v)
    | some none=>op (bif false then .tup [.bool false,.bool false] else .bool false)
    | none=>.no 20)=_
 rw [show gJ .str (.str (xq (a,false))) (sQ ks)=u3 .str (.str (xq (a,false))) (sQ ks) 0 from rfl];by_cases c:a∈ks
 ·obtain ⟨j,hj⟩:=r1 c;rw [hj,decide_eq_true c];rfl
 ·rw [r2 c,decide_eq_false c];rfl
theorem Hp.zwt {a:List Int} (ha:RB a) {ks:List (List Int)} (hks:∀ b∈ks,RB b) (hna:a∉ks) {K:AV->T Blk->Pa->OP} {h0 h:T Blk} {nx:Pa} {L:List Ob} {k:Nat} {id:Pa} (H:Hp h0 h nx L) (hk:L[k]? = some (.map id (sQ ks)))
  (hK:∀ h',Hp h0 h' nx (L.set k (.map id (sQ (ks++[a]))))->K .undef h' nx=.ok True):xO .str (.map id) (.str (xq (a,false))) (.bool true) h nx K=.ok True:=by
 have own:T.get .no id h=.map _ _:=H.own _ (Zaa hk);obtain ⟨_,r2⟩:=zos ha ks 0 hks;show bf (T.get .no id h) _ _=_;rw [own]
 show (match gJ .str (.str (xq (a,false))) (sQ ks) with
    | some (some (i,_))=>T.xu (β:=OP) Blk.no (Blk.map (sQ ks).length ((sQ ks).modify i fun e=>(e.1,AV.bool true))) id h fun h'=>K .undef h' nx
    | some none=>qg ((sQ ks).length+1) fun n=>T.xu (β:=OP) Blk.no (Blk.map n (sQ ks++[(AV.str (xq (a,false)),AV.bool true)])) id h fun h'=>K .undef h' nx
    | none=>Out.no 45)=_
 rw [show gJ .str (.str (xq (a,false))) (sQ ks)=u3 .str (.str (xq (a,false))) (sQ ks) 0 from rfl,r2 hna];simp only [yB,T.yx];refine hK _ (H.upd hk (by simp [Ob.names]) rfl ?_);show T.get Blk.no id _=Blk.map _ _;rw [T.get_set_same];simp [sQ]
theorem zld {cells:Int} {lines:List (List Int)} {h0 h:T Blk} {nx p:Pa} {L:List Ob} {K:Kw Prop} (H:Hp h0 h nx L) (hn:lines.length<=1000000) (hnd:lines.Nodup) (hb:∀ l∈lines,RB l/\l.length<=1000)
  (hK:∀ gm b b1 h' nx',Hp h0 h' nx' (.arr b [.map gm]::.map gm (sQ lines)::.arr b1 [I cells,qo lines]::L)->K (.fn 169 (.of 169) [.ptr b 0]) h' nx'=.ok True):(CS Tryz.prog B).fn 104 p [.agg [I cells,qo lines]] h nx K=.ok True:=by
 refine jG (p:=.of 104) (K:=K) (zR zT yu 10000000 fun hf => ?_) fun _ _ _ _ q=>q;rw [yt.go,yt.t20,zA,yt.fU];refine H.box (l:=[I cells,qo lines]) rfl fun b1 h1 nx1 H1 => ?_;rw [yt.t19,zA,yt.fV];refine H1.rG fun gm h2 nx2 H2 => ?_;refine H2.alloc fun b3 h3 nx3 H3 => ?_;refine H3.store (k:=0) rfl (by simp) rfl fun h4 H4 => ?_;rw [yt.t18,zA,yt.t15,zA,yt.rP,sFx,H4.load (k:=2) (i:=0+1) rfl rfl,zH,yt.t14,zV];refine yt.zeo (fun m x7 h' nx'=>∃ i:Nat,x7=I i/\m=lines.length-i/\i<=lines.length/\Hp h0 h' nx' (.arr b3 [.map gm]::.map gm (sQ (lines.take i))::.arr b1 [I cells,qo lines]::L)) (m:=lines.length) (by omega) ⟨0,rfl,by omega,by omega,H4⟩ ?_;rintro m z4 z7 z8 h5 nx5 R ⟨i,rfl,rfl,hi,H5⟩ hR;rw [yt.t12,zA,yt.au,uf];by_cases hlt:i<lines.length
 case neg =>
  rw [decide_eq_false (by omega),yt.t11,zA,yt.t4,zG,yt.v8,zC,jB,jX,yt.t17,zA,yt.fZ];simp only [yK,jM];rw [yt.ret];rw [Zam (by omega)] at H5;exact hK gm b3 b1 _ _ H5
 have hx:lines[i]? = some lines[i]:=List.getElem?_eq_getElem hlt;obtain ⟨hrb,hll⟩:=hb _ (Zan hlt);have hnew:lines[i]∉lines.take i:=fun q=>by
  obtain ⟨j,hj⟩:=List.getElem?_of_mem q;have hjl:=(List.getElem?_eq_some_iff.1 hj).1;rw [Zax] at hjl;rw [List.getElem?_take_of_lt (by omega)] at hj;have:=List.pairwise_iff_getElem.1 hnd j i (by omega) hlt (by omega);rw [List.getElem?_eq_getElem (by omega)] at hj;exact this (Option.some.inj hj)
 have hld:∀ op:AV->OP,zE (.ptr b3 0) h5 op=op (.map gm):=fun op=>H5.load (k:=0) (i:=0) rfl rfl;have ebd:∀ op:AV->OP,uP [.zf,.bool false] [(0,1,encI lines[i])] op=op (.agg [encI lines[i],.bool false]):=fun op=>nr rfl;rw [decide_eq_true (by omega),yt.t11,zA,yt.t4,zG,yt.v8,zD,zO,yt.t10,zA,yt.t8,zV,yt.t7,zA,yt.t5_s,bQ rfl hlt,ldL (getT hx),yt.oW,hld,ebd];refine dI (a:=(lines[i],false)) hrb hll _ _ _ _ ?_;rintro _ rfl _;rw [hld,zB];refine H5.zwt hrb (fun b hb'=>(hb b (Zby hb')).1) hnew (k:=1) rfl fun h6 H6 => ?_;rw [yt.aQ,qc (by omega)];refine hR (lines.length-(i+1)) _ _ _ _ _ (by omega) ⟨i+1,rfl,rfl,by omega,?_⟩;have e:lines.take (i+1)=lines.take i++[lines[i]]:=by rw [Zal,hx];rfl
 rw [e];exact H6
def imL (p l:List Int):List Int:=l.map fun x=>p.getD x.toNat 0
theorem zgk (p l:List Int) (x:Int):imL p (l++[x])=imL p l++[p.getD x.toNat 0]:=by unfold imL;rw [Zbv];rfl
theorem ztt {p l:List Int} (hp:RB p) (hl:∀ x∈l,0<=x/\x<(p.length:Int)):RB (imL p l):=fun y hy=>by
 obtain ⟨x,hx,rfl⟩:=List.mem_map.1 hy;obtain ⟨h1,h2⟩:=hl x hx;refine hp _ ?_;show p.getD x.toNat 0∈p;rw [Zac,List.getElem?_eq_getElem (by omega)];exact Zan _
end Go.Ev
namespace Go.Ev
theorem mX {cells:Int}:∀ {r prev:List (List Int)},gO cells prev r=0->(∀ l∈r,l≠[]/\yR cells none l=0/\l∉prev)/\r.Nodup
 | [],_,_=>⟨fun l hl=>(by cases hl),.nil⟩
 | l::r,prev,h=>by
  rw [gO] at h;by_cases c:jP cells prev l=0
  case neg=>rw [if_pos c] at h;exact absurd h c
  rw [if_neg (fun q=>q c)] at h;obtain ⟨h1,h2⟩:=mX h;have hl:l≠[]/\yR cells none l=0/\l∉prev:=by
   rw [jP] at c;by_cases c1:l=[]
   ·rw [if_pos c1] at c;cases c
   rw [if_neg c1] at c;by_cases c2:yR cells none l=0
   case neg=>rw [if_pos c2] at c;exact absurd c c2
   rw [if_neg (fun q=>q c2)] at c;by_cases c3:l∈prev
   ·rw [if_pos c3] at c;cases c
   ·exact ⟨c1,c2,c3⟩
  refine ⟨fun q hq => ?_,List.nodup_cons.2 ⟨fun q=>(h1 l q).2.2 (by simp),h2⟩⟩;rcases List.mem_cons.1 hq with rfl | hq
  ·exact hl
  ·exact ⟨(h1 q hq).1,(h1 q hq).2.1,fun z=>(h1 q hq).2.2 (by simp [z])⟩
theorem m5 {cells:Int}:∀ {l:List Int} {p:Option Int},yR cells p l=0->(∀ x∈l,0<=x/\x<cells)/\l.Pairwise (· < ·)/\∀ q,p=some q->∀ x∈l,q<x
 | [],p,_=>⟨fun x hx=>(by cases hx),.nil,fun q _ x hx=>(by cases hx)⟩
 | c::l,p,h=>by
  rw [yR] at h;by_cases c1:c<0\/cells<=c
  ·rw [if_pos c1] at h;cases h
  rw [if_neg c1] at h;by_cases c2:p.any (fun q=>decide (c<=q))=true
  ·rw [if_pos c2] at h;cases h
  rw [if_neg c2] at h;obtain ⟨h1,h2,h3⟩:=m5 h;have hp:∀ q,p=some q->q<c:=fun q hq=>by
   subst hq;have:¬ c<=q:=fun z=>c2 (decide_eq_true z);omega
  refine ⟨fun x hx => ?_,List.pairwise_cons.2 ⟨fun x hx=>h3 c rfl x hx,h2⟩,fun q hq x hx => ?_⟩
  ·rcases List.mem_cons.1 hx with rfl | hx
   ·omega
   ·exact h1 x hx
  ·rcases List.mem_cons.1 hx with rfl | hx
   ·exact hp q hq
   ·have:=hp q hq;have:=h3 c rfl x hx;omega
theorem zle {cells:Int} {lines:List (List Int)} (h:jK cells lines=0):1<=cells/\cells<=256/\lines.length<=128/\lines.Nodup/\∀ l∈lines,l≠[]/\(∀ x∈l,0<=x/\x<cells)/\l.Pairwise (· < ·):=by
 rw [jK] at h;by_cases c1:cells<1\/256<cells
 ·rw [if_pos c1] at h;cases h
 rw [if_neg c1] at h;by_cases c2:128<lines.length
 ·rw [if_pos c2] at h;cases h
 rw [if_neg c2] at h;obtain ⟨h1,h2⟩:=mX h;refine ⟨by omega,by omega,by omega,h2,fun l hl => ?_⟩;obtain ⟨a,b,_⟩:=h1 l hl;obtain ⟨d,e,_⟩:=m5 b;exact ⟨a,d,e⟩
end Go.Ev
namespace Go.Ev
open Go Go.Proofs
variable {B:Nat}
set_option maxRecDepth 100000
theorem zq2 {l:List Int} {n:Int} (h:∀ x∈l,0<=x/\x<n) (ha:l.Pairwise (· < ·)) (hn:n<=256):l.length<=256:=by
 have hnd:l.Nodup:=ha.imp fun h e=>by omega
 have:=lenG hnd (r:=(List.range 256).map fun k:Nat=>(k:Int)) fun x hx=>by
  obtain ⟨a,b⟩:=h x hx;exact List.mem_map.2 ⟨x.toNat,List.mem_range.2 (by omega),by omega⟩
 simpa using this
def d9 (lines:List (List Int)) (p:List Int):Bool:=lines.all fun l=>decide (srt (imL p l)∈lines)
end Go.Ev
namespace Go.Ev
theorem zcj {n:Nat} {f:List Int}:f∈uF n n []↔rX f/\f.length=n:=by
 rw [mG .nil];constructor
 ·rintro ⟨t,rfl,h1,h2,h3⟩;exact ⟨⟨h2,fun x hx=>by have:=h3 x hx;rw [h1];exact this⟩,h1⟩
 ·rintro ⟨⟨h1,h2⟩,h3⟩;exact ⟨f,rfl,h3,h1,fun x hx=>by have:=h2 x hx;rw [h3] at this;exact this⟩
def okA (lines:List (List Int)) (c:Nat) (f:List Int):Bool:=(lines.filter fun l=>decide (l.getLastD 0=(c:Int))).all fun l=>decide (srt (imL f l)∈lines)
def autZ (lines:List (List Int)) (n:Nat):Nat->List Int->List (List Int)
 | 0,pre=>[pre]
 | r+1,pre=>(List.range n).flatMap fun (x:Nat)=>if (x:Int)∈pre then [] else if okA lines pre.length (pre++[(x:Int)]) then autZ lines n r (pre++[(x:Int)]) else []
theorem zde {f g l:List Int} (h:∀ x∈l,f.getD x.toNat 0=g.getD x.toNat 0):imL f l=imL g l:=List.map_congr_left h
theorem zot {f t:List Int} {i:Nat} (h:i<f.length):(f++t).getD i 0=f.getD i 0:=by
 rw [Zac,Zac,List.getElem?_append_left h]
theorem m0 {α β:Type} {f:α->List β} {p:β->Bool}:∀ l:List α,(l.flatMap f).filter p=l.flatMap fun x=>(f x).filter p
 | []=>rfl
 | x::l=>by rw [Zbc,Zbc,List.filter_append,m0 l]
theorem zck {α β:Type} {f g:α->List β}:∀ {l:List α},(∀ x∈l,f x=g x)->l.flatMap f=l.flatMap g
 | [],_=>rfl
 | x::l,h=>by rw [Zbc,Zbc,h x (by simp),zck fun y hy=>h y (by simp [hy])]
def LnOk (n:Nat) (l:List Int):Prop:=∀ x∈l,0<=x/\x<=l.getLastD 0/\l.getLastD 0<(n:Int)
def frmA (lines:List (List Int)) (k:Nat) (f:List Int):Bool:=lines.all fun l=>decide (l.getLastD 0<(k:Int))||decide (srt (imL f l)∈lines)
theorem zou (lines:List (List Int)) (k:Nat) (f:List Int):frmA lines k f=(okA lines k f&&frmA lines (k+1) f):=by
 rw [Zbu,Zag];simp only [frmA,okA,Zaf,Zbh,Zca,decide_eq_true_eq];constructor
 ·intro h;refine ⟨fun l hl => ?_,fun l hl => ?_⟩
  ·rcases h l hl.1 with q | q
   ·omega
   ·exact q
  ·rcases h l hl with q | q
   ·exact .inl (by omega)
   ·exact .inr q
 ·rintro ⟨h1,h2⟩ l hl;rcases h2 l hl with q | q
  ·by_cases c:l.getLastD 0=(k:Int)
   ·exact .inr (h1 l ⟨hl,c⟩)
   ·exact .inl (by omega)
  ·exact .inr q
theorem zq3 {n:Nat} {lines:List (List Int)} (hl:∀ l∈lines,LnOk n l) {pre t:List Int} {k:Nat} (h:k<pre.length):okA lines k (pre++t)=okA lines k pre:=by
 unfold okA;rw [Zbu,Zaf,Zaf];have e:∀ l∈lines.filter fun l=>decide (l.getLastD 0=(k:Int)),imL (pre++t) l=imL pre l:=fun l hm=>by
  obtain ⟨h1,h2⟩:=List.mem_filter.1 hm;have h2:=of_decide_eq_true h2;refine zde fun x hx=>zot ?_;have:=hl l h1 x hx;omega
 exact ⟨fun q l hm=>by rw [<- e l hm];exact q l hm,fun q l hm=>by rw [e l hm];exact q l hm⟩
theorem zjh {n:Nat} {lines:List (List Int)} (hl:∀ l∈lines,LnOk n l) (hne:∀ l∈lines,l≠[]):∀ (r:Nat) (pre:List Int),pre.length+r=n->autZ lines n r pre=(uF n r pre).filter (frmA lines pre.length)
 | 0,pre,hr=>by
  rw [autZ,uF,Zbn,List.filter_nil,if_pos];refine List.all_eq_true.2 fun l hm => ?_;obtain ⟨x,t,e⟩:=List.exists_cons_of_ne_nil (hne l hm);have:=(hl l hm x (by rw [e];simp)).2.2;rw [decide_eq_true (by omega)];rfl
 | r+1,pre,hr=>by
  rw [autZ,uF,m0];refine zck fun x _ => ?_;by_cases c:(x:Int)∈pre
  ·rw [if_pos c,if_pos c];rfl
  rw [if_neg c,if_neg c];have hlen:(pre++[(x:Int)]).length=pre.length+1:=by simp
  have key:∀ f∈uF n r (pre++[(x:Int)]),frmA lines pre.length f=(okA lines pre.length (pre++[(x:Int)])&&frmA lines (pre.length+1) f):=fun f hf=>by
   obtain ⟨t,rfl⟩:=zdc hf;rw [zou,zq3 hl (by omega)]
  rw [List.filter_congr key];cases okA lines pre.length (pre++[(x:Int)]) with
  | true =>
   rw [if_pos rfl,zjh hl hne r _ (by rw [hlen];omega),hlen];simp only [Bool.true_and]
  | false =>
   rw [if_neg (by simp)];simp
def autL (n:Nat) (lines:List (List Int)):List (List Int):=(uF n n []).filter (d9 lines)
theorem zji {n:Nat} {lines:List (List Int)} (hl:∀ l∈lines,LnOk n l) (hne:∀ l∈lines,l≠[]):autZ lines n n []=autL n lines:=by
 rw [zjh hl hne n [] (by simp),autL];refine List.filter_congr fun f _ => ?_;rw [Zbu];simp only [frmA,d9,Zaf,Zca,decide_eq_true_eq];refine ⟨fun h l hm => ?_,fun h l hm=>.inr (h l hm)⟩;rcases h l hm with q | q
 ·obtain ⟨x,t,e⟩:=List.exists_cons_of_ne_nil (hne l hm);have:=hl l hm x (by rw [e];simp);have q:l.getLastD 0<(0:Int):=q;omega
 ·exact q
end Go.Ev
namespace Go.Ev
open Go Go.Proofs
variable {B:Nat}
set_option maxRecDepth 100000
theorem zjj (l:List Int) (op:AV->OP):uP [.zf,.bool false] [(0,1,encI l)] op=op (.agg [encI l,.bool false]):=nr rfl
theorem zlf {h0 h:T Blk} {nx p id:Pa} {L:List Ob} {k n:Nat} {cap:Option Nat} {l:List AV} {K:Kw Prop} (H:Hp h0 h nx L) (hk:L[k]? = some (.arr id l)) (hf:∀ v∈l,rU v=true) (hn:n<=1000000) (hl:l.length=n)
  (hK:K (.lst 1 n l) h nx=.ok True):(CS Tryz.prog B).fn 106 p [.sl id 0 n cap 1] h nx K=.ok True:=by
 refine zg9 (Q:=(· = .lst 1 n l)) (fun hfr K hK=>zR zT yu 9 fun _ => ?_) (fun v hv _=>by rw [hv];exact hK);rw [ak.go];have Hb:=Hp.init hfr;have harr:jd h id l:=H.own _ (Zaa hk)
 have e:(zy .eql (.nil .sl) (.sl id 0 n cap 1) .zf fun v1=>yC v1 (K .zf h nx) (yV 1 0 [I 0] [] h nx fun v2 h3 n4=>sJ 1 8 v2 (.sl id 0 n cap 1) h3 n4 fun v5 h6 n7=>K v5 h6 n7)) =
   (yV 1 0 [I 0] [] h nx fun v2 h3 n4=>sJ 1 8 v2 (.sl id 0 n cap 1) h3 n4 fun v5 h6 n7=>K v5 h6 n7):=nr rfl
 rw [e]
 refine Hb.copy (new:=l) (fun h1 hh=>jd.rd (harr.congr (hh id (by
  obtain ⟨op,t,g1,_⟩:=harr;rw [g1];intro q;cases q))) (by rw [hl,Zcb])) hl hf (by decide) hn fun v X h' nx' H' _ _ hF => ?_
 exact hK _ _ _ H'.fr H'.keep ⟨_,hF _ _ _ _ H' (by simp),rfl⟩
theorem zov {p l:List Int} {n:Nat} {lines:List (List Int)} {h0 h:T Blk} {nx p0 b gm cb:Pa} {L:List Ob} {K:Kw Prop} (H:Hp h0 h nx (.arr b [.map gm]::.map gm (sQ lines)::.arr cb (p.map I)::L)) (hpn:p.length=n) (hp:RB p) (hl:∀ x∈l,0<=x/\x<(p.length:Int)) (hl1:1<=l.length) (hl2:l.length<=1000) (hks:∀ q∈lines,RB q)
  (hK:∀ h' nx',Hp h0 h' nx' (.arr b [.map gm]::.map gm (sQ lines)::.arr cb (p.map I)::L)->K (.bool (decide (srt (imL p l)∈lines))) h' nx'=.ok True):(CS Tryz.prog B).fn 169 p0 [.sl cb 0 n (some n) 1,encI l,.ptr b 0] h nx K=.ok True:=by
 refine jG (p:=.of 169) (K:=K) (zR zT yu 10000000 fun hf => ?_) fun _ _ _ _ q=>q;rw [yg.go,yg.t22,zA,yg.fU,yg.t21,zA,yg.fV,yg.t20,zA,yg.t15,zA,yg.rP,zH,yg.t14,zV];refine yg.zeo (fun m x4 x8 h' nx'=>∃ (i:Nat) (o:Option Pa),x8=I i/\x4=jy o 1 i/\m=l.length-i/\i<=l.length/\Hp h0 h' nx' (.gro o 1 i ((imL p (l.take i)).map I)::.arr b [.map gm]::.map gm (sQ lines)::.arr cb (p.map I)::L)) (m:=l.length) (by omega) ⟨0,none,rfl,rfl,by omega,by omega,H.eY 1⟩ ?_;rintro m z4 z5 z8 z9 h5 nx5 R ⟨i,o,rfl,rfl,rfl,hi,H5⟩ hR;rw [yg.t12,zA,yg.au,uf];by_cases hlt:i<l.length
 case pos =>
  have hx:l[i]? = some l[i]:=List.getElem?_eq_getElem hlt;obtain ⟨a1,a2⟩:=hl _ (Zan hlt);have hpx:p[l[i].toNat]? = some (p.getD l[i].toNat 0):=by rw [Zac,List.getElem?_eq_getElem (by omega)];rfl
  rw [decide_eq_true (by omega),yg.t11,zA,yg.t4,zG,yg.v9,zD,zO,yg.t10,zA,yg.t8,zV,yg.t7,zA,yg.t5_s,bQ rfl hlt,ldL (su hx),yg.oW,sIx (i:=l[i].toNat) (by omega) (by omega),H5.load (k:=3) rfl (su hpx)];refine H5.zx (l:=[I (p.getD l[i].toNat 0)]) rfl fun tb h15 nx15 H15 => ?_;refine H15.appN (k:=1) (o:=o) (c:=1) (esz:=1) (new:=[I (p.getD l[i].toNat 0)]) rfl (jd.rd (l:=[I (p.getD l[i].toNat 0)]) (n:=1) (e:=1) (H15.own _ (Zai ..)) rfl) rfl rfl (by decide) (by decide) (by omega) fun o'' h16 nx16 _ H16 => ?_;rw [yg.aQ,qc (by omega)];refine hR (l.length-(i+1)) _ _ _ _ _ _ (by omega) ⟨i+1,o'',rfl,rfl,rfl,by omega,?_⟩;have e:(imL p (l.take (i+1))).map I=(imL p (l.take i)).map I++[I (p.getD l[i].toNat 0)]:=by
   rw [Zal,hx];show (imL p (l.take i++[l[i]])).map I=_;rw [zgk,Zbv];rfl
  rw [e];exact H16.drop
 obtain rfl:i=l.length:=by omega
 rw [Zam (Zaj _)] at H5;obtain ⟨id,rfl⟩:∃ id,o=some id:=by
  cases o with
  | some id=>exact ⟨id,rfl⟩
  | none=>obtain ⟨h1,h2⟩:=H5.own _ (Zai ..);omega
 rw [decide_eq_false (by omega),yg.t11,zA,yg.t4,zG,yg.v9,zC,jB,jX,yg.t19,zA,yg.fZ];refine zq1 H5 (k:=0) rfl (by omega) fun h6 H6 => ?_;have hsl:(srt (imL p l)).length=l.length:=by rw [(qK _).length_eq];exact Zar _
 have hrb:RB (srt (imL p l)):=fun x hx=>ztt hp hl x ((qK _).mem_iff.1 hx);have ebd:∀ op:AV->OP,uP [.zf,.bool false] [(0,1,jy (some id) 1 l.length)] op=op (.agg [jy (some id) 1 l.length,.bool false]):=fun op=>nr rfl;rw [yg.t18,zA,yg.aO,H6.load (k:=1) (i:=0) rfl rfl,ebd];obtain ⟨h7,hkp,H7,hfz⟩:=Hp.zs3 (o:=some id) (e:=1) (n:=l.length) (l:=(srt (imL p l)).map I) H6 fun v hv=>by obtain ⟨a,_,rfl⟩:=List.mem_map.1 hv;rfl
 have hfz2:FrzL h7 h6 [.agg [jy (some id) 1 l.length,.bool false]] [encS (srt (imL p l),false)]:=by
  have e:AV.lst 1 l.length ((srt (imL p l)).map I)=encI (srt (imL p l)):=by rw [<- hsl]
  rw [e] at hfz;exact .cons (pD hfz (zN rfl) rfl) .nil
 refine zsx hkp hfz2 (dI (a:=(srt (imL p l),false)) hrb (show (srt (imL p l)).length<=1000 by omega) _ _ _ _ ?_);rintro _ rfl _;have hld:∀ op:AV->OP,zE (.ptr b 0) h7 op=op (.map gm):=fun op=>H7.load (k:=0) (i:=0) rfl rfl;rw [hld,zB,zwr hrb hks H7 (k:=1) rfl];simp only [yK,jM];rw [yg.ret];exact hK _ _ H7
section
variable {h0:T Blk} {n:Nat} {lines:List (List Int)} {b1 bo bc bu bd bk bz kb gm cb ub dn:Pa} {o:Nat->Option Pa}
noncomputable abbrev cloA (b1 bo bc bu bd bk bz:Pa):AV:=.fn 105 (.of 105) [.ptr b1 0,.ptr bo 0,.ptr bc 0,.ptr bu 0,.ptr bd 0,.ptr bk 0,.ptr bz 0]
abbrev wT (lines:List (List Int)) (c:Nat):List (List Int):=lines.filter fun l=>decide (l.getLastD 0=(c:Int))
def usdA (n:Nat) (pre:List Int):List AV:=rV n fun x:Nat=>.bool (decide ((x:Int)∈pre))
noncomputable abbrev Ga (n:Nat) (lines:List (List Int)) (b1 bo bc bu bd bk bz kb gm cb ub dn:Pa) (o:Nat->Option Pa) (oo:Option Pa) (cl pre:List Int) (out:List Sym):List Ob :=
 .arr kb [.map gm]::.map gm (sQ lines)::.arr cb (cl.map I)::.arr ub (usdA n pre)::.arr b1 [I n,qo lines]::.arr bo [jy oo 2 out.length]::.gro oo 2 out.length (yL out)::.arr bc [.sl cb 0 n (some n) 1]::.arr bu [.sl ub 0 n (some n) 1]::.arr bd [.sl dn 0 n (some n) 1]::.arr bk [.fn 169 (.of 169) [.ptr kb 0]]::.arr bz [cloA b1 bo bc bu bd bk bz]::.arr dn (rV n fun c=>jy (o c) 1 (wT lines c).length)::rV n (fun c=>Ob.gro (o c) 1 (wT lines c).length ((wT lines c).map encI))
theorem zow {n:Nat} {pre:List Int} {x:Nat}:(usdA n pre).set x (.bool true)=usdA n (pre++[(x:Int)]):=by
 unfold usdA;rw [dX];refine qN fun j _ => ?_;by_cases c:j=x
 ·subst c;rw [if_pos rfl,decide_eq_true (by simp)]
 ·rw [if_neg c];have e:((j:Int)∈pre++[(x:Int)])↔(j:Int)∈pre:=by
   rw [Zas,Zbd];exact ⟨fun q=>q.resolve_right (by omega),.inl⟩
  simp only [e]
theorem zia {n:Nat} {pre:List Int} {x:Nat} (hx:(x:Int)∉pre):(usdA n (pre++[(x:Int)])).set x (.bool false)=usdA n pre:=by
 unfold usdA;rw [dX];refine qN fun j _ => ?_;by_cases c:j=x
 ·subst c;rw [if_pos rfl,decide_eq_false hx]
 ·rw [if_neg c];have e:((j:Int)∈pre++[(x:Int)])↔(j:Int)∈pre:=by
   rw [Zas,Zbd];exact ⟨fun q=>q.resolve_right (by omega),.inl⟩
  simp only [e]
theorem zox {α β:Type} {g:Nat->List β} {x k:Nat} (_:α->α):((List.range x).flatMap g).length<=((List.range (x+k)).flatMap g).length:=by
 rw [List.range_add,Zbs,Zat];omega
abbrev syF (p:List Int):Sym:=(p,false)
theorem zdf (hn6:n<=100) (hm:lines.length<=1000) (hl:∀ l∈lines,LnOk n l/\1<=l.length/\l.length<=1000/\RB l) :
  ∀ (r:Nat) (pre cl:List Int) (out:List Sym) (oo:Option Pa) (p:Pa) (h:T Blk) (nx:Pa) (K:Kw Prop),pre.length+r=n->cl.length=n->cl.take pre.length=pre->(∀ v∈cl,0<=v/\v<256)->out.length+(autZ lines n r pre).length<=1000->Hp h0 h nx (Ga n lines b1 bo bc bu bd bk bz kb gm cb ub dn o oo cl pre out) ->
   (∀ oo' cl' h' nx',cl'.length=n->cl'.take pre.length=pre->(∀ v∈cl',0<=v/\v<256)->Hp h0 h' nx' (Ga n lines b1 bo bc bu bd bk bz kb gm cb ub dn o oo' cl' pre (out++(autZ lines n r pre).map syF))->K (.bool true) h' nx'=.ok True) ->
   (CS Tryz.prog B).fn 105 p [I pre.length,.ptr b1 0,.ptr bo 0,.ptr bc 0,.ptr bu 0,.ptr bd 0,.ptr bk 0,.ptr bz 0] h nx K=.ok True
 | 0,pre,cl,out,oo,p,h,nx,K,hr,hcl,htk,hcv,hb,H,hK=>by
  refine jG (p:=.of 105) (K:=K) (zR zT yu 1000000 fun hf => ?_) fun _ _ _ _ q=>q;rw [zh.go,zh.t60,zA,zh.fU,zh.t59,zA,zh.t7,zA,zh.fV,sFx,H.load (k:=4) (i:=0+0) rfl rfl,pq,decide_eq_true (by omega),zh.t6,zG,zh.v12,zD,zh.t5,zA,zh.rP,H.load (k:=5) (i:=0) rfl rfl,H.load (k:=7) (i:=0) rfl rfl];refine zlf H (k:=2) rfl (fun v hv=>by obtain ⟨x,_,rfl⟩:=List.mem_map.1 hv;rfl) (by omega) (by simpa using hcl) ?_;have ecl:AV.lst 1 n (cl.map I)=encI cl:=by rw [<- hcl]
  rw [autZ,List.length_singleton] at hb;rw [H.load (k:=5) (i:=0) rfl rfl,zB,ecl,zjj];refine H.zx (l:=[encI cl,.bool false]) rfl fun tb h2 nx2 H2 => ?_;rw [H2.load (k:=6) (i:=0) rfl rfl,zB,tH];refine H2.appN (k:=7) (o:=oo) (c:=1) (esz:=2) (new:=[encI cl,.bool false]) rfl (jd.rd (l:=[encI cl,.bool false]) (n:=1) (e:=2) (H2.own _ (Zai ..)) rfl) rfl rfl (by decide) (by decide) (by omega) fun o'' h3 nx3 _ H3 => ?_;refine H3.store (k:=6) rfl (by simp) (uD _ _ _) fun h4 H4 => ?_
  have H5:Hp h0 h4 nx3 (Ga n lines b1 bo bc bu bd bk bz kb gm cb ub dn o o'' cl pre (out++[(cl,false)])):=H4.drop.cast (by
   have e1:yL (out++[((cl,false):Sym)])=yL out++[encI cl,.bool false]:=zcf out (cl,false);have e2:(out++[((cl,false):Sym)]).length=out.length+1:=by simp
   simp only [Ga,e1,e2];rfl)
  rw [zh.t4,zA,zh.au,H5.load (k:=5) (i:=0) rfl rfl,H5.zaa (k:=6) rfl,fD,decide_eq_true (by rw [Zat,List.length_singleton];omega)];simp only [yK,jM];rw [zh.ret];have e:cl=pre:=by rw [<- htk,Zam (by omega)]
  refine hK o'' cl _ _ hcl htk hcv (H5.cast ?_);rw [autZ,<- e];rfl
 | r+1,pre,cl,out,oo,p,h,nx,K,hr,hcl,htk,hcv,hb,H,hK=>by
  refine jG (p:=.of 105) (K:=K) (zR zT yu 10000000 fun hf => ?_) fun _ _ _ _ q=>q;rw [zh.go,zh.t60,zA,zh.fU,zh.t59,zA,zh.t7,zA,zh.fV,sFx,H.load (k:=4) (i:=0+0) rfl rfl,pq,decide_eq_false (by omega),zh.t6,zG,zh.v12,zC,zO,zh.t58,zA,zO,zh.t57,zA,zh.t54,zA,zh.aG,sFx,H.load (k:=4) (i:=0+0) rfl rfl,zh.t53,zV]
  let g:Nat->List (List Int):=fun x=>if (x:Int)∈pre then [] else if okA lines pre.length (pre++[(x:Int)]) then autZ lines n r (pre++[(x:Int)]) else []
  have hg:autZ lines n (r+1) pre=(List.range n).flatMap g:=rfl;have hgs:∀ x:Nat,(List.range (x+1)).flatMap g=(List.range x).flatMap g++g x:=fun x=>by rw [List.range_succ,Zbs];simp
  rw [hg] at hb hK;refine zh.zum (fun m x14 h' nx'=>∃ (x:Nat) (oo:Option Pa) (cl:List Int),x14=I x/\m=n-x/\x<=n/\cl.length=n/\cl.take pre.length=pre/\(∀ v∈cl,0<=v/\v<256)/\Hp h0 h' nx' (Ga n lines b1 bo bc bu bd bk bz kb gm cb ub dn o oo cl pre (out++((List.range x).flatMap g).map syF))) (m:=n) (by omega) ⟨0,oo,cl,rfl,by omega,by omega,hcl,htk,hcv,H.cast (by simp)⟩ ?_
  clear H hcl htk hcv
  rintro m z8 z9 z10 z11 z14 z15 z16 z17 z18 z19 z20 z21 z22 h1 nx1 R ⟨x,oo,cl,rfl,rfl,hx,hcl,htk,hcv,H⟩ hR;rw [zh.t51,zA,zh.aQ,uf];by_cases hlt:x<n
  case neg =>
   obtain rfl:x=n:=by omega
   rw [decide_eq_false (by omega),zh.t50,zA,zh.t10,zG,zh.v15,zC,jB,jX,zh.t56,zA,zh.zun];simp only [yK,jM];rw [zh.ret];exact hK _ _ _ _ hcl htk hcv H
  have next:∀ z8 z9 z10 z11 z15 z16 z17 z18 z19 z20 z21 z22 oo cl h2 nx2,cl.length=n->cl.take pre.length=pre->(∀ v∈cl,0<=v/\v<256)->Hp h0 h2 nx2 (Ga n lines b1 bo bc bu bd bk bz kb gm cb ub dn o oo cl pre (out++((List.range x).flatMap g).map syF++(g x).map syF)) ->
    R (zh.fr (I pre.length) (.ptr b1 0) (.ptr bo 0) (.ptr bc 0) (.ptr bu 0) (.ptr bd 0) (.ptr bk 0) (.ptr bz 0) z8 z9 z10 z11 (.bool false) (I n) (I ((x:Int)+1)) z15 z16 z17 z18 z19 z20 z21 z22) h2 nx2=.ok True :=
   fun z8 z9 z10 z11 z15 z16 z17 z18 z19 z20 z21 z22 oo cl h2 nx2 q1 q2 q3 q4 =>
    hR (n-(x+1)) _ _ _ _ _ _ _ _ _ _ _ _ _ _ _ (by omega) ⟨x+1,oo,cl,rfl,rfl,by omega,q1,q2,q3,q4.cast (by rw [hgs,Zbv,Zbe])⟩
  have hux:(usdA n pre)[x]? = some (.bool (decide ((x:Int)∈pre))):=u9 hlt;rw [decide_eq_true (by omega),zh.t50,zA,zh.t10,zG,zh.v15,zD,zO,zh.t49,zA,zh.t47,zV,zh.t46,zA,zh.tJ,zh.t45,zA,zh.t14,zA,zh.zan,H.load (k:=8) (i:=0) rfl rfl,sIx (i:=x) rfl hlt,H.load (k:=3) rfl hux,zh.t13,zG,zh.v16];by_cases hmem:(x:Int)∈pre
  ·have e:g x=[]:=if_pos hmem;rw [e] at next;rw [decide_eq_true hmem,zD,jB,jX,zh.zls,qc (by omega)];exact next _ _ _ _ _ _ _ _ _ _ _ _ oo cl _ _ hcl htk hcv (H.cast (by simp))
  rw [decide_eq_false hmem,zC,zO,zh.t44,zA,zh.eG,H.load (k:=7) (i:=0) rfl rfl,sIx (i:=pre.length) rfl (by omega)];refine H.store (k:=2) rfl (by simp;omega) rfl fun h2 H2 => ?_;have H2:Hp h0 h2 nx1 (Ga n lines b1 bo bc bu bd bk bz kb gm cb ub dn o oo (cl.set pre.length (x:Int)) pre (out++((List.range x).flatMap g).map syF)):=H2.cast (by simp only [List.set_cons_succ,List.set_cons_zero];rw [<- List.map_set]);have hcl2:(cl.set pre.length (x:Int)).length=n:=by simpa using hcl
  have htk1:(cl.set pre.length (x:Int)).take (pre.length+1)=pre++[(x:Int)]:=by
   rw [Zal,List.take_set_of_le (Zaj _),htk,List.getElem?_set,if_pos rfl,if_pos (by omega)];rfl
  have htk2:(cl.set pre.length (x:Int)).take pre.length=pre:=by rw [List.take_set_of_le (Zaj _),htk]
  have hcv2:∀ v∈cl.set pre.length (x:Int),0<=v/\v<256:=fun v hv=>by
   rcases List.mem_or_eq_of_mem_set hv with q | rfl
   ·exact hcv v q
   ·omega
  clear H hcv htk hcl
  generalize cl.set pre.length (x:Int)=cl at *
  have hcell:pre.length<n:=by omega
  have hdn:(rV n fun c=>jy (o c) 1 (wT lines c).length)[pre.length]? = some (jy (o pre.length) 1 (wT lines pre.length).length):=u9 hcell;have kdn:∀ (cl pre':List Int) oo out,(Ga n lines b1 bo bc bu bd bk bz kb gm cb ub dn o oo cl pre' out)[pre.length+13]? = some (.gro (o pre.length) 1 (wT lines pre.length).length ((wT lines pre.length).map encI)):=fun cl pre' oo out=>by
   show (rV n _)[pre.length]? = _;rw [u9 hcell]
  rw [zh.t43,zA,zh.t31,zA,zh.fZ,H2.load (k:=9) (i:=0) rfl rfl,sIx (i:=pre.length) rfl hcell,H2.load (k:=12) rfl hdn,H2.zaa (k:=pre.length+13) (kdn ..)];have hok:okA lines pre.length (pre++[(x:Int)])=(wT lines pre.length).all fun l=>decide (srt (imL cl l)∈lines):=by
   unfold okA;rw [Zbu,Zaf,Zaf];have e:∀ l∈wT lines pre.length,imL (pre++[(x:Int)]) l=imL cl l:=fun l hm'=>by
    obtain ⟨hm1,hm2⟩:=List.mem_filter.1 hm';have hlast:l.getLastD 0=((pre.length:Nat):Int):=of_decide_eq_true hm2;refine zde fun y hy => ?_;have:=(hl l hm1).1 y hy;rw [<- htk1,Zac,List.getElem?_take_of_lt (by omega),<- Zac]
   exact ⟨fun q l hm'=>by rw [<- e l hm'];exact q l hm',fun q l hm'=>by rw [e l hm'];exact q l hm'⟩
  have hle:∀ l∈wT lines pre.length,LnOk n l/\1<=l.length/\l.length<=1000/\RB l:=fun l hm'=>hl l (List.mem_filter.1 hm').1;have hll:(wT lines pre.length).length<=1000:=Zbj (Zcf _ _) hm
  generalize hes:wT lines pre.length=es at *
  rw [zh.t30,zV];refine zh.zui (fun m x19 h' nx'=>∃ j:Nat,x19=I j/\es.length-j=m/\j<=es.length/\((es.take j).all fun l=>decide (srt (imL cl l)∈lines))=true/\Hp h0 h' nx' (Ga n lines b1 bo bc bu bd bk bz kb gm cb ub dn o oo cl pre (out++((List.range x).flatMap g).map syF))) (m:=es.length) (by omega) ⟨0,rfl,rfl,by omega,rfl,H2⟩ ?_;rintro m y10 y19 y20 y21 h3 nx3 R2 ⟨j,rfl,rfl,hj,hall,H3⟩ hR2;rw [zh.t28,zA,zh.aO,uf];by_cases hjt:j<es.length
  ·have hxl:es[j]? = some es[j]:=List.getElem?_eq_getElem hjt;obtain ⟨w1,w2,w3,w4⟩:=hle es[j] (Zan hjt);have hget:(es.map encI)[j]? = some (encI es[j]):=by rw [List.getElem?_map,hxl];rfl
   obtain ⟨id,q1,q2⟩:=H3.zvy (k:=pre.length+13) (kdn ..) hget;rw [decide_eq_true (by omega),zh.t27,zA,zh.t18,zG,zh.v20,zD,zO,zh.t26,zA,zh.t24,zV,zh.t23,zA,zh.zal,q1,q2,zh.t22,zA,zh.zeq,H3.load (k:=10) (i:=0) rfl rfl,H3.load (k:=7) (i:=0) rfl rfl,xP];show (CS Tryz.prog B).fn 169 (.of 169) [.sl cb 0 n (some n) 1,encI es[j],.ptr kb 0] h3 nx3 _=_;refine zov H3 hcl2 (fun v hv=>hcv2 v hv) (fun y hy=>by have:=w1 y hy;omega) w2 w3 (fun q hq=>(hl q hq).2.2.2) fun h4 nx4 H4 => ?_;rw [yG,zh.t21,zG,zh.v21];by_cases d:srt (imL cl es[j])∈lines
   ·rw [decide_eq_true d,Zae,zC,zO,zh.zuh,qc (by omega)];exact hR2 (es.length-(j+1)) _ _ _ _ _ _ (by omega) ⟨j+1,rfl,rfl,by omega,uT hxl hall (decide_eq_true d),H4⟩
   ·have e:g x=[]:=by
     show (if (x:Int)∈pre then _ else _)=_;rw [if_neg hmem,if_neg];intro q;rw [hok] at q;exact d (of_decide_eq_true (List.all_eq_true.1 q _ (Zan hjt)))
    rw [e] at next;rw [decide_eq_false d,Zad,zD,jB,zfe (id:=3) (i:=1) _ (by decide),zfe (id:=2) (i:=1) _ (by decide),jX,zh.zls,qc (by omega)];exact next _ _ _ _ _ _ _ _ _ _ _ _ oo cl _ _ hcl2 htk2 hcv2 (H4.cast (by simp))
  rw [Zam (by omega)] at hall;have e:g x=autZ lines n r (pre++[(x:Int)]):=by
   show (if (x:Int)∈pre then _ else _)=_;rw [if_neg hmem,if_pos (by rw [hok];exact hall)]
  have hbx:out.length+((List.range x).flatMap g).length+(g x).length<=1000:=by
   have:=zox (α:=Nat) (g:=g) (x:=x+1) (k:=n-(x+1)) id;rw [hgs,Zat,show x+1+(n-(x+1))=n by omega] at this;omega
  rw [decide_eq_false (by omega),zh.t27,zA,zh.t18,zG,zh.v20,zC,jB,jX,zh.t42,zA,zh.zuj,H3.load (k:=8) (i:=0) rfl rfl,sIx (i:=x) rfl hlt];refine H3.store (k:=3) rfl (by rw [usdA];simpa [rV] using hlt) rfl fun h5 H5 => ?_;have H5:Hp h0 h5 nx3 (Ga n lines b1 bo bc bu bd bk bz kb gm cb ub dn o oo cl (pre++[(x:Int)]) (out++((List.range x).flatMap g).map syF)):=H5.cast (by simp only [List.set_cons_succ,List.set_cons_zero];rw [zow]);rw [zh.t41,zA,zh.zuk,H5.load (k:=11) (i:=0) rfl rfl,qc (by omega),xP];have hlen:(pre++[(x:Int)]).length=pre.length+1:=by simp
  show (CS Tryz.prog B).fn 105 (.of 105) [I ((pre.length:Int)+1),.ptr b1 0,.ptr bo 0,.ptr bc 0,.ptr bu 0,.ptr bd 0,.ptr bk 0,.ptr bz 0] h5 nx3 _=_;rw [show ((pre.length:Int)+1)=(((pre++[(x:Int)]).length:Nat):Int) by rw [hlen];omega];refine zdf hn6 hm hl r (pre++[(x:Int)]) cl _ oo _ h5 nx3 _ (by rw [hlen];omega) hcl2 (by rw [hlen];exact htk1) hcv2 (by rw [Zat,Zar,<- e];exact hbx) H5 fun oo' cl' h6 nx6 r1 r2 r3 H6 => ?_;rw [zh.t40,zA,zh.zlr,H6.load (k:=8) (i:=0) rfl rfl,sIx (i:=x) rfl hlt];refine H6.store (k:=3) rfl (by rw [usdA];simpa [rV] using hlt) rfl fun h7 H7 => ?_;have H7:Hp h0 h7 nx6 (Ga n lines b1 bo bc bu bd bk bz kb gm cb ub dn o oo' cl' pre (out++((List.range x).flatMap g).map syF++(g x).map syF)):=H7.cast (by simp only [List.set_cons_succ,List.set_cons_zero];rw [zia hmem,e]);rw [zh.t39,zA,zh.zul,yG,Zae,zh.t38,zG,zh.v22,zC,zO,zh.zls,qc (by omega)];refine next _ _ _ _ _ _ _ _ _ _ _ _ oo' cl' _ _ r1 ?_ r3 H7;have:cl'.take pre.length=(cl'.take (pre++[(x:Int)]).length).take pre.length:=by rw [List.take_take,hlen,Nat.min_eq_left (by omega)]
  rw [this,r2];simp
end
end Go.Ev
namespace Go.Ev
open Go
variable {h0 h:T Blk} {nx:Pa} {L:List Ob}
theorem zjk {α:Type} (L:List α):∀ N:Nat,(List.range N).filterMap (fun k=>L[k]?)=L.take N
 | 0=>rfl
 | N+1=>by
  rw [List.range_succ,List.filterMap_append,zjk L N,Zal];cases h:L[N]? <;> simp [h]
theorem Hp.zoy:∀ (E:List Ob) {L:List Ob},Hp h0 h nx (E++L)->Hp h0 h nx L
 | [],_,H=>H
 | _::E,_,H=>Hp.zoy E H.drop
theorem Hp.pick (N:Nat) (ks:List Nat) (H:Hp h0 h nx L) (hk:ks.Nodup) (hl:∀ k∈ks,k<N):Hp h0 h nx (ks.filterMap (fun k=>L[k]?)++L.drop N):=by
 obtain ⟨s,hs⟩:=subG ks (List.range N) hk fun k hk=>List.mem_range.2 (hl k hk);have h1:=hs.filterMap (fun k=>L[k]?);rw [zjk,List.filterMap_append] at h1;have h2:L.Perm (s.filterMap (fun k=>L[k]?)++(ks.filterMap (fun k=>L[k]?)++L.drop N)):=by
  have:=(h1.trans List.perm_append_comm).append_right (L.drop N);rw [List.take_append_drop,Zbe] at this;exact this
 exact (H.perm h2).zoy
end Go.Ev
namespace Go.Ev
open Go Go.Proofs
variable {B:Nat}
set_option maxRecDepth 100000
theorem zgl {l:List Int} (h:0<l.length):l[l.length-1]? = some (l.getLastD 0):=by
 rw [List.getLastD_eq_getLast?,List.getLast?_eq_getElem?,List.getElem?_eq_getElem (by omega)];rfl
theorem zdg:∀ {l:List Int},l≠[]->l.getLastD 0∈l
 | [],h=>absurd rfl h
 | a::l,_=>by rw [List.getLastD_cons];cases l <;> simp [List.getLastD]
def autE (cells:Int) (lines:List (List Int)):Int:=if jK cells lines≠0 then jK cells lines else if 9<cells then 20 else 0
theorem p8 {cells:Int} {lines:List (List Int)} (h:jK cells lines=0):∃ n:Nat,cells=n/\1<=n/\n<=256/\lines.length<=128/\lines.Nodup/\∀ l∈lines,LnOk n l/\1<=l.length/\l.length<=1000/\RB l/\l≠[]/\l.Pairwise (· < ·):=by
 obtain ⟨n1,n2,n3,n4,n5⟩:=zle h;refine ⟨cells.toNat,by omega,by omega,by omega,n3,n4,fun l hl => ?_⟩;obtain ⟨m1,m2,m3⟩:=n5 l hl;have:=zq2 m2 m3 n2;refine ⟨fun x hx=>⟨(m2 x hx).1,zgh m3 x hx,by have:=(m2 _ (zdg m1)).2;omega⟩,?_,by omega,fun x hx=>by have:=m2 x hx;omega,m1,m3⟩;cases l with
 | nil=>exact absurd rfl m1
 | cons a l=>simp
def enP (lines:List (List Int)) (i c:Nat):List (List Int):=(lines.take i).filter fun l=>decide (l.getLastD 0=(c:Int))
theorem zoz {lines:List (List Int)} {i c:Nat} {l:List Int} (hx:lines[i]? = some l) (hce:l.getLastD 0=(c:Int)) (p:Nat):enP lines (i+1) p=if p=c then enP lines i c++[l] else enP lines i p:=by
 unfold enP;rw [Zal,hx,List.filter_append];by_cases e:p=c
 ·subst e;rw [if_pos rfl]
  congr 1
  exact List.filter_cons_of_pos (p:=fun l:List Int=>decide (l.getLastD 0=(p:Int))) (decide_eq_true hce)
 ·rw [if_neg e];have e2:List.filter (fun l:List Int=>decide (l.getLastD 0=(p:Int))) [l]=[]:=List.filter_cons_of_neg (p:=fun l:List Int=>decide (l.getLastD 0=(p:Int))) (by rw [hce,decide_eq_false (by omega)];decide);show _++List.filter _ [l]=_;rw [e2,List.append_nil]
noncomputable abbrev Lf (bd dn bk kb gm b1' tb b1:Pa) (n:Nat) (lines:List (List Int)) (e:Int) (o:Nat->Option Pa) (D:Nat->List (List Int)):List Ob :=
 .arr bd [.sl dn 0 n (some n) 1]::.arr dn (rV n fun c=>jy (o c) 1 (D c).length)::.arr bk [.fn 169 (.of 169) [.ptr kb 0]]::.arr kb [.map gm]::.map gm (sQ lines)::.arr b1' [I n,qo lines]::.arr tb [I 0,I e]::.arr b1 [I n,qo lines]::rV n (fun c=>Ob.gro (o c) 1 (D c).length ((D c).map encI))
theorem zib {cells:Int} {lines:List (List Int)} (hw:∀ q∈lines,q.length<=1000000) (he:autE cells lines≠0):Pure Tryz.prog B 34 [.agg [I cells,qo lines]] (· = .tup [.zf,I (autE cells lines)]):=by
 refine jF fun h nx K H0 hK=>zR zT yu 10000000 fun hf' => ?_;rw [F34.go,F34.t48,zA,F34.fU];refine H0.box (l:=[I cells,qo lines]) rfl fun b2 h1 nx1 H1 => ?_;have l1:∀ op:AV->OP,zK 2 (.ptr b2 0) h1 op=op (.agg [I cells,qo lines]):=fun op=>H1.zi (k:=0) (n:=2) rfl rfl;have l3:∀ op:AV->OP,zE (.ptr b2 (0+0)) h1 op=op (I cells):=fun op=>H1.load (k:=0) (i:=0+0) rfl rfl;rw [F34.t47,zA,F34.t7,zA,F34.fV];simp only [l1,sFx,l3,xk];refine zrq hw _ _ _ _ ?_;rintro _ rfl _;simp only [l1,sFx,l3,xk,zB];refine kW _ _ _ _ _ _ ?_;rintro _ rfl _;refine H1.zx (l:=[I (jK cells lines),I (if decide (9<cells) then 20 else 0)]) rfl fun tb h5 nx5 H5 => ?_;refine kG (l:=[jK cells lines,if decide (9<cells) then 20 else 0]) H5 (k:=0) rfl (fun B=>xY (by simp)) (fun v hv=>by rw [hv];exact .int _ _) ?_;rintro _ rfl;have e1:gU [jK cells lines,if decide (9<cells) then 20 else 0]=autE cells lines:=by
  unfold autE;show (if jK cells lines≠0 then jK cells lines else if (if decide (9<cells)=true then (20:Int) else 0)≠0 then (if decide (9<cells)=true then (20:Int) else 0) else 0)=_;by_cases z:jK cells lines=0 <;> by_cases z2:9<cells <;> simp [z,z2]
 rw [e1,F34.t6,zA,F34.rP,qx,decide_eq_false he,Zad,F34.t5,zG,F34.v13,zD,F34.t4,zA,F34.au];simp only [yK,jM];rw [F34.ret];exact hK _ _ _ _ _ H5 (kN (zN rfl) (zN rfl)) rfl
theorem ztu {n:Nat} {lines:List (List Int)} (hs:jK n lines=0) (hn9:n<=9) (hb:(autL n lines).length<=1000):Pure Tryz.prog B 34 [.agg [I n,qo lines]] (· = .tup [jh ((autL n lines).map syF),I 0]):=by
 obtain ⟨n',e',n1,n2,n3,n4,n5⟩:=p8 hs;obtain rfl:n=n':=by omega
 have hw:∀ q∈lines,q.length<=1000000:=fun q hq=>by have:=(n5 q hq).2.2.1;omega
 rw [<- zji (fun l hl=>(n5 l hl).1) (fun l hl=>(n5 l hl).2.2.2.2.1)] at hb;rw [<- zji (fun l hl=>(n5 l hl).1) (fun l hl=>(n5 l hl).2.2.2.2.1)];refine jF fun h nx K H0 hK=>zR zT yu 10000000 fun hf' => ?_;rw [F34.go,F34.t48,zA,F34.fU];refine H0.box (l:=[I n,qo lines]) rfl fun b1 h1 nx1 H1 => ?_;have l1:∀ op:AV->OP,zK 2 (.ptr b1 0) h1 op=op (.agg [I n,qo lines]):=fun op=>H1.zi (k:=0) (n:=2) rfl rfl;have l3:∀ op:AV->OP,zE (.ptr b1 (0+0)) h1 op=op (I n):=fun op=>H1.load (k:=0) (i:=0+0) rfl rfl;rw [F34.t47,zA,F34.t7,zA,F34.fV];simp only [l1,sFx,l3,xk];refine zrq hw _ _ _ _ ?_;rintro _ rfl _;simp only [l1,sFx,l3,xk,zB,hs,decide_eq_false (show ¬ (9:Int)<(n:Int) by omega)];refine kW _ _ _ _ _ _ ?_;rintro _ rfl _;rw [if_neg (by decide)];refine H1.zx (l:=[I 0,I 0]) rfl fun tb h5 nx5 H5 => ?_;refine kG (l:=[0,0]) H5 (k:=0) rfl (fun B=>xY (by simp)) (fun v hv=>by rw [hv];exact .int _ _) ?_;rintro _ rfl;rw [show gU [0,0]=0 from rfl,F34.t6,zA,F34.rP,qx,decide_eq_true rfl,Zae,F34.t5,zG,F34.v13,zC,zO,F34.t46,zA,F34.aG,H5.zi (k:=1) (n:=2) rfl rfl];refine zld H5 (by omega) n4 (fun l hl=>⟨(n5 l hl).2.2.2.1,(n5 l hl).2.2.1⟩) fun gm kb b1' h6 nx6 H6 => ?_;refine H6.alloc fun bk h7 nx7 H7 => ?_;refine H7.store (k:=0) rfl (by simp) rfl fun h8 H8 => ?_;rw [F34.t45,zA,F34.aQ,sFx,H8.load (k:=5) (i:=0+0) rfl rfl];refine H8.mk1 n rfl rfl (by omega) (by decide) fun dn h9 nx9 H9 => ?_;refine H9.alloc fun bd h10 nx10 H10 => ?_;refine H10.store (k:=0) rfl (by simp) rfl fun h11 H11 => ?_;rw [F34.t44,zA,F34.t25,zA,F34.eF,sFx,H11.load (k:=7) (i:=0+1) rfl rfl,zH,F34.t24,zV];refine F34.zua (fun m x16 h' nx'=>∃ (i:Nat) (o:Nat->Option Pa),x16=I i/\lines.length-i=m/\i<=lines.length/\Hp h h' nx' (Lf bd dn bk kb gm b1' tb b1 n lines 0 o (enP lines i))) (m:=lines.length) (by omega) ⟨0,fun _=>none,rfl,rfl,by omega,?_⟩ ?_
 ·have H3:=(H11.addE (E:=rV n fun _=>Ob.gro none 1 0 []) fun x hx=>by
   obtain ⟨j,_,rfl⟩:=zm4 hx;exact ⟨rfl,fun _=>⟨rfl,rfl⟩⟩).perm List.perm_append_comm
  refine H3.cast ?_;rw [zbp];rfl
 rintro m z7 z8 z16 z17 h3 nx3 R ⟨i,o,rfl,rfl,hi,H3⟩ hR;rw [F34.t22,zA,F34.tJ,uf];by_cases hlt:i<lines.length
 case pos =>
  have hx:lines[i]? = some lines[i]:=List.getElem?_eq_getElem hlt;obtain ⟨a1,a2,a3,a4,a5,a6⟩:=n5 _ (Zan hlt)
  generalize lines[i]=l at *
  obtain ⟨q1,q2,q3⟩:=a1 _ (zdg a5);obtain ⟨c,hce⟩:∃ c:Nat,l.getLastD 0=c:=⟨(l.getLastD 0).toNat,by omega⟩;have hc:c<n:=by omega
  rw [decide_eq_true (by omega),F34.t21,zA,F34.t12,zG,F34.v17,zD,zO,F34.t20,zA,F34.t18,zV,F34.t17,zA,F34.zif,bQ rfl hlt,ldL (getT hx),F34.t16,zA,F34.zah,zH,bW (by omega),bQ (i:=l.length-1) (by omega) (by omega),ldL (su (zgl (by omega))),hce,F34.eG];have six:∀ op:AV->OP,zQ 1 (.sl dn 0 n (some n) 1) (I (c:Int)) op=op (.ptr dn c):=fun op=>sIx (i:=c) rfl hc;have hrow:(rV n fun c=>jy (o c) 1 (enP lines i c).length)[c]? = some (jy (o c) 1 (enP lines i c).length):=u9 hc;have ld1:∀ op:AV->OP,zE (.ptr bd 0) h3 op=op (.sl dn 0 n (some n) 1):=fun op=>H3.load (k:=0) (i:=0) rfl rfl;have ld2:∀ op:AV->OP,zE (.ptr dn c) h3 op=op (jy (o c) 1 (enP lines i c).length):=fun op=>H3.load (k:=1) rfl hrow;simp only [ld1,six,ld2];refine H3.zx (l:=[encI l]) rfl fun t h4 nx4 H4 => ?_;have ld3:∀ op:AV->OP,zE (.ptr bd 0) h4 op=op (.sl dn 0 n (some n) 1):=fun op=>H4.load (k:=1) (i:=0) rfl rfl;have ld4:∀ op:AV->OP,zE (.ptr dn c) h4 op=op (jy (o c) 1 (enP lines i c).length):=fun op=>H4.load (k:=2) rfl hrow;simp only [ld3,six,ld4,zB];have kg:(Ob.arr t [encI l]::Lf bd dn bk kb gm b1' tb b1 n lines 0 o (enP lines i))[c+9]? = some (.gro (o c) 1 (enP lines i c).length ((enP lines i c).map encI)):=by
   show (rV n _)[c]? = _;rw [u9 hc]
  refine H4.appN (k:=c+9) (o:=o c) (c:=1) (new:=[encI l]) kg (jd.rd (l:=[encI l]) (n:=1) (H4.own _ (Zai ..)) rfl) rfl rfl (by decide) (by decide) ?_ fun o' h5 nx5 _ H5 => ?_
  ·have:(enP lines i c).length<=1000:=by
    refine Zbj (Zcf _ _) ?_;rw [Zax];omega
   omega
  have ld5:∀ op:AV->OP,zE (.ptr bd 0) h5 op=op (.sl dn 0 n (some n) 1):=fun op=>H5.load (k:=1) (i:=0) rfl rfl;simp only [ld5,six,zB];refine H5.store (k:=2) rfl (by simpa [rV] using hc) (uD _ _ _) fun h6 H6 => ?_;rw [F34.zal,qc (by omega)];refine hR (lines.length-(i+1)) _ _ _ _ _ _ (by omega) ⟨i+1,fun p=>if p=c then o' else o p,rfl,rfl,by omega,H6.drop.cast ?_⟩;have hD:∀ p:Nat,enP lines (i+1) p=if p=c then enP lines i c++[l] else enP lines i p:=fun p=>zoz hx hce p
  rw [show enP lines (i+1)=_ from funext hD];simp only [Lf,List.set_cons_succ,List.set_cons_zero,List.tail_cons];rw [dX,dX]
  congr 1
  congr 1
  ·congr 1
   refine qN fun p _ => ?_;by_cases e:p=c
   ·subst e;simp
   ·simp [e]
  ·congr 6
   refine qN fun p _ => ?_;by_cases e:p=c
   ·subst e;simp
   ·simp [e]
 obtain rfl:i=lines.length:=by omega
 have hD:enP lines lines.length=wT lines:=funext fun c=>by rw [enP,List.take_length]
 rw [hD] at H3;rw [decide_eq_false (by omega),F34.t21,zA,F34.t12,zG,F34.v17,zC,jB,jX,F34.t43,zA,F34.zue];refine H3.alloc fun bo h12 nx12 H12 => ?_;rw [F34.t42,zA,F34.zln,sFx,H12.load (k:=8) (i:=0+0) rfl rfl];refine H12.mk1 n rfl rfl (by omega) (by decide) fun cb h13 nx13 H13 => ?_;refine H13.alloc fun bc h14 nx14 H14 => ?_;refine H14.store (k:=0) rfl (by simp) rfl fun h15 H15 => ?_;rw [F34.t41,zA,F34.zlq,sFx,H15.load (k:=10) (i:=0+0) rfl rfl];refine H15.mk1 n rfl rfl (by omega) (by decide) fun ub h16 nx16 H16 => ?_;refine H16.alloc fun bu h17 nx17 H17 => ?_;refine H17.store (k:=0) rfl (by simp) rfl fun h18 H18 => ?_;rw [F34.t40,zA,F34.zuf];refine H18.alloc fun bz h19 nx19 H19 => ?_;rw [F34.t39,zA,F34.zlk];refine H19.store (k:=0) rfl (by simp) rfl fun h20 H20 => ?_;have hu0:List.replicate n (AV.bool false)=usdA n []:=by
  rw [zbp,usdA];exact qN fun j _=>by simp
 have hc0:List.replicate n (I 0)=(List.replicate n (0:Int)).map I:=by simp
 rw [hu0,hc0] at H20;have HA:Hp h h20 nx19 (Ga n lines b1 bo bc bu bd bk bz kb gm cb ub dn _ none (List.replicate n 0) [] []):=((H20.eY 2).pick 15 [10,11,5,3,14,6,0,4,2,7,9,1,8] (by decide) (by decide)).cast rfl;rw [F34.t38,zA,F34.t35,zA,F34.zam,HA.load (k:=11) (i:=0) rfl rfl,xP];show (CS Tryz.prog B).fn 105 (.of 105) [I (0:Nat),.ptr b1 0,.ptr bo 0,.ptr bc 0,.ptr bu 0,.ptr bd 0,.ptr bk 0,.ptr bz 0] h20 nx19 _=_;refine zdf (by omega) (by omega) (fun l hl=>⟨(n5 l hl).1,(n5 l hl).2.1,(n5 l hl).2.2.1,(n5 l hl).2.2.2.1⟩) n [] (List.replicate n 0) [] none _ h20 nx19 _ (by simp) (by simp) rfl (fun v hv=>by rw [(List.mem_replicate.1 hv).2];omega) (by simpa using hb) HA fun oo' cl' h21 nx21 r1 r2 r3 H21 => ?_;rw [yG,Zae,F34.t34,zG,F34.v18,zC,zO,F34.t37,zA,F34.zug,H21.load (k:=5) (i:=0) rfl rfl];simp only [yK,jM];rw [F34.ret];exact hK _ _ _ _ _ H21 (kN (H21.zbq (k:=6) rfl xF) (zN rfl)) rfl
theorem zo0 (q:List Int) (i:Nat) (v:Int):(q.take i++[v]++q.drop i).Perm (q++[v]):=by
 have h1:(q.take i++[v]++q.drop i).Perm (q.take i++(q.drop i++[v])):=by
  rw [Zbe];exact List.Perm.append_left _ List.perm_append_comm
 rw [<- Zbe,List.take_append_drop] at h1;exact h1
theorem zic {q:List Int} {i:Nat} {v:Int} (hs:q.Pairwise (· <= ·)) (ha:(q.take i).all (fun x=>decide (x<v))=true) (hn:∀ h:i<q.length,v<=q[i]):(q.take i++[v]++q.drop i).Pairwise (· <= ·):=by
 have hs':=hs;rw [<- List.take_append_drop i q] at hs';obtain ⟨h1,h2,h3⟩:=List.pairwise_append.1 hs';have hlt:∀ x∈q.take i,x<v:=fun x hx=>of_decide_eq_true (List.all_eq_true.1 ha x hx);have hge:∀ x∈q.drop i,v<=x:=fun x hx=>by
  by_cases hi:i<q.length
  ·have hv:=hn hi;rw [Zao hi] at hx h2;rcases List.mem_cons.1 hx with rfl | hx
   ·exact hv
   ·have:=(List.pairwise_cons.1 h2).1 x hx;omega
  ·rw [Zbl (by omega)] at hx;cases hx
 rw [Zbe];refine List.pairwise_append.2 ⟨h1,List.pairwise_cons.2 ⟨hge,h2⟩,fun x hx y hy => ?_⟩;have hy:y=v\/y∈q.drop i:=by simpa using hy
 rcases hy with rfl | hy
 ·have:=hlt x hx;omega
 ·exact h3 x hx y hy
theorem zo1 {p l:List Int} (hl:∀ x∈l,0<=x/\x<(p.length:Int)) (hl2:l.length<=1000):Pure Tryz.prog B 155 [encI p,encI l] (· = encI (srt (imL p l))):=by
 refine jF fun h nx K H0 hK=>zR zT yu 10000000 fun hf' => ?_;rw [zn.go,zn.t31,zA,zn.fU,zn.t30,zA,zn.fV,zn.t29,zA,zn.t26,zA,zn.rP,zn.t25,zV];refine zn.zt7 (fun m x3 x4 h' nx'=>∃ (j:Nat) (o:Option Pa) (q:List Int),x4=I j/\x3=jy o 1 j/\m=l.length-j/\j<=l.length/\q.length=j/\q.Perm (imL p (l.take j))/\q.Pairwise (· <= ·)/\Hp h h' nx' [.gro o 1 j (q.map I)]) (m:=l.length) (by omega) ⟨0,none,[],rfl,rfl,by omega,by omega,rfl,.refl _,.nil,H0.eY 1⟩ ?_;rintro m z3 z4 z5 z6 z7 z8 h3 nx3 R ⟨j,o,q,rfl,rfl,rfl,hj,hql,hqp,hqs,H3⟩ hR;rw [zn.t23,zA,zn.t5,zA,zn.au,zH,uf];by_cases hlt:j<l.length
 case neg =>
  obtain rfl:j=l.length:=by omega
  rw [Zam (Zaj _)] at hqp;rw [decide_eq_false (by omega),zn.t4,zG,zn.v7,zC,jB,jX,zn.t28,zA,zn.zln,yK,jM,zn.ret];have e:=zhu hqp hqs;refine hK _ _ _ _ _ H3 (H3.zbq (k:=0) rfl fun v hv=>by obtain ⟨a,_,rfl⟩:=List.mem_map.1 hv;rfl) ?_;rw [<- e,<- hql]
 have hx:l[j]? = some l[j]:=List.getElem?_eq_getElem hlt;obtain ⟨a1,a2⟩:=hl _ (Zan hlt);have hpx:p[l[j].toNat]? = some (p.getD l[j].toNat 0):=by rw [Zac,List.getElem?_eq_getElem (by omega)];rfl
 generalize hv:p.getD l[j].toNat 0=v at hpx
 have htk:imL p (l.take (j+1))=imL p (l.take j)++[v]:=by
  rw [Zal,hx];show imL p (l.take j++[l[j]])=_;rw [zgk,hv]
 rw [decide_eq_true (by omega),zn.t4,zG,zn.v7,zD,zO,zn.t22,zA,zn.t20,zV,zn.t19,zA,zn.oW,bQ rfl hlt,ldL (su hx),bQ (i:=l[j].toNat) (by omega) (by omega),ldL (su hpx),zn.t18,zA,zn.t7_s,zn.t17,zA,zn.t15,zV];refine zn.zt6 (fun m x6 h' nx'=>∃ i:Nat,x6=I i/\m=j-i/\i<=j/\(q.take i).all (fun x=>decide (x<v))=true/\Hp h h' nx' [.gro o 1 j (q.map I)]) (m:=j) (by omega) ⟨0,rfl,by omega,by omega,by simp,H3⟩ ?_;rintro m y6 y8 h5 nx5 R2 ⟨i,rfl,rfl,hi,hal,H5⟩ hR2;have fin:(∀ z:i<q.length,v<=q[i])->∀ (O:uh Prop) (x8:AV),IR.run zn.t16 (CS Tryz.prog B) 10000000 O (IR.run zn.t21 (CS Tryz.prog B) 10000000 ((fnO zn.res K).blk 0 (IR.run zn.t28 (CS Tryz.prog B) 10000000 (fnO zn.res K) (wo zn.res K))) R) (zn.fr (encI p) (encI l) .zf (jy o 1 j) (I j) (I v) (I i) (.bool true) x8) h5 nx5=.ok True:=by
  intro hn O x8;have e1:∀ op:AV->OP,gG 1 (jy o 1 j) none (some (I (i:Int))) none op=op (jy o 1 i):=fun op=>H5.zvz (k:=0) rfl hi;have e2:∀ op:AV->OP,gG 1 (jy o 1 j) (some (I (i:Int))) none none op=op (pK o 1 j i):=fun op=>H5.zv0 (k:=0) rfl hi;have f0:(gE (bT 0 [I 0]) []).isSome=true:=rfl;have f1:(gE (bT 1 [I 0]) [(0,1,I v)]).isSome=true:=rfl;rw [zn.fZ,f0,Bool.and_self,yN,e1,f1,Bool.and_self,yN,e2];refine H5.zx (l:=[]) rfl fun e0 h6 nx6 H6 => ?_
  try simp only [e1,e2,zB]
  refine H6.zv1 (by decide) (fun no K'=>H6.zpq (k:=1) rfl hi no K') (by rw [Zax,Zar];omega) (List.all_eq_true.2 fun w hw=>by obtain ⟨a,_,rfl⟩:=List.mem_map.1 (Zby hw);rfl) (by decide) (by omega) fun w X h7 nx7 H7 hp => ?_
  try simp only [e1,e2,zB]
  refine H7.zx (l:=[I v]) rfl fun b h8 nx8 H8 => ?_
  try simp only [e1,e2,zB]
  refine hp _ _ _ _ [I v] b _ H8 rfl rfl fun id h9 nx9 H9 => ?_
  try simp only [e1,e2,zB]
  show sJ 1 8 (jy (some id) 1 (i+1)) (pK o 1 j i) h9 nx9 _=_;refine H9.appN (k:=0) (o:=some id) (n:=i+1) (c:=j-i) (new:=(q.map I).drop (i*1)) rfl (fun no K'=>H9.zpr (k:=1) rfl hi no K') (by rw [List.length_drop,Zar];omega) (List.all_eq_true.2 fun w hw=>by obtain ⟨a,_,rfl⟩:=List.mem_map.1 (List.mem_of_mem_drop hw);rfl) (by decide) (by decide) (by omega) fun o' h10 nx10 _ H10 => ?_;rw [zn.zll,qc (by omega)];have e3:i+1+(j-i)=j+1:=by omega
  rw [e3] at H10 ⊢;refine hR (l.length-(j+1)) _ _ _ _ _ _ _ _ (by omega) ⟨j+1,o',q.take i++[v]++q.drop i,rfl,rfl,rfl,by omega,?_,?_,zic hqs hal hn,?_⟩
  ·simp only [Zat,Zax,List.length_drop,Zbx,List.length_nil];omega
  ·rw [htk];exact (zo0 q i v).trans (hqp.append_right _)
  ·have e4:(q.take i++[v]++q.drop i).map I=(q.map I).take (i*1)++[I v]++(q.map I).drop (i*1):=by
    rw [Zbv,Zbv,Zcb,List.map_take,List.map_drop];rfl
   rw [e4];exact Hp.zqg (A:=[]) (L:=[]) (Hp.pre [] (by have:=H10;exact (this.perm (List.Perm.swap _ _ _)).drop))
 rw [zn.t13,zA,zn.t10,zA,zn.aG,zn.r6_0,zn.zr5,H5.zaa (k:=0) rfl,uf];by_cases hlk:i<j
 case neg =>
  simp only [show ¬ (i:Int)<(j:Int) by omega,decide_false,jL];rw [zn.r6_1,zn.zlm];simp only [jL,zS];rw [zn.t9,zG,zn.v8,zC,jB,jX];exact fin (fun z=>absurd z (by omega)) _ _
 have hiq:i<q.length:=by omega
 have hqx:(q.map I)[i]? = some (I q[i]):=su (List.getElem?_eq_getElem hiq);obtain ⟨id,rfl⟩:∃ id,o=some id:=by
  cases o with
  | some id=>exact ⟨id,rfl⟩
  | none=>obtain ⟨h1,h2⟩:=H5.own _ (Zai ..);omega
 simp only [show (i:Int)<(j:Int) by omega,decide_true,jH];have eix:∀ op:AV->OP,zQ 1 (jy (some id) 1 j) (I (i:Int)) op=op (.ptr id i):=fun op=>by
  show zQ 1 (.sl id 0 j none 1) (I (i:Int)) op=_;exact sIx rfl hlk
 rw [eix,zn.r6_1,zn.zlm];simp only [jH];rw [H5.zpt (k:=0) rfl hqx,uf,zW,zn.t9,zG,zn.v8];by_cases c:q[i]<v
 ·rw [decide_eq_true c,zD,zO,zn.t12,zV,zn.tJ,qc (by omega)];exact hR2 (j-(i+1)) _ _ _ _ (by omega) ⟨i+1,rfl,rfl,by omega,uT (List.getElem?_eq_getElem hiq) hal (decide_eq_true c),H5⟩
 ·rw [decide_eq_false c,zC,jB,jX];exact fin (fun z=>by omega) _ _
theorem zq4 {lines:List (List Int)} {s:List Int}:(lines.any fun q=>decide (s=q))=decide (s∈lines):=by
 rw [Zbu,List.any_eq_true,decide_eq_true_eq];constructor
 ·rintro ⟨q,hq,e⟩;rw [of_decide_eq_true e];exact hq
 ·intro h;exact ⟨s,h,decide_eq_true rfl⟩
theorem zcp {lines:List (List Int)} {k:Nat} {q:List Int} {f:List Int->Bool} (h:lines[k]? = some q):(lines.take (k+1)).any f=((lines.take k).any f||f q):=by
 rw [Zal,h,List.any_append];simp
theorem zq5 {cells:Int} {lines:List (List Int)} {p:List Int} (hn:lines.length<=1000000) (hl:∀ l∈lines,l.length<=1000/\∀ x∈l,0<=x/\x<(p.length:Int)):Pure Tryz.prog B 74 [.agg [I cells,qo lines],encI p] (· = .bool (d9 lines p)):=by
 refine jF fun h nx K H0 hK=>zR zT yu 10000000 fun hf' => ?_;rw [F74.go,F74.t37,zA,F74.fU];refine H0.box (l:=[I cells,qo lines]) rfl fun b2 h1 nx1 H1 => ?_;rw [F74.t36,zA,F74.t33,zA,F74.fV,F74.t32,zV];refine F74.zt9 (fun m x4 h' nx'=>∃ i:Nat,x4=I i/\m=lines.length-i/\i<=lines.length/\(lines.take i).all (fun l=>decide (srt (imL p l)∈lines))=true/\Hp h h' nx' [.arr b2 [I cells,qo lines]]) (m:=lines.length) (by omega) ⟨0,rfl,by omega,by omega,by simp,H1⟩ ?_;rintro m z3 z4 z5 z6 z7 z8 z9 z10 h3 nx3 R ⟨i,rfl,rfl,hi,hal,H3⟩ hR;have l3:∀ op:AV->OP,zE (.ptr b2 (0+1)) h3 op=op (qo lines):=fun op=>H3.load (k:=0) (i:=0+1) rfl rfl;rw [F74.t30,zA,F74.t4,zA,F74.rP,sFx,l3,zH,uf];by_cases hlt:i<lines.length
 case neg =>
  rw [Zam (by omega)] at hal;rw [decide_eq_false (by omega),F74.t3,zG,F74.v8,zC,jB,jX,F74.t35,zA,F74.zlr,yK,jM,F74.ret];exact hK _ _ _ _ _ H3 (zN rfl) (by rw [d9,hal])
 have hx:lines[i]? = some lines[i]:=List.getElem?_eq_getElem hlt;have hm:=Zan hlt;obtain ⟨hl1,hl2⟩:=hl _ hm;rw [decide_eq_true (by omega),F74.t3,zG,F74.v8,zD,zO,F74.t29,zA,F74.t27,zV,F74.t26,zA,F74.t5_s,sFx,l3,bQ rfl hlt,ldL (getT hx)];refine zo1 hl2 hl1 _ _ _ _ ?_;rintro _ rfl _;have hsl:(srt (imL p lines[i])).length<=1000:=by rw [(qK _).length_eq];unfold imL;rw [Zar];exact hl1
 rw [F74.t25,zA,F74.oW,F74.t24,zA,F74.t18,zA,F74.t7_s,F74.t17,zV];refine F74.zt8 (fun m x6 x7 h' nx'=>∃ k:Nat,x7=I k/\x6=.bool ((lines.take k).any fun q=>decide (srt (imL p lines[i])=q))/\m=lines.length-k/\k<=lines.length/\Hp h h' nx' [.arr b2 [I cells,qo lines]]) (m:=lines.length) (by omega) ⟨0,rfl,rfl,by omega,by omega,H3⟩ ?_;rintro m y6 y7 y9 h5 nx5 R2 ⟨k,rfl,rfl,rfl,hk,H5⟩ hR2;have l5:∀ op:AV->OP,zE (.ptr b2 (0+1)) h5 op=op (qo lines):=fun op=>H5.load (k:=0) (i:=0+1) rfl rfl;rw [F74.t15,zA,F74.t10,zA,F74.aG,sFx,l5,zH,uf];by_cases hlk:k<lines.length
 case neg =>
  rw [Zam (by omega),zq4];rw [decide_eq_false (show ¬ (k:Int)<(lines.length:Int) by omega),F74.t9,zG,F74.v9,zC,jB,jX,F74.t23,zA,F74.zal,yG,F74.t22,zG,F74.v10];by_cases d:srt (imL p lines[i])∈lines
  ·rw [decide_eq_true d,Zae,zC,zO,F74.zlq,qc (by omega)];exact hR (lines.length-(i+1)) _ _ _ _ _ _ _ _ _ _ (by omega) ⟨i+1,rfl,rfl,by omega,uT hx hal (decide_eq_true d),H5⟩
  ·rw [decide_eq_false d,Zad,zD,F74.t21,zA,F74.zeq];simp only [yK,zha,jM];rw [F74.ret];have:d9 lines p=false:=Bool.eq_false_iff.2 fun q=>d (of_decide_eq_true (List.all_eq_true.1 q _ hm));exact hK _ _ _ _ _ H5 (zN rfl) (by rw [this])
 have hy:lines[k]? = some lines[k]:=List.getElem?_eq_getElem hlk;have hs:=zcp (f:=fun q=>decide (srt (imL p lines[i])=q)) hy;rw [decide_eq_true (by omega),F74.t9,zG,F74.v9,zD,zO,F74.t14,zA,F74.t12,zV,F74.tJ,F74.r7_0,F74.zr6];cases c:(lines.take k).any fun q=>decide (srt (imL p lines[i])=q) with
 | true =>
  rw [c,Bool.true_or] at hs;simp only [jI];rw [F74.r7_1,F74.zlo];simp only [zwa];rw [F74.r7_2,F74.zlp,zW,F74.zif,qc (by omega)];exact hR2 (lines.length-(k+1)) _ _ _ _ _ (by omega) ⟨k+1,rfl,by rw [hs],rfl,by omega,H5⟩
 | false =>
  rw [c,Bool.false_or] at hs;simp only [yX,sFx,l5];rw [bQ rfl hlk,ldL (getT hy),F74.r7_1,F74.zlo];simp only [zrr];refine dE (by omega) _ _ _ _ ?_;rintro _ rfl _;rw [F74.r7_2,F74.zlp,zS,F74.zif,qc (by omega)];exact hR2 (lines.length-(k+1)) _ _ _ _ _ (by omega) ⟨k+1,rfl,by rw [hs],rfl,by omega,H5⟩
def autT (lines:List (List Int)) (n k:Nat):List Sym:=(((uF n n []).take k).filter (d9 lines)).map syF
theorem zlg {lines:List (List Int)} {n k:Nat} {p:List Int} (h:(uF n n [])[k]? = some p):autT lines n (k+1)=if d9 lines p then autT lines n k++[syF p] else autT lines n k:=by
 unfold autT;rw [Zal,h,List.filter_append];cases c:d9 lines p with
 | true =>
  show (_++List.filter _ [p]).map syF=_;rw [List.filter_cons_of_pos c,if_pos rfl,Zbv];rfl
 | false =>
  show (_++List.filter _ [p]).map syF=_;rw [List.filter_cons_of_neg (by rw [c];decide),if_neg (by decide)];simp
theorem zo2 (lines:List (List Int)) (n k:Nat):(autT lines n k).length<=k:=by
 unfold autT;rw [Zar];refine Zbj (Zcf _ _) ?_;rw [Zax];omega
theorem zek {n:Nat} (hn:n<=5):facZ n<=120:=by
 rcases (by omega:n=0\/n=1\/n=2\/n=3\/n=4\/n=5) with rfl | rfl | rfl | rfl | rfl | rfl <;> decide
theorem zlh {n:Nat} {lines:List (List Int)} (hs:jK n lines=0) (hn5:n<=5):Pure Tryz.prog B 35 [.agg [I n,qo lines]] (· = jh ((autL n lines).map syF)):=by
 obtain ⟨n',e',n1,n2,n3,n4,n5⟩:=p8 hs;obtain rfl:n=n':=by omega
 refine jF fun h nx K H0 hK=>zR zT yu 10000000 fun hf' => ?_;rw [F35.go,F35.t25,zA,F35.fU];refine H0.box (l:=[I n,qo lines]) rfl fun b1 h1 nx1 H1 => ?_;rw [F35.t24,zA,F35.fV,F35.t23,zA,F35.rP,sFx,H1.load (k:=0) (i:=0+0) rfl rfl];refine zqx hn5 _ _ _ _ ?_;rintro _ rfl _;refine zop (zek hn5) _ _ _ _ ?_;rintro _ rfl _;have hlen:=zci (n:=n) (by omega);have hf120:=zek hn5;rw [yP,yS,F35.t22,zA,F35.t19,zA,F35.au,F35.t18,zV];refine F35.zuo (fun m x3 x5 h' nx'=>∃ (k:Nat) (o:Option Pa),x5=I k/\x3=jy o 2 (autT lines n k).length/\m=facZ n-k/\k<=facZ n/\∃ L',Hp h h' nx' (.gro o 2 (autT lines n k).length (yL (autT lines n k))::.arr b1 [I n,qo lines]::L')) (m:=facZ n) (by omega) ⟨0,none,rfl,rfl,by omega,by omega,[],H1.eY 2⟩ ?_;rintro m z3 z5 z6 z7 z8 h3 nx3 R ⟨k,o,rfl,rfl,rfl,hk,L3,H3⟩ hR;rw [F35.t16,zA,F35.t6,zA,F35.t4_s,uf];by_cases hlt:k<facZ n
 case neg =>
  obtain rfl:k=facZ n:=by omega
  have e:autT lines n (facZ n)=(autL n lines).map syF:=by rw [autT,<- hlen,List.take_length,autL]
  rw [e] at H3 ⊢;rw [decide_eq_false (by omega),F35.t5,zG,F35.v7,zC,jB,jX,F35.t21,zA,F35.zeq];simp only [yK,jM];rw [F35.ret];exact hK _ _ _ _ _ H3 (H3.zbq (k:=0) rfl xF) rfl
 have hx:(uF n n [])[k]? = some ((uF n n []).getD k []):=by rw [Zac,List.getElem?_eq_getElem (by omega)];rfl
 obtain ⟨_,hpl⟩:=zcj.1 (Zaa hx);have hsn:=zlg (lines:=lines) hx;have l3:∀ op:AV->OP,zE (.ptr b1 (0+0)) h3 op=op (I n):=fun op=>H3.load (k:=1) (i:=0+0) rfl rfl;rw [decide_eq_true (by omega),F35.t5,zG,F35.v7,zD,zO,F35.t15,zA,F35.t13,zV,F35.t12,zA,F35.t7_s];simp only [sFx,l3];refine zk9 (by omega) _ _ _ _ ?_;rintro _ rfl _;simp only [sFx,l3,zB];refine zlb ⟨n1,hn5⟩ hlt _ _ _ _ ?_;rintro _ rfl _
 generalize (uF n n []).getD k []=p at *
 rw [F35.t11,zA,F35.aG,H3.zi (k:=1) (n:=2) rfl rfl];refine zq5 (by omega) (fun l hl=>⟨(n5 l hl).2.2.1,fun x hx=>by have:=(n5 l hl).1 x hx;omega⟩) _ _ _ _ ?_;rintro _ rfl _;rw [F35.t10,zG,F35.v8];cases c:d9 lines p with
 | false =>
  rw [c,if_neg (by decide)] at hsn;rw [zC,zO,F35.zah,qc (by omega)];exact hR (facZ n-(k+1)) _ _ _ _ _ _ _ (by omega) ⟨k+1,o,rfl,by rw [hsn],rfl,by omega,L3,by rw [hsn];exact H3⟩
 | true =>
  rw [c,if_pos rfl] at hsn;rw [zD,F35.aQ,zjj];refine H3.zx (l:=[encI p,.bool false]) rfl fun tb h15 nx15 H15 => ?_;rw [tH];refine H15.appN (k:=1) (o:=o) (c:=1) (esz:=2) (new:=[encI p,.bool false]) rfl (jd.rd (l:=[encI p,.bool false]) (n:=1) (e:=2) (H15.own _ (Zai ..)) rfl) rfl rfl (by decide) (by decide) (by have:=zo2 lines n k;omega) fun o'' h16 nx16 _ H16 => ?_;rw [F35.zah,qc (by omega)];refine hR (facZ n-(k+1)) _ _ _ _ _ _ _ (by omega) ⟨k+1,o'',rfl,by rw [hsn,Zat];rfl,rfl,by omega,L3,?_⟩;rw [hsn,zcf,Zat];exact H16.drop
theorem law5 {cells:Int} {lines:List (List Int)} (haw:∀ {B},Pure Tryz.prog B 18 [] (· = .bool true)):Pure Tryz.prog B 5 [.agg [I cells,qo lines]] (· = .bool true):=by
 refine jF fun h nx K H0 hK=>zR zT yu 1000 fun hf => ?_;have awk:∀ (h:T Blk) (nx:Pa) (Z:Kw Prop),Z (.bool true) h nx=.ok True->(CS Tryz.prog B).fn 18 (.of 18) [] h nx Z=.ok True:=fun h nx Z hZ=>haw _ _ _ _ fun v hv _=>by rw [hv];exact hZ
 have ret:∀ {h1 nx1 L},Hp h h1 nx1 L->K (.bool true) h1 nx1=.ok True:=fun H=>hK _ _ _ _ _ H (zN rfl) rfl;rw [F5.go,F5.t30,zA,F5.fU];refine H0.box (l:=[I cells,qo lines]) rfl fun b2 h2 nx2 H2 => ?_;have l1:∀ op:AV->OP,zK 2 (.ptr b2 0) h2 op=op (.agg [I cells,qo lines]):=fun op=>H2.zi (k:=0) (n:=2) rfl rfl;have l3:∀ op:AV->OP,zE (.ptr b2 (0+0)) h2 op=op (I cells):=fun op=>H2.load (k:=0) (i:=0+0) rfl rfl;rw [F5.t29,zA,F5.t5,zA,F5.fV];refine awk _ _ _ ?_;rw [yG,Zae];simp only [yX,zrr,l1];refine zqd (by decide) _ _ _ _ ?_;rintro _ rfl _;cases cd:decide ((lines.length:Int)<=14/\∀ l∈lines,(l.length:Int)<=20) with
 | false =>
  simp only [yX,yG,Zad,zS];rw [F5.t4,zG,F5.v6,zD,F5.t3,zA,F5.rP];refine awk _ _ _ ?_;simp only [yK,jM];rw [F5.ret];exact ret H2
 | true =>
 have c1:=of_decide_eq_true cd;have hw:∀ q∈lines,q.length<=1000000:=fun q hq=>by have:=c1.2 q hq;omega
 simp only [yX,yG,Zae,zS];rw [F5.t4,zG,F5.v6,zC,zO,F5.t28,zA,F5.oW,l1];refine zn8 hw _ _ _ _ ?_;rintro _ rfl _;have bad:∀ (x4 x5 x6 x7 x8 x9:AV),autE cells lines≠0->IR.run F5.t25 (CS Tryz.prog B) 1000 (fnO F5.res K) (wo F5.res K) (F5.fr (.agg [I cells,qo lines]) (.ptr b2 0) (.bool false) (I (autE cells lines)) x4 x5 x6 x7 x8 x9) h2 nx2=.ok True:=by
  intro x4 x5 x6 x7 x8 x9 he;rw [F5.t25,zA,F5.fZ,l1];refine zib hw he _ _ _ _ ?_;rintro _ rfl _;rw [yP,yS,F5.t24,zA,F5.t21,zA,F5.aO,qx,decide_eq_false he,Zad,F5.t20,zG,F5.v9,zD,F5.t19,zA,F5.zen];refine zok he _ _ _ _ ?_;rintro _ rfl _;simp only [yK,jM];rw [F5.ret];exact ret H2
 rw [F5.t27,zA,F5.t10,zA,F5.t7_s,pq];by_cases z:jK cells lines=0
 case neg =>
  have ez:autE cells lines=jK cells lines:=if_pos z;rw [decide_eq_false z];simp only [jL,zS];rw [F5.t9,zG,F5.v7,zC,zO,F5.t26,zA,F5.t15,zA,F5.tJ,pq,decide_eq_false z];simp only [jL,zS];rw [F5.t14,zG,F5.v8,zC,zO,<- ez];exact bad _ _ _ _ _ _ (by rw [ez];exact z)
 rw [z,decide_eq_true rfl];simp only [jH,sFx,l3,xk,zW];by_cases c9:9<cells
 ·have ez:autE cells lines=20:=by rw [autE,if_neg (fun q=>q z),if_pos c9]
  rw [decide_eq_true c9,F5.t9,zG,F5.v7,zD,F5.aG,F5.t26,zA,F5.t15,zA,F5.tJ,pq,decide_eq_false (by decide)];simp only [jL,zS];rw [F5.t14,zG,F5.v8,zC,zO,<- ez];exact bad _ _ _ _ _ _ (by rw [ez];decide)
 have ez:autE cells lines=0:=by rw [autE,if_neg (fun q=>q z),if_neg c9]
 rw [decide_eq_false c9,F5.t9,zG,F5.v7,zC,zO,F5.t26,zA,F5.t15,zA,F5.tJ,pq,decide_eq_true rfl];simp only [jH,sFx,l3,xk,zW];by_cases c5:5<cells
 ·rw [decide_eq_true c5,F5.t14,zG,F5.v8,zD,F5.t13,zA,F5.zan];simp only [yK,jM];rw [F5.ret];exact ret H2
 obtain ⟨n,rfl,n1,n2,n3,n4,n5⟩:=p8 z;have hn5:n<=5:=by omega
 have hlen:(autL n lines).length<=120:=by
  refine Zbj (Zcf _ _) ?_;rw [zci (by omega)];exact zek hn5
 rw [decide_eq_false c5,F5.t14,zG,F5.v8,zC,zO,F5.t25,zA,F5.fZ,l1];refine ztu z (by omega) (by omega) _ _ _ _ ?_;rintro _ rfl _;rw [yP,yS,F5.t24,zA,F5.t21,zA,F5.aO,qx,decide_eq_true rfl,Zae,F5.t20,zG,F5.v9,zC,zO,F5.t23,zA,F5.zem,l1];refine zlh z hn5 _ _ _ _ ?_;rintro _ rfl _;refine zqm (by rw [Zar];omega) (fun g hg => ?_) _ _ _ _ ?_
 ·obtain ⟨p,hp,rfl⟩:=List.mem_map.1 hg;have:=(zcj.1 ((List.mem_filter.1 hp).1)).2;show p.length<=1000000;omega
 rintro _ rfl _;simp only [yK,jM];rw [F5.ret];exact ret H2
end Go.Ev
