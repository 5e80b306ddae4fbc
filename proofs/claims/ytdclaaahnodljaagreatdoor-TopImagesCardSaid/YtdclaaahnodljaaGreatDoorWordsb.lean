import Derived.Test.YtdclaaahnodljaaGreatDoorWordsa
import Derived.Test.YtdclaaahnodljaaGreatDoorCodea
import Derived.Test.YtdclaaahnodljaaGreatDoorEvD
import Derived.IntWalk
import Derived.KernelRfl
import Derived.Test.YtdclaaahnodljaaGreatDoorIrT
import Derived.Test.YtdclaaahnodljaaGreatDoorLaws
import Derived.Shelf.SlSortCmp.Whole1
import Derived.Deep.Slices
import GoSem.Core.Next
set_option linter.unusedSimpArgs false
set_option linter.unusedVariables false
noncomputable section
namespace Go.Ev
open Go Go.Proofs
variable {B:Nat}
theorem Hp.zyq {h0 h:T Blk} {nx:Pa} {L:List Ob} {j k:Nat} {x y:Ob} {a b:Pa} (H:Hp h0 h nx L) (hk:L[k]? = some x) (hj:L[j]? = some y) (hjk:j≠k) (ha:a∈x.names) (hb:b∈y.names):b≠a:=by
 have hnd:=(H.front hk).nd;rw [Zbi] at hnd;have hy:y∈L.take k++L.drop (k+1):=by
  rcases Nat.lt_or_gt_of_ne hjk with c | c
  ·exact Zce _ (Zab (i:=j) (by rw [List.getElem?_take_of_lt c];exact hj))
  ·exact List.mem_append_right _ (Zab (i:=j-(k+1)) (by rw [List.getElem?_drop,show k+1+(j-(k+1))=j by omega];exact hj))
 rintro rfl;exact (List.nodup_append.1 hnd).2.2 b ha b (List.mem_flatMap.2 ⟨y,hy,hb⟩) rfl
def zas (L:List Ob) (p:AV×Sym):Prop:=p.1=encI p.2.1\/∃ rid,p.1=.sl rid 0 p.2.1.length (some p.2.1.length) 1/\Ob.arr rid (p.2.1.map I)∈L
theorem zas.jc {L:List Ob} {p:AV×Sym} (h:zas L p):jc p.1=true:=by rcases h with e | ⟨_,e,_⟩ <;> rw [e] <;> rfl
theorem zas.mono {L L':List Ob} {p:AV×Sym} (h:zas L p) (hl:∀ x∈L,x∈L'):zas L' p:=h.imp id fun ⟨r,e,m⟩=>⟨r,e,hl _ m⟩
theorem zas.at {h0 h:T Blk} {nx id:Pa} {L:List Ob} {n:Nat} {z:List AV} {p:AV×Sym} (H:Hp h0 h nx (.gro (some id) 2 n z::L)) (hp:zas L p):aO h id p.1 p.2.1:=by
 rcases hp with e | ⟨rid,e,hj⟩
 ·exact .inl e
 ·obtain ⟨op,t,h1,h2⟩:=H.own _ (Zap _ hj);rw [Zas] at h1 h2;obtain ⟨j,hj⟩:=List.getElem?_of_mem hj;exact .inr ⟨rid,0,some p.2.1.length,op,p.2.1.length,t,H.zyq (k:=0) (j:=j+1) rfl hj (by omega) (by simp [Ob.names]) (by simp [Ob.names]),e,h1,by omega,h2⟩
abbrev agP (p:AV×Sym):AV:=.agg [p.1,.bool p.2.2]
def entP (ps:List (AV×Sym)):List (AV×AV):=ps.map fun p=>(.str (sK p.2),agP p)
theorem pY:∀ (q:List (AV×Sym)) (i:Nat),(jZ q).drop (i*2)=jZ (q.drop i)
 | q,0=>by simp
 | [],i+1=>by simp [jZ]
 | p::q,i+1=>by
  rw [List.drop_succ_cons,<- pY q i,show (i+1)*2=i*2+1+1 by omega]
  rfl
theorem zi1 {q:List (AV×Sym)} {i:Nat} (h:i<q.length):(jZ q).drop (i*2)=q[i].1::.bool q[i].2.2::(jZ q).drop ((i+1)*2):=by
 rw [pY,pY,Zar h];rfl
theorem zyr {h0 h:T Blk} {nx:Pa} {L:List Ob} {k j n:Nat} {o:Option Pa} {u:List (AV×Sym)} {c:AV×Sym} (H:Hp h0 h nx L) (hk:L[k]? = some (.gro o 2 n (jZ u))) (hj:u[j]? = some c):∃ id off,(∀ op:AV->OP,zV 2 (qx o 2 n) (I (j:Int)) op=op (.ptr id off))/\∀ op:AV->OP,zS 2 (.ptr id off) h op=op (agP c):=by
 have own:=H.own _ (Zab hk);have hjl:=(List.getElem?_eq_some_iff.1 hj).1;have hlen:=vA u;cases o with
 | none =>
  obtain ⟨q,_⟩:=own;rw [q] at hlen;simp at hlen;omega
 | some id =>
  obtain ⟨t,h1,h2,h3⟩:=own;have hn:n=u.length:=by omega
  subst hn;refine ⟨id,j*2,fun op=>by rw [qx,qH hjl,Zaw],fun op => ?_⟩;show jf (T.get .no id h) _ _=_;rw [h1];show (bif Nat.ble (j*2+2) (u.length*2) then op (.agg (yD t (j*2) 2)) else .no 8)=_;rw [Zac (by omega),cond_true];have e:∀ i,i<u.length*2->T.get .u (.of i) t=(jZ u).getD i .u:=fun i hi=>by
   have:=yC t 0 (u.length*2) i hi;rw [h3,Zaw] at this;rw [Zaa,this];rfl
  have d:∀ i,(jZ u).getD (j*2+i) .u=((jZ u).drop (j*2)).getD i .u:=fun i=>by
   rw [Zaa,Zaa,List.getElem?_drop]
  have e2:yD t (j*2) 2=[T.get .u (.of (j*2)) t,T.get .u (.of (j*2+1)) t]:=rfl;have d0:=d 0;rw [Zco] at d0;obtain rfl:u[j]=c:=by rw [List.getElem?_eq_getElem hjl] at hj;exact Option.some.inj hj
  rw [e2,e _ (by omega),e _ (by omega),d 1,d0,zi1 hjl]
  rfl
theorem zex {h0 h:T Blk} {nx p id:Pa} {L:List Ob} {k n:Nat} {K:Kw Prop} {q s:List (AV×Sym)} (H:Hp h0 h nx L) (hk:L[k]? = some (.gro (some id) 2 n (jZ q))) (hql:q.length=n) (hn:n<=1000000) (hw:∀ a∈q,aO h id a.1 a.2.1/\a.2.1.length<=1000000)
  (hnd:(q.map (·.2)).Nodup) (hq:s.Perm q) (hs:s.Pairwise fun a b=>rX a.2 b.2<=0) (hK:∀ h',Hp h0 h' nx (L.set k (.gro (some id) 2 n (jZ s)))->K (.tup []) h' nx=.ok True):(CS Tryz.prog B).fn 113 p [qx (some id) 2 n,.fn 114 (.of 114) []] h nx K=.ok True:=by
 obtain ⟨t,h1,h2,h3⟩:=H.own _ (Zab hk);have hsl:(jZ s).length=n*2:=by rw [vA,hq.length_eq,hql]
 refine cW (zme (ps:=q) (qs:=s) (off:=0) (o:=none) h1 (by omega) hn hql h3 hw hnd hq hs)
  (v:=.tup []) (h2:=T.set .no (.cells true (n*2) (yS (jZ s) t 0)) id h) (if_pos ⟨rfl,rfl,rfl⟩) (hK _ ?_)
 refine H.upd hk (by simp [Ob.names]) rfl ⟨_,T.get_set_same ..,hsl,?_⟩;have:=uU t [] (jZ s) 0 rfl;rw [Zaw,List.nil_append,hsl] at this;exact this
theorem zur {h0 h:T Blk} {nx p g:Pa} {L:List Ob} {k:Nat} {K:Kw Prop} {q s:List (AV×Sym)} (H:Hp h0 h nx L) (hg:L[k]? = some (.map g (entP q))) (hq0:0<q.length) (hql:q.length<=2000) (hw:∀ a∈q,zas L a/\a.2.1.length<=1000000)
  (hnd:(q.map (·.2)).Nodup) (hq:s.Perm q) (hs:s.Pairwise fun a b=>rX a.2 b.2<=0) (hK:∀ o h' nx' A,Hp h0 h' nx' (.gro o 2 s.length (jZ s)::(A++L))->K (qx o 2 s.length) h' nx'=.ok True):(CS Tryz.prog B).fn 60 p [.map g] h nx K=.ok True:=by
 refine jB (p:=.of 60) (K:=K) (zP zR yh 10000000 fun hf => ?_) fun _ _ _ _ q=>q;rw [F60.go];refine H.range (k:=k) hg fun it h1 nx1 H1 => ?_;have hel:(entP q).length=q.length:=by simp [entP]
 refine F60.L1 (fun m' x2 h' nx'=>∃ (seen:List Nat) (o:Option Pa),x2=qx o 2 seen.length/\(uY q.length seen).length=m'/\seen.length+m'=q.length/\seen.Nodup/\(∀ i∈seen,i<q.length) /\
  Hp h0 h' nx' (.gro o 2 seen.length (jZ (seen.reverse.map fun i=>q.getD i (.u,([],false))))::.iter it g (entP q).length seen (entP q).length::L)) (m:=q.length) (by omega)
  ⟨[],none,rfl,by (have e:uY q.length []=List.range q.length:=List.filter_eq_self.2 (by simp));rw [e];simp,by simp,by simp,by simp,H1.aX 2⟩ ?_
 rintro m' z2 z3 z7 h2 nx2 R ⟨seen,o,rfl,rfl,hsl,hns,hse,H2⟩ hR;refine H2.next (k:=1) (j:=k+2) rfl (by simpa using hg) (fun hall => ?_) fun i a b h3 hi hnin hab H3 => ?_
 ·simp only [jK,zJ];have hsp:=zl2 hns hse fun i hi=>hall i (by rw [hel];exact hi);have hup:(seen.reverse.map fun i=>q.getD i (.u,([],false))).Perm q:=by
   have e:=zlj q (.u,([],false))
   conv=>rhs;rw [e]
   exact ((List.reverse_perm seen).trans hsp).map _
  have hul:=hup.length_eq;rw [Zas,List.length_reverse] at hul;rw [hul] at H2 ⊢;rw [F60.k6];cases o with
  | none =>
   obtain ⟨e,_⟩:=H2.own _ (Zam ..);omega
  | some id =>
   refine zex (k:=0) (s:=s) H2 rfl (by rw [hup.length_eq]) (by omega) (fun a ha=>⟨((hw a (hup.mem_iff.1 ha)).1.mono fun x hx=>Zap _ hx).at H2,(hw a (hup.mem_iff.1 ha)).2⟩) ((hup.map _).nodup_iff.2 hnd) (hq.trans hup.symm) hs fun h4 H4 => ?_;rw [H4.zbw (k:=0) rfl,<- hq.length_eq];rw [<- hq.length_eq] at H4
   refine F60.L7 (fun m x4 x10 h' nx'=>∃ (i:Nat) (o':Option Pa),x10=I i/\x4=qx o' 2 i/\m=s.length-i/\i<=s.length/\Hp h0 h' nx' (.gro o' 2 i (jZ (s.take i))::.gro (some id) 2 s.length (jZ s)::.iter it g (entP q).length seen (entP q).length::L)) (m:=s.length) (by rw [hq.length_eq];omega)
    ⟨0,none,rfl,rfl,by omega,by omega,H4.aX 2⟩ ?_
   rintro m z4 z5 z10 z11 h5 nx5 R' ⟨i,o',rfl,rfl,rfl,hi,H5⟩ hR';by_cases hlt:i<s.length
   case neg =>
    have ei:i=s.length:=by omega
    subst ei;simp only [jl,show ¬ (s.length:Int)<(s.length:Int) by omega,decide_false,zJ];rw [F60.k14];rw [Zal (Zai _)] at H5;exact hK _ _ _ [.gro (some id) 2 s.length (jZ s),.iter it g (entP q).length seen (entP q).length] H5
   simp only [jl,show (i:Int)<(s.length:Int) by omega,decide_true,zH];have hx:s[i]? = some s[i]:=List.getElem?_eq_getElem hlt;obtain ⟨iu,ou,e1,e2⟩:=zyr (k:=1) H5 rfl hx;rw [e1,e2];refine H5.alloc fun b5 h6 nx6 H6 => ?_;refine H6.qy (k:=0) (n:=2) rfl rfl rfl fun h7 H7 => ?_;rw [H7.zn (k:=0) (n:=2) rfl rfl];refine H7.yj (l:=[s[i].1,.bool s[i].2.2]) rfl fun tb h8 nx8 H8 => ?_;rw [zan];refine H8.appN (k:=2) (o:=o') (c:=1) (esz:=2) (new:=[s[i].1,.bool s[i].2.2]) rfl (yx.rd (l:=[s[i].1,.bool s[i].2.2]) (n:=1) (e:=2) (H8.own _ (Zam ..)) rfl) rfl (by rw [List.all_cons,(hw _ (hq.mem_iff.1 (Zak hlt))).1.jc];rfl) (by decide) (by decide) (by rw [hq.length_eq] at hlt;omega) fun o'' h9 nx9 _ H9 => ?_;rw [jk (by rw [hq.length_eq] at hlt;omega)];refine hR' (s.length-(i+1)) _ _ _ _ _ _ (by omega) ⟨i+1,o'',by rfl,rfl,rfl,by omega,?_⟩;have ef:jZ (s.take i)++[s[i].1,.bool s[i].2.2]=jZ (s.take (i+1)):=by rw [Zan,hx];unfold jZ;rw [List.flatMap_append];rfl
   rw [ef] at H9;exact H9.drop.drop
 ·have hi':i<q.length:=by rw [<- hel];exact hi
  have hx:q[i]? = some q[i]:=List.getElem?_eq_getElem hi';have hent:(entP q)[i]? = some (.str (sK q[i].2),agP q[i]):=by rw [entP,List.getElem?_map,hx];rfl
  rw [hent] at hab;cases hab
  simp only [jK,zH];rw [H3.entry (k:=1) (j:=k+2) rfl (by simpa using hg) hent];simp only [jL];refine H3.alloc fun b5 h6 nx6 H6 => ?_;refine H6.qy (k:=0) (n:=2) rfl rfl rfl fun h7 H7 => ?_;rw [H7.zn (k:=0) (n:=2) rfl rfl];refine H7.yj (l:=[q[i].1,.bool q[i].2.2]) rfl fun tb h8 nx8 H8 => ?_;rw [zan];refine H8.appN (k:=2) (o:=o) (c:=1) (esz:=2) (new:=[q[i].1,.bool q[i].2.2]) rfl (yx.rd (l:=[q[i].1,.bool q[i].2.2]) (n:=1) (e:=2) (H8.own _ (Zam ..)) rfl) rfl (by rw [List.all_cons,(hw _ (Zak hi')).1.jc];rfl) (by decide) (by decide) (by omega) fun o'' h9 nx9 _ H9 => ?_;have hst:=zic hi' hnin;refine hR (uY q.length (i::seen)).length _ _ _ _ _ (by omega) ⟨i::seen,o'',rfl,rfl,by simp;omega,List.nodup_cons.2 ⟨hnin,hns⟩,fun j hj => ?_,?_⟩
  ·rcases List.mem_cons.1 hj with rfl | r
   ·exact hi'
   ·exact hse j r
  ·have ef:jZ (seen.reverse.map fun i=>q.getD i (.u,([],false)))++[q[i].1,.bool q[i].2.2]=jZ ((i::seen).reverse.map fun i=>q.getD i (.u,([],false))):=by
    rw [List.reverse_cons,Zbn];simp [jZ,hx]
   rw [ef] at H9;exact H9.drop.drop
end Go.Ev
namespace Go.Ev
open Go Go.Proofs
theorem zus {P:Program} {B:Nat} {f:Nat} {args:List AV} {h h0:T Blk} {nx:Pa} {r:AV} (hk0:qA h0 h) (hc:∀ K:Kw Prop,(∀ v h' nx',Fr h' nx'->qA h0 h'->rU h0 h' v r->K v h' nx'=.ok True)->(CS P B).fn f (.of f) args h nx K=.ok True)
  {E:Env} {w:World} {vs:Array Value} (H:HR P B E h nx w) (hv:VRL E args vs.toList) :
  ∃ fn:Func,P.funcs[f]? = some fn/\fn.body.isNone=false/\(fn.name == "runtime.NumGoroutine")=false/\∀ n,CallsIn Fence.wide n P f vs w fun e w'=>∃ u E',e=.returned u/\VR E' r u/\HR P B E' h0 nx w'/\Ex E E' w w':=by
 have hk:=hc (fun v h' nx'=>open Classical in if qA h0 h'/\rU h0 h' v r then .ok True else .no 0) (fun v h' nx' _ h1 h2=>if_pos ⟨h1,h2⟩);rw [tJ] at hk;obtain ⟨fn,h1,h2,h3,h4⟩:=hk.1 E w vs H hv;refine ⟨fn,h1,h2,h3,fun n=>(h4 n).mono fun e w' he => ?_⟩
 cases e <;> first
  | exact he.elim
  |(obtain ⟨av,h',nx',E',k1,k2,k3,k4⟩:=he
    have k1':(open Classical in if qA h0 h'/\rU h0 h' av r then (Out.ok True:Out Prop) else .no 0)=.ok True:=k1;split at k1'
    ·rename_i hh;obtain ⟨hkp,hF⟩:=hh;have H0:=H.zjw hk0;obtain ⟨r1,r2,_⟩:=pE H0 k3 k4 hkp;exact ⟨_,_,rfl,zei H0 k3 k4 hkp hF k2,r1,r2⟩
    ·cases k1')
theorem zut {h0 h:T Blk} {nx:Pa} {L:List Ob} {o:Option Pa} {n k e:Nat} {l l':List AV} (H:Hp h0 h nx L) (hk:L[k]? = some (.gro o e n l)) (hl:l'.length=l.length) (hs:l'.all jc=true) (hf:∀ (i:Nat) (v v':AV),l[i]? = some v->l'[i]? = some v'->rU h0 h v v'):rU h0 h (qx o e n) (.lst e n l'):=by
 have own:=H.own _ (Zab hk);have hoff:=H.off;cases o with
 | none =>
  obtain ⟨rfl,rfl⟩:=own;obtain rfl:l'=[]:=by simpa using hl
  exact .zbr e
 | some id =>
  obtain ⟨t,h1,h2,h3⟩:=own;refine .sl _ _ _ _ _ true _ t _ (hoff id (List.mem_flatMap.2 ⟨_,Zab hk,by simp [Ob.names]⟩)) trivial h1 (by omega) (by rw [hl];exact h2) hs fun i v hi => ?_;have hil:i<l.length:=by rw [<- hl];exact (List.getElem?_eq_some_iff.1 hi).1
  have:=yC t 0 (n*e) i (by rw [<- h2];exact hil);rw [h3,List.getElem?_eq_getElem hil] at this;rw [<- Option.some.inj this];exact hf i _ _ (List.getElem?_eq_getElem hil) hi
end Go.Ev
namespace Go.Ev
open Go Go.Proofs
variable {B:Nat}
def insP (x:AV×Sym):List (AV×Sym)->List (AV×Sym)
 | []=>[x]
 | y::l=>if rX x.2 y.2<=0 then x::y::l else y::insP x l
def srtP:List (AV×Sym)->List (AV×Sym)
 | []=>[]
 | x::l=>insP x (srtP l)
theorem bR (x:AV×Sym):∀ l,(insP x l).Perm (x::l)
 | []=>.refl _
 | y::l=>by
  rw [insP];split
  ·exact .refl _
  ·exact ((bR x l).cons y).trans (.swap x y l)
theorem zdj:∀ l,(srtP l).Perm l
 | []=>.refl _
 | x::l=>(bR x _).trans ((zdj l).cons x)
theorem zcu {a b c:Sym} (h1:rX a b<=0) (h2:rX b c<=0):rX a c<=0:=by
 have n1:=kU a b;have n2:=kU b c;have n3:=kU a c;have:=pH (a:=c) (b:=b) (c:=a) (by omega) (by omega);omega
theorem zgz {x:AV×Sym}:∀ {l:List (AV×Sym)},l.Pairwise (fun a b=>rX a.2 b.2<=0)->(insP x l).Pairwise (fun a b=>rX a.2 b.2<=0)
 | [],_=>by simp [insP]
 | y::l,h=>by
  have h':=List.pairwise_cons.1 h;rw [insP];split
  ·rename_i c;refine List.pairwise_cons.2 ⟨fun z hz => ?_,h⟩;rcases List.mem_cons.1 hz with rfl | r
   ·exact c
   ·exact zcu c (h'.1 z r)
  ·rename_i c;refine List.pairwise_cons.2 ⟨fun z hz => ?_,zgz h'.2⟩;rcases List.mem_cons.1 ((bR x l).mem_iff.1 hz) with rfl | r
   ·have:=kU z.2 y.2;omega
   ·exact h'.1 z r
theorem zg0:∀ l,(srtP l).Pairwise (fun a b=>rX a.2 b.2<=0)
 | []=>.nil
 | _::l=>zgz (zg0 l)
def zg1:List AV->Option (List Int)
 | []=>some []
 | .int .i64 v::l=>match zg1 l with
  | some r=>some (v::r)
  | none=>none
 | _=>none
theorem zg2:∀ {l:List AV} {xs:List Int},zg1 l=some xs->l=xs.map I
 | [],xs,h=>by rw [zg1] at h;cases h;rfl
 | a::l,xs,h=>by
  unfold zg1 at h;split at h
  ·rename_i he;cases he
  ·rename_i v l' he;cases he
   split at h
   ·rename_i r hr;cases h
    rw [zg2 hr];rfl
   ·cases h
  ·cases h
def zi2 (h:T Blk) (a:AV):Option (Pa×List Int):=match a with
 | .sl rid off n (some c) e=>match T.get .no rid h with
  | .cells _ m t=>if off=0/\e=1/\m=n/\c=n then (match zg1 (yD t 0 n) with
   | some l=>some (rid,l)
   | none=>none) else none
  | _=>none
 | _=>none
theorem zmf {h:T Blk} {a:AV} {rid:Pa} {l:List Int} (e:zi2 h a=some (rid,l)):a=.sl rid 0 l.length (some l.length) 1/\yx h rid (l.map I):=by
 unfold zi2 at e;split at e
 case h_2=>cases e
 rename_i r off n c ee he0;split at e
 case h_2=>cases e
 rename_i op m t ht;split at e
 case isFalse=>cases e
 rename_i hc;obtain ⟨rfl,rfl,rfl,rfl⟩:=hc;split at e
 case h_2=>cases e
 rename_i l' hl;cases e
 have e1:=zg2 hl;have e2:l.length=ee:=by
  have:=congrArg List.length e1;rw [Zas,uG] at this;exact this.symm
 subst e2;exact ⟨rfl,op,t,by rw [Zas];exact ht,by rw [Zas];exact e1⟩
def zcc (h:T Blk):List (AV×AV)->Option (List (Pa×(AV×Sym)))
 | []=>some []
 |(.str k,.agg [a,.bool c])::es=>match zi2 h a,zcc h es with
  | some (rid,l),some r=>if sK (l,c)=k then some ((rid,(a,(l,c)))::r) else none
  | _,_=>none
 | _=>none
theorem zdk {h:T Blk}:∀ {es:List (AV×AV)} {r:List (Pa×(AV×Sym))},zcc h es=some r->es=entP (r.map (·.2))/\∀ x∈r,x.2.1=.sl x.1 0 x.2.2.1.length (some x.2.2.1.length) 1/\yx h x.1 (x.2.2.1.map I)
 | [],r,e=>by rw [zcc] at e;cases e;exact ⟨rfl,fun x hx=>by cases hx⟩
 | p::es,r,e=>by
  unfold zcc at e;split at e
  ·rename_i he;cases he
  ·rename_i k a c es' he;cases he
   split at e
   ·rename_i rid l r' h1 h2;split at e
    ·rename_i hk;cases e
     obtain ⟨i1,i2⟩:=zdk h2;obtain ⟨j1,j2⟩:=zmf h1;refine ⟨by rw [i1,<- hk];rfl,fun x hx => ?_⟩;rcases List.mem_cons.1 hx with rfl | q
     ·exact ⟨j1,j2⟩
     ·exact i2 x q
    ·cases e
   ·cases e
  ·cases e
def wM (f:Nat) (a:List AV) (h:T Blk):Option (AV×T Blk):=if f=60 then (match a with
 | [.map g]=>match T.get .no g h with
  | .map n es=>match zcc h es with
   | some r=>if n=es.length/\0<r.length/\r.length<=2000/\((g::r.map (·.1)).map Pa.toNat).Nodup/\(r.map (·.2.2)).Nodup/\(∀ x∈r,x.2.2.1.length<=1000000) then some (vw ((srtP (r.map (·.2))).map (·.2)),zb8 (g::r.map (·.1)) h) else none
   | none=>none
  | _=>none
 | _=>none) else none
theorem zcd:∀ (qs:List Sym),(jF qs).all jc=true
 | []=>rfl
 | _::qs=>zcd qs
theorem zdl:∀ (ps:List Sym) (i:Nat),(jF ps)[i]? = (ps[i / 2]?).map fun p=>if i%2=0 then encI p.1 else .bool p.2
 | [],i=>by simp [jF]
 | p::ps,0=>rfl
 | p::ps,1=>rfl
 | p::ps,i+2=>by
  rw [show (i+2) / 2=i / 2+1 by omega,show (i+2)%2=i%2 by omega,List.getElem?_cons_succ,<- zdl ps i]
  rfl
theorem mP {α β:Type} {f:α->β}:∀ {l:List α},(l.map f).Nodup->l.Nodup
 | [],_=>.nil
 | a::l,h=>by
  rw [Zcm,Zbw] at h;exact List.nodup_cons.2 ⟨fun m=>h.1 (List.mem_map.2 ⟨a,m,rfl⟩),mP h.2⟩
theorem uQ:JOk Tryz.prog B wM:=by
 intro E h nx w f args vs v h2 H hv hj;unfold wM at hj;split at hj
 case isFalse=>cases hj
 rename_i hf;subst hf;split at hj
 case h_2=>cases hj
 rename_i g;split at hj
 case h_2=>cases hj
 rename_i n es hg;split at hj
 case h_2=>cases hj
 rename_i r hr;split at hj
 case isFalse=>cases hj
 rename_i hc;obtain ⟨rfl,hr0,hrl,hnd1,hnd2,hlen⟩:=hc;cases hj
 have hnd1:=mP hnd1;obtain ⟨rfl,hrow⟩:=zdk hr;have names:(Ob.map g (entP (r.map (·.2)))::r.map fun x=>Ob.arr x.1 (x.2.2.1.map I)).flatMap Ob.names=g::r.map (·.1):=by
  have e:∀ r:List (Pa×(AV×Sym)),(r.map fun x=>Ob.arr x.1 (x.2.2.1.map I)).flatMap Ob.names=r.map (·.1):=by
   intro r
   induction r with
   | nil=>rfl
   | cons x r ih=>show x.1::_=x.1::_;rw [<- ih];rfl
  show g::_=_;rw [<- e];rfl
 have H0:Hp (zb8 (g::r.map (·.1)) h) h nx (.map g (entP (r.map (·.2)))::r.map fun x=>.arr x.1 (x.2.2.1.map I)):=⟨fun j hj=>by
   by_cases q:j∈g::r.map (·.1)
   ·exact absurd (zb9 _ h j (.inl q)) hj
   ·exact (zdf _ h j q).symm,fun y hy=>by
   rcases List.mem_cons.1 hy with rfl | q
   ·exact hg
   ·obtain ⟨x,hx,rfl⟩:=List.mem_map.1 q;exact (hrow x hx).2,fun m hm=>zb9 _ h m (.inl (by rw [names] at hm;exact hm)),by rw [names];exact hnd1,H.fr⟩
 refine zus (h0:=zb8 (g::r.map (·.1)) h) H0.keep (fun K hK => ?_) H hv;have hp:=zdj (r.map (·.2));refine zur (k:=0) (q:=r.map (·.2)) (s:=srtP (r.map (·.2))) H0 rfl (by rw [Zas];exact hr0) (by rw [Zas];exact hrl) (fun p hq => ?_) (by rw [Zca];exact hnd2) hp (zg0 _) fun o h' nx' A H'=>hK _ _ _ H'.fr H'.keep ?_
 ·obtain ⟨x,hx,rfl⟩:=List.mem_map.1 hq;exact ⟨.inr ⟨x.1,(hrow x hx).1,Zap _ (List.mem_map.2 ⟨x,hx,rfl⟩)⟩,hlen x hx⟩
 ·have:=zut (k:=0) (l':=jF ((srtP (r.map (·.2))).map (·.2))) H' rfl (by rw [uW,vA,Zas]) (zcd _) fun i a b h1 h2 => ?_
  ·show rU _ _ (qx o 2 _) (.lst 2 ((srtP (r.map (·.2))).map (·.2)).length _);rw [Zas];exact this
  rw [d8] at h1;rw [zdl,List.getElem?_map] at h2;cases hx:(srtP (r.map (·.2)))[i / 2]? with
  | none=>rw [hx] at h1;cases h1
  | some p =>
   rw [hx] at h1 h2;simp only [Zcb,Option.some.injEq] at h1 h2;subst h1;subst h2;by_cases c:i%2=0
   ·rw [if_pos c,if_pos c];obtain ⟨x,hxm,rfl⟩:=List.mem_map.1 (hp.mem_iff.1 (Zab hx));rw [(hrow x hxm).1];have hin:Ob.arr x.1 (x.2.2.1.map I)∈(.gro o 2 (srtP (r.map (·.2))).length (jZ (srtP (r.map (·.2))))::(A++(.map g (entP (r.map (·.2)))::r.map fun x=>Ob.arr x.1 (x.2.2.1.map I)))):=by
     refine Zap _ (List.mem_append_right _ (Zap _ (List.mem_map.2 ⟨x,hxm,rfl⟩)))
    obtain ⟨k,hk⟩:=List.getElem?_of_mem hin;exact H'.zae hk (by show dL _ (some _);simp [dL]) (by simp) (fun v hv=>by obtain ⟨z,_,rfl⟩:=List.mem_map.1 hv;rfl)
   ·rw [if_neg c,if_neg c];exact zL rfl
end Go.Ev
namespace Go.Ev
def qci (s:List Int) (v x:Int):List Int:=s.set v.toNat (s.getD v.toNat 0+x)
def Sm (s:List Int) (M:Nat):Prop:=∀ v∈s,0<=v/\v<=(M:Int)
theorem Sm.get {s:List Int} {M:Nat} (h:Sm s M) (i:Nat):0<=s.getD i 0/\s.getD i 0<=(M:Int):=by
 rw [Zaa];cases e:s[i]? with
 | none=>simp
 | some v=>exact h v (Zab e)
theorem Sm.mono {s:List Int} {M N:Nat} (h:Sm s M) (hm:M<=N):Sm s N:=fun v hv=>by have:=h v hv;omega
theorem Sm.add {s:List Int} {M X:Nat} {v x:Int} (h:Sm s M) (hx:0<=x/\x<=(X:Int)):Sm (qci s v x) (M+X):=by
 intro u hu;have g:=h.get v.toNat;rcases List.mem_or_eq_of_mem_set hu with q | rfl
 ·have:=h u q;omega
 ·omega
def qcj (l f:List Int):Int:=(l.map fun c=>f.getD c.toNat 0).sum
section
variable {σ α:Type}
end
end Go.Ev
namespace Go.Ev
def insS (x:Int):List (Int×Int)->List (Int×Int)
 | []=>[(x,1)]
 |(y,c)::q=>if y<x then (y,c)::insS x q else if y=x then (y,IntKind.wrap .i64 (c+1))::q else (x,1)::(y,c)::q
def zwx (lines:List (List Int)) (D:List (List Int)):List (Int×Int):=match lines with
 | []=>[]
 | l::_=>D.foldl (fun q f=>insS (qcj l f) q) []
def SpOK (M:Int) (q:List (Int×Int)):Prop:=q.Pairwise (fun a b=>a.1<b.1)/\∀ p∈q,0<=p.1/\p.1<=M
theorem SpOK.len {q:List (Int×Int)} (h:SpOK 9000 q):q.length<=9001:=by
 obtain ⟨t,ht⟩:=mG (q.map (·.1)) ((List.range 9001).map fun (i:Nat)=>(i:Int)) (by
  rw [List.nodup_iff_pairwise_ne,Zbp];exact h.1.imp fun {a b} q e=>by omega) fun x hx=>by
  obtain ⟨p,hp,rfl⟩:=List.mem_map.1 hx;have:=h.2 p hp;exact List.mem_map.2 ⟨p.1.toNat,List.mem_range.2 (by omega),by omega⟩
 have:=ht.length_eq;rw [Zas,List.length_range,Zat,Zas] at this;omega
end Go.Ev
namespace Go.Ev
open Go Go.Proofs
variable {B:Nat}
set_option maxRecDepth 100000
theorem zg3 (l:List Int):(srt l).length=l.length:=(wH l).length_eq
theorem zg4 {f:List Int} (hj:∀ B,JOk Tryz.prog B qW) (hl:f.length<=100000):Pure Tryz.prog B 50 [encI f] (· = .bool (decide (srt f=upTo f.length))):=by
 intro p h nx K hK;refine zP zR yh 10000000 fun hf => ?_;rw [F50.go];refine zl1 _ _ _ _ ?_;rintro _ rfl _;refine zl8 hj hl _ _ _ _ ?_;rintro _ rfl _;have hlen:=zg3 f;simp only [zO];refine F50.L1 (fun m z6 h' nx'=>∃ i:Nat,z6=I i/\f.length-i=m/\i<=f.length/\h'=h/\nx'=nx/\(srt f).take i=(upTo f.length).take i) (m:=f.length) (by omega) ⟨0,rfl,rfl,by omega,rfl,rfl,rfl⟩ ?_;rintro m z1 z2 z3 z6 z7 z8 _ _ R ⟨i,rfl,rfl,hi,rfl,rfl,htk⟩ hR;simp only [jl];by_cases hlt:i<f.length
 ·simp only [show (i:Int)<((srt f).length:Int) by omega,decide_true,zH];have hx:(srt f)[i]? = some (srt f)[i]:=List.getElem?_eq_getElem (by omega);have hu:(upTo f.length)[i]? = some ((i:Int)+1):=by simp [List.getElem?_map,hlt]
  rw [xu rfl (by omega),ldL (fD hx),jk (by omega)];simp only [qm];by_cases c:(srt f)[i]=(i:Int)+1
  ·simp only [c,decide_true,Zaf,zJ];rw [jk (by omega)];refine hR _ _ _ _ _ _ _ _ _ (by omega) ⟨i+1,rfl,rfl,by omega,rfl,rfl,?_⟩;rw [Zan,Zan,htk,hx,hu,c]
  ·simp only [c,decide_false,Zag,zH];refine hK _ ?_ hf;rw [decide_eq_false];intro q;have h9:(srt f)[i]? = some ((i:Int)+1):=by rw [q];exact hu
   rw [hx] at h9;exact c (Option.some.inj h9)
 ·simp only [show ¬ (i:Int)<((srt f).length:Int) by omega,decide_false,zJ];rw [F50.k8];rw [Zal (by omega),Zal (by simp;omega)] at htk;exact hK _ (by rw [decide_eq_true htk]) hf
end Go.Ev
namespace Go.Ev
open Go Go.Proofs
variable {B:Nat}
def zp8 (x:AV) (X:Ob) (l:List Int) (v:Int):Prop:=(l=[v]/\∃ p,x=.sl p 0 1 (some 1) 1/\X=.arr p [I v])\/∃ o,x=qx (some o) 1 l.length/\X=.gro (some o) 1 l.length (l.map I)
theorem zp8.ok {x:AV} {X:Ob} {l:List Int} {v:Int} (h:zp8 x X l v):oH (x,X,l):=by
 rcases h with ⟨rfl,p,rfl,rfl⟩ | ⟨o,rfl,rfl⟩
 ·exact .inl ⟨p,some 1,Zai _,rfl,rfl⟩
 ·exact .inr ⟨some o,rfl,rfl⟩
theorem zp9 {x:Int} {v:AV} {K:AV->OP} (h:v.cells=some [v]):jO [(I 0),.zf] [(0,1,I x),(1,1,v)] K=K (.agg [I x,v]):=by
 have e:gS [(I 0),AV.zf] [(0,1,I x),(1,1,v)]=some [I x,v]:=by simp only [gS,h];rfl
 show (match gS [(I 0),AV.zf] [(0,1,I x),(1,1,v)] with
  | some l=>K (.agg l)
  | none=>Out.no 2)=_
 rw [e]
section
variable {σ:Type} {h0:T Blk} {n:Nat} {lines:List (List Int)} {s:Int} {f bu bf be bp bg:Pa} {id:Pa} {LC:Bool->σ->List Ob->Prop} {stp:σ->List Int->σ×Bool}
end
end Go.Ev
namespace Go.Ev
def incZ (v:Int):Int:=IntKind.wrap .i64 (v+1)
def incT (A:List (List Int)) (c:Nat) (x:Int):List (List Int):=A.set c ((A.getD c []).set (x-1).toNat (incZ ((A.getD c []).getD (x-1).toNat 0)))
def zqa (A:List (List Int)) (fl:List Int):Nat->List (List Int)
 | 0=>A
 | i+1=>incT (zqa A fl i) i (fl.getD i 0)
def addF (A:List (List Int)) (fl:List Int):List (List Int):=zqa A fl fl.length
def zkj (n:Nat):List (List Int):=List.replicate n (List.replicate n 0)
def dH (n:Nat) (fs:List (List Int)):List (List Int):=fs.foldl addF (zkj n)
def Sq (n:Nat) (A:List (List Int)):Prop:=A.length=n/\∀ r∈A,r.length=n
theorem Sq.get {n c:Nat} {A:List (List Int)} (h:Sq n A) (hc:c<n):A[c]? = some (A.getD c [])/\(A.getD c []).length=n:=by
 have h1:=h.1;rw [Zaa,List.getElem?_eq_getElem (by omega)];exact ⟨rfl,h.2 _ (Zak _)⟩
theorem Sq.inc {n c:Nat} {A:List (List Int)} {x:Int} (h:Sq n A) (hc:c<n):Sq n (incT A c x):=by
 refine ⟨by simp [incT,h.1],fun r hr => ?_⟩;rcases List.mem_or_eq_of_mem_set hr with q | rfl
 ·exact h.2 r q
 ·rw [List.length_set];exact (h.get hc).2
theorem Sq.fi {n:Nat} {A:List (List Int)} {fl:List Int} (h:Sq n A):∀ i,i<=n->Sq n (zqa A fl i)
 | 0,_=>h
 | i+1,hi=>(Sq.fi h i (by omega)).inc (by omega)
theorem Sq.zero (n:Nat):Sq n (zkj n):=⟨by simp [zkj],fun r hr=>by simp [zkj] at hr;rw [hr.2];simp⟩
end Go.Ev
namespace Go.Ev
open Go Go.Proofs
variable {B:Nat}
abbrev tI (A:List (List Int)):List (List AV):=A.map fun r=>r.map I
def wrapN (k:Nat):Int:=IntKind.wrap .i64 (k:Int)
abbrev cB (n:Nat) (rows:List (Pa×Option Nat)):List AV:=rows.map fun r=>.sl r.1 0 n r.2 1
abbrev zdm (rows:List (Pa×Option Nat)) (D:List (List Int)):List Ob:=List.zipWith (fun r fl=>Ob.arr r.1 (fl.map I)) rows D
structure TL (n:Nat) (lines:List (List Int)) (s:Int) (most:Nat) (tb:Pa) (D:List (List Int)) (t:AV) (L:List Ob):Prop where
 ex:∃ (o:Option Pa) (rs:List (Option Pa)) (rows:List (Pa×Option Nat)) (sv:AV) (S:List Ob),t=.agg [I s,.bool false,I most,I (wrapN D.length),sv,qx o 1 rows.length,.sl tb 0 n (some n) 1] /\
  L=.gro o 1 rows.length (cB n rows)::.tab tb rs (tI (dH n D))::(S++zdm rows (D.take most))/\rows.length=(D.take most).length/\(∀ r∈rows,dL n r.2)/\(∀ c,c<n->∃ r,rs[c]? = some (some r)) /\
  ((sv=.zf/\S=[]/\(lines=[]\/D=[]))\/∃ id c,sv=.sl id 0 1 none 2/\S=[.arr id [I s,I c]]/\lines≠[])
theorem Sq.fold {n:Nat}:∀ (l A:List (List Int)),Sq n A->(∀ f∈l,f.length=n)->Sq n (l.foldl addF A)
 | [],A,h,_=>h
 | f::l,A,h,hl=>by
  rw [Zci];refine Sq.fold l _ ?_ fun x hx=>hl x (by simp [hx]);rw [addF,hl f (by simp)];exact h.fi n (Zai _)
theorem Sq.dist {n:Nat} {D:List (List Int)} (h:∀ f∈D,f.length=n):Sq n (dH n D):=Sq.fold D _ (.zero n) h
theorem zqb {N:Pa->Prop} {O:AV->Prop} {hh:T Blk} {l:List AV} (hs:l.all jc=true) (h:∀ v∈l,Frz True N O hh v v):Frz True N O hh (.agg l) (.agg l) :=
 .agg _ _ rfl hs fun i v v' h1 h2=>by rw [h1] at h2;cases h2;exact h v (Zab h1)
theorem zey {h' h:T Blk} {id:Pa} {off ln esz:Nat} {cap:Option Nat} (hl:T.get .no id h'≠.no):rU h' h (.sl id off ln cap esz) (.sl id off ln cap esz):=.old _ (.inr (.inr (.inr ⟨id,off,ln,cap,esz,rfl,hl⟩)))
variable {n most:Nat} {lines:List (List Int)} {s:Int} {tb us:Pa} {h0:T Blk} {M:List Ob}
theorem TL.cells {D:List (List Int)} {t:AV} {L:List Ob} (h:TL n lines s most tb D t L):∃ a b c d e,t=.agg [I s,.bool false,a,b,c,d,e]/\t.cells=some [I s,.bool false,a,b,c,d,e]:=by
 obtain ⟨o,rs,rows,sv,S,rfl,rfl,hrl,hcap,hrs,hsp⟩:=h.ex;refine ⟨_,_,_,_,_,rfl,?_⟩;rcases hsp with ⟨rfl,_⟩ | ⟨id,c,rfl,_⟩ <;> cases o <;> rfl
theorem TL.frz {D:List (List Int)} {t:AV} {L A C:List Ob} {h' h:T Blk} {nx:Pa} (hT:TL n lines s most tb D t L) (H:Hp h0 h' nx (A++(L++C))):rU h' h t t:=by
 obtain ⟨o,rs,rows,sv,S,rfl,rfl,hrl,hcap,hrs,hsp⟩:=hT.ex;have live:∀ x:Ob,x∈(A++((.gro o 1 rows.length (cB n rows)::.tab tb rs (tI (dH n D))::(S++zdm rows (D.take most)))++C))->∀ id∈x.names,T.get .no id h'≠.no:=fun x hx id hid=>(H.own x hx).live id hid;have hrow:rU h' h (qx o 1 rows.length) (qx o 1 rows.length):=by
  cases o with
  | none=>exact .zf
  | some id=>exact zey (live (.gro (some id) 1 rows.length (cB n rows)) (by simp) id (by simp [Ob.names]))
 have htb:rU h' h (.sl tb 0 n (some n) 1) (.sl tb 0 n (some n) 1):=zey (live (.tab tb rs (tI (dH n D))) (by simp) tb (by simp [Ob.names]));have hsv:rU h' h sv sv/\jc sv=true:=by
  rcases hsp with ⟨rfl,_⟩ | ⟨id,c,rfl,rfl,_⟩
  ·exact ⟨.zf,rfl⟩
  ·exact ⟨zey (live (.arr id [I s,I c]) (by simp) id (by simp [Ob.names])),rfl⟩
 have hrs':jc (qx o 1 rows.length)=true:=by cases o <;> rfl
 refine zqb (by simp only [List.all_cons,List.all_nil,hsv.2,hrs',Bool.and_true];rfl) fun v hv => ?_;simp only [Zah,List.not_mem_nil,or_false] at hv;rcases hv with rfl | rfl | rfl | rfl | rfl | rfl | rfl
 ·exact .int _ _
 ·exact .bool _
 ·exact .int _ _
 ·exact .int _ _
 ·exact hsv.1
 ·exact hrow
 ·exact htb
end Go.Ev
namespace Go.Ev
open Go Go.Proofs
variable {B:Nat}
theorem zys {l:List Int}:∀ v∈l.map I,rD v=true:=fun v hv=>by obtain ⟨x,_,rfl⟩:=List.mem_map.1 hv;rfl
theorem TL.fix {n most:Nat} {lines:List (List Int)} {s:Int} {tb:Pa} {D:List (List Int)} {t:AV} {L A C:List Ob} {h0 h:T Blk} {nx:Pa} (hT:TL n lines s most tb D t L) (hD:∀ f∈D,f.length=n) (H:Hp h0 h nx (A++(L++C))) :
  ∃ sv,rU h0 h t (.agg [I s,.bool false,I most,I (wrapN D.length),sv,sW (D.take most),sW (dH n D)])/\(sv=.zf\/∃ c,sv=.lst 2 1 [I s,I c]):=by
 obtain ⟨o,rs,rows,sv,S,rfl,rfl,hrl,hcap,hrs,hsp⟩:=hT.ex;have idx:∀ x:Ob,x∈(A++((.gro o 1 rows.length (cB n rows)::.tab tb rs (tI (dH n D))::(S++zdm rows (D.take most)))++C))->∃ k:Nat,(A++((.gro o 1 rows.length (cB n rows)::.tab tb rs (tI (dH n D))::(S++zdm rows (D.take most)))++C))[k]? = some x:=fun x hx=>List.mem_iff_getElem?.1 hx;have hSq:=Sq.dist (n:=n) hD;have hrow:∀ (i:Nat) v v',(cB n rows)[i]? = some v->((D.take most).map encI)[i]? = some v'->rU h0 h v v':=by
  intro i v v' q1 q2;rw [List.getElem?_map] at q1 q2;cases e1:rows[i]? with
  | none=>rw [e1] at q1;cases q1
  | some r =>
   cases e2:(D.take most)[i]? with
   | none=>rw [e2] at q2;cases q2
   | some fl =>
    rw [e1] at q1;rw [e2] at q2;have q1:=Option.some.inj q1;have q2:=Option.some.inj q2;subst q1 q2;have hfl:fl.length=n:=hD fl (List.mem_of_mem_take (Zab e2));have hm:Ob.arr r.1 (fl.map I)∈zdm rows (D.take most):=List.mem_iff_getElem?.2 ⟨i,by rw [zdm,List.getElem?_zipWith,e1,e2]⟩;obtain ⟨k,hk⟩:=idx (.arr r.1 (fl.map I)) (by simp only [Zav,Zah];exact .inr (.inl (.inr (.inr (.inr hm)))));have:=H.zae hk (hcap r (Zab e1)) (e:=1) (by simp [hfl]) zys;have e3:AV.lst 1 n (fl.map I)=encI fl:=by rw [<- hfl]
    rw [e3] at this;exact this
 have hlist:rU h0 h (qx o 1 rows.length) (sW (D.take most)):=by
  obtain ⟨k,hk⟩:=idx (.gro o 1 rows.length (cB n rows)) (by simp);have own:=H.own _ (Zab hk);cases o with
  | none =>
   obtain ⟨_,q⟩:=own;have:D.take most=[]:=Zbe (by omega);rw [this];exact .zbr 1
  | some id =>
   obtain ⟨t,g1,g2,g3⟩:=own;have harr:yx h id (cB n rows):=⟨true,t,by rw [g1,g2],by rw [g2];exact g3⟩;have hoff:=H.off id (List.mem_flatMap.2 ⟨_,Zab hk,by simp [Ob.names]⟩);have:=yx.frzE (N:=fun id=>T.get Blk.no id h0=.no) (O:=fun v=>(∃ id off,v=.ptr id off/\T.get Blk.no id h0≠.no)\/(∃ id,v=.yld id/\T.get Blk.no id h0≠.no)\/(∃ id,v=.map id/\T.get Blk.no id h0≠.no)\/(∃ id off ln cap esz,v=.sl id off ln cap esz/\T.get Blk.no id h0≠.no)) (cap:=none) (e:=1) (n:=rows.length) (l':=(D.take most).map encI) harr hoff trivial (by simp) (by rw [Zas,Zas,hrl]) (List.all_eq_true.2 fun v hv=>by obtain ⟨x,_,rfl⟩:=List.mem_map.1 hv;rfl) hrow;rw [hrl] at this ⊢;exact this
 have htab:rU h0 h (.sl tb 0 n (some n) 1) (sW (dH n D)):=by
  obtain ⟨k,hk⟩:=idx (.tab tb rs (tI (dH n D))) (by simp)
  have:=H.zx5 hk (cap:=some n) (n:=n) (Zai _) (by simp [hSq.1]) (fun l hl v hv=>by
   obtain ⟨r,_,rfl⟩:=List.mem_map.1 hl;obtain ⟨x,_,rfl⟩:=List.mem_map.1 hv
   rfl)
  have e:AV.lst 1 n ((tI (dH n D)).map fun l=>AV.lst 1 l.length l)=sW (dH n D):=by
   show _=AV.lst 1 _ _;rw [hSq.1];simp [tI,Function.comp_def]
  rw [e] at this;exact this
 have hsv:∃ sv',rU h0 h sv sv'/\(sv'=.zf\/∃ c,sv'=.lst 2 1 [I s,I c]):=by
  rcases hsp with ⟨rfl,_⟩ | ⟨id,c,rfl,rfl,_⟩
  ·exact ⟨.zf,.zf,.inl rfl⟩
  ·obtain ⟨k,hk⟩:=idx (.arr id [I s,I c]) (by simp);exact ⟨_,H.zae hk (cap:=none) (n:=1) (e:=2) trivial rfl (fun v hv=>by simp only [Zah,List.not_mem_nil,or_false] at hv;rcases hv with rfl | rfl <;> rfl),.inr ⟨c,rfl⟩⟩
 obtain ⟨sv',hs1,hs2⟩:=hsv;refine ⟨sv',.agg _ _ rfl (by rcases hs2 with rfl | ⟨c,rfl⟩ <;> rfl) fun i v v' q1 q2 => ?_,hs2⟩
 match i with
 | 0=>simp only [List.getElem?_cons_zero,Option.some.injEq] at q1 q2;subst q1 q2;exact .int _ _
 | 1=>simp only [List.getElem?_cons_succ,List.getElem?_cons_zero,Option.some.injEq] at q1 q2;subst q1 q2;exact .bool _
 | 2=>simp only [List.getElem?_cons_succ,List.getElem?_cons_zero,Option.some.injEq] at q1 q2;subst q1 q2;exact .int _ _
 | 3=>simp only [List.getElem?_cons_succ,List.getElem?_cons_zero,Option.some.injEq] at q1 q2;subst q1 q2;exact .int _ _
 | 4=>simp only [List.getElem?_cons_succ,List.getElem?_cons_zero,Option.some.injEq] at q1 q2;subst q1 q2;exact hs1
 | 5=>simp only [List.getElem?_cons_succ,List.getElem?_cons_zero,Option.some.injEq] at q1 q2;subst q1 q2;exact hlist
 | 6=>simp only [List.getElem?_cons_succ,List.getElem?_cons_zero,Option.some.injEq] at q1 q2;subst q1 q2;exact htab
 | i+7=>simp at q1
theorem AscL.len {n:Nat} {l:List Int} (h:AscL n l):l.length<=n:=by
 obtain ⟨t,ht⟩:=mG l ((List.range n).map fun (i:Nat)=>(i:Int)) (h.2.1.imp fun {x y} q e=>by omega) fun x hx=>by
  have:=h.2.2 x hx;exact List.mem_map.2 ⟨x.toNat,List.mem_range.2 (by omega),by omega⟩
 have:=ht.length_eq;simp at this;omega
noncomputable abbrev TA (lines:List (List Int)) (D:List (List Int)) (o:Option Pa):Ob:=.gro o 2 (zwx lines D).length (qcd (zwx lines D))
end Go.Ev
namespace Go.Ev
open Go Go.Proofs
variable {B:Nat}
set_option maxRecDepth 100000
theorem zyt (op:KW3->OP) (h:T Blk) (nx:Pa) (k:KW3):sGW (.bool false) false op h nx k=op k:=nr rfl
theorem zyu (op:KW3->OP) (h:T Blk) (nx:Pa) (k:KW3):sGW (.bool true) false op h nx k=k .u h nx:=nr rfl
theorem zyv {a b:Bool} {K:AV->OP}:zh .eql .bool (.bool a) (.bool b) K=K (.bool (a==b)):=by cases a <;> cases b <;> exact nr rfl
abbrev WdZ (m:Nat):AV:=.int .u64 (m:Int)
theorem zqc {z:Int} (h:0<=z/\z<18446744073709551616):IntKind.wrap .u64 z=z:=by
 have e:IntKind.wrap .u64 z=z%18446744073709551616:=by
  unfold IntKind.wrap;first | rfl | simp [IntKind.bits,IntKind.signed] | skip
 rw [e];omega
theorem zqd {m:Nat}:IntKind.wrap .u64 (m:Int)=((m%18446744073709551616:Nat):Int):=by
 have e:IntKind.wrap .u64 (m:Int)=(m:Int)%18446744073709551616:=by
  unfold IntKind.wrap;first | rfl | simp [IntKind.bits,IntKind.signed] | skip
 rw [e];omega
theorem zkk {a b:Nat} {K:AV->OP}:zh .add .int (WdZ a) (WdZ b) K=K (WdZ ((a+b)%18446744073709551616)):=by
 rw [qby,show (a:Int)+(b:Int)=((a+b:Nat):Int) by omega,zqd]
theorem zg5 {a b:Nat} {K:AV->OP}:zh .mul .int (WdZ a) (WdZ b) K=K (WdZ ((a*b)%18446744073709551616)):=by
 rw [qbz,show (a:Int)*(b:Int)=((a*b:Nat):Int) by simp,zqd]
theorem qck {m n:Nat} {k:IntKind} {K:AV->OP} (hn:n<=64):zh .shr .int (WdZ m) (.int k (n:Int)) K=K (WdZ (m / 2 ^ n)):=by
 have e:zh .shr .int (WdZ m) (.int k (n:Int)) K=(bif ilt (n:Int) 0 then Out.no 5 else xg ((m:Int).fdiv (2 ^ (min (n:Int).toNat IntKind.u64.bits))) fun z=>K (.int .u64 z)):=by cases k <;> rfl
 have h0:ilt (n:Int) 0=false:=rfl;rw [e,h0,cond_false,gU];have hb:IntKind.u64.bits=64:=rfl;rw [hb,Int.toNat_natCast,Nat.min_eq_left hn,Int.fdiv_eq_ediv_of_nonneg _ (Int.pow_nonneg (by omega))]
 congr 2
theorem zez {m:Nat} {K:AV->OP} (hm:m<18446744073709551616):zh .and .int (WdZ m) (.int .u64 4294967295) K=K (WdZ (m%4294967296)):=by
 have e:zh .and .int (WdZ m) (WdZ 4294967295) K=xg (IntKind.u64.wrap ((BitVec.ofInt 64 (m:Int) &&& BitVec.ofInt 64 ((4294967295:Nat):Int)).toNat:Int)) fun z=>K (.int .u64 z):=rfl;have h1:(BitVec.ofInt 64 (m:Int) &&& BitVec.ofInt 64 ((4294967295:Nat):Int)).toNat=m%4294967296:=by
  rw [BitVec.ofInt_natCast,BitVec.ofInt_natCast,BitVec.toNat_and,BitVec.toNat_ofNat,BitVec.toNat_ofNat,Zbs hm];exact Nat.and_two_pow_sub_one_eq_mod m 32
 have e2:zh .and .int (WdZ m) (.int .u64 4294967295) K=zh .and .int (WdZ m) (WdZ 4294967295) K:=rfl;rw [e2,e,gU,h1,zqc (by omega)]
theorem zkl {m:Nat} {K:AV->OP} (hm:m<=9223372036854775807):zh .and .int (I (m:Int)) (I 1) K=K (I ((m%2:Nat):Int)):=by
 have e:zh .and .int (I (m:Int)) (I 1) K=xg (IntKind.i64.wrap ((BitVec.ofInt 64 (m:Int) &&& BitVec.ofInt 64 1).toNat:Int)) fun z=>K (.int .i64 z):=rfl;have h1:(BitVec.ofInt 64 (m:Int) &&& BitVec.ofInt 64 1).toNat=m%2:=by
  rw [BitVec.ofInt_natCast,BitVec.toNat_and,BitVec.toNat_ofNat,Zbs (by omega)];show m &&& 1=m%2;exact Nat.and_one_is_mod m
 rw [e,gU,h1,kE (by omega)]
theorem zwy {m n:Nat} {k:IntKind} {K:AV->OP} (hn:n<=64):zh .shr .int (I (m:Int)) (.int k (n:Int)) K=K (I ((m / 2 ^ n:Nat):Int)):=by
 have e:zh .shr .int (I (m:Int)) (.int k (n:Int)) K=(bif ilt (n:Int) 0 then Out.no 5 else xg ((m:Int).fdiv (2 ^ (min (n:Int).toNat IntKind.i64.bits))) fun z=>K (.int .i64 z)):=by cases k <;> rfl
 have h0:ilt (n:Int) 0=false:=rfl;rw [e,h0,cond_false,gU];have hb:IntKind.i64.bits=64:=rfl;rw [hb,Int.toNat_natCast,Nat.min_eq_left hn,Int.fdiv_eq_ediv_of_nonneg _ (Int.pow_nonneg (by omega))]
 congr 2
theorem zqe {k:IntKind} {z:Int} {K:AV->OP} (h:0<=z/\z<18446744073709551616):vT .u64 (.int k z) K=K (.int .u64 z):=by
 show xg (kO .u64 z) (fun z=>K (.int .u64 z))=_;rw [gU,wF,zqc h]
theorem zqf {k:IntKind} {z:Int} {K:AV->OP} (h : -9223372036854775808<=z/\z<=9223372036854775807):vT .i64 (.int k z) K=K (I z):=by
 show xg (kO .i64 z) (fun z=>K (.int .i64 z))=_;rw [gU,wF,kE h]
theorem zwz {z:Int} {K:AV->OP} (h : -9223372036854775807<=z/\z<=9223372036854775807):sNeg (I z) K=K (I (-z)):=by
 show xg (kO .i64 (0-z)) (fun z=>K (.int .i64 z))=_;rw [gU,wF,kE (by omega),Int.zero_sub]
theorem dR {K:AV->OP}:zh .eql (.nil .sl) .zf .zf K=K (.bool true):=nr rfl
theorem zyw {a b:Nat} (ha:a<18446744073709551616) (hb:b<18446744073709551616):Pure Tryz.prog B 205 [WdZ a,WdZ b] (· = .tup [WdZ (a*b / 18446744073709551616),WdZ (a*b%18446744073709551616)]):=by
 intro p h nx K hK;refine zP zR yh 10 fun hf => ?_;rw [F205.go,zez ha];have sh:∀ (m:Nat) (K:AV->OP),zh .shr .int (WdZ m) (.int .u64 32) K=K (WdZ (m / 4294967296)):=fun m K=>qck (n:=32) (by omega);rw [sh,zez hb,sh];have ha0:a%4294967296<4294967296:=by omega
 have ha1:a / 4294967296<4294967296:=by omega
 have hb0:b%4294967296<4294967296:=by omega
 have hb1:b / 4294967296<4294967296:=by omega
 have ea:a=a / 4294967296*4294967296+a%4294967296:=by omega
 have eb:b=b / 4294967296*4294967296+b%4294967296:=by omega
 generalize a / 4294967296=a1 at *
 generalize a%4294967296=a0 at *
 generalize b / 4294967296=b1 at *
 generalize b%4294967296=b0 at *
 have m00:a0*b0<=4294967295*4294967295:=Zbg (by omega) (by omega);have m10:a1*b0<=4294967295*4294967295:=Zbg (by omega) (by omega);have m01:a0*b1<=4294967295*4294967295:=Zbg (by omega) (by omega);have m11:a1*b1<=4294967295*4294967295:=Zbg (by omega) (by omega);have hp:a*b=a1*b1*18446744073709551616+(a1*b0+a0*b1)*4294967296+a0*b0:=by
  rw [ea,eb];simp only [Zbc,Nat.mul_add];have e1:a1*4294967296*(b1*4294967296)=a1*b1*18446744073709551616:=by
   rw [Nat.mul_mul_mul_comm]
  have e2:a1*4294967296*b0=a1*b0*4294967296:=by rw [Nat.mul_right_comm]
  have e3:a0*(b1*4294967296)=a0*b1*4294967296:=by rw [Nat.mul_assoc]
  rw [e1,e2,e3];omega
 rw [zg5,zg5,Zbs (show a0*b0<18446744073709551616 by omega),Zbs (show a1*b0<18446744073709551616 by omega),sh,zkk,Zbs (show a1*b0+a0*b0 / 4294967296<18446744073709551616 by omega),zez (by omega),sh,zg5,Zbs (show a0*b1<18446744073709551616 by omega),zkk,zg5,Zbs (show a1*b1<18446744073709551616 by omega),zkk,sh,zkk,zg5];refine hK _ ?_ hf;rw [hp]
 generalize a0*b0=p00 at *
 generalize a1*b0=p10 at *
 generalize a0*b1=p01 at *
 generalize a1*b1=p11 at *
 congr 3
 congr 1
 omega
abbrev sm (x:Int):AV:=.agg [I x,.zf]
theorem ze0 {h0 h:T Blk} {nx p:Pa} {L:List Ob} {k:Nat} {x:Int} {l:List AV} {K:Kw Prop} (H:Hp h0 h nx L) (hk:L[k]? = some (.arr p l)) (hl:l.length=2)
  (hK:∀ h' nx' L',Hp h0 h' nx' L'->K (sm x) h' nx'=.ok True):(jO [(I 0),.zf] [(0,1,I x)] fun v11=>zY 2 (.ptr p 0) v11 h nx fun v12 h13 n14=>zS 2 (.ptr p 0) h13 fun v15=>K v15 h13 n14)=.ok True:=by
 rw [zke];refine H.qy (l2:=[I x,.zf]) (k:=k) hk hl rfl fun h4 H4 => ?_;rw [H4.zn (k:=k) (n:=2) (List.getElem?_set_self (List.getElem?_eq_some_iff.1 hk).1) rfl];exact hK _ _ _ H4
theorem zce {N:Pa->Prop} {O:AV->Prop} {hh:T Blk} {x:Int}:Frz True N O hh (sm x) (sm x):=zkc (by simp [rD])
theorem zqg {x:Int}:Pure Tryz.prog B 85 [I x] (· = sm x):=by
 refine yE fun h nx K H0 hK=>zP zR yh 100 fun hf => ?_;rw [F85.go];refine H0.alloc fun p h1 nx1 H1 => ?_;exact ze0 H1 (k:=0) rfl rfl fun _ _ _ H=>hK _ _ _ _ _ H zce rfl
theorem zyx {a b:Bool} {K:AV->OP}:zh .eql .bool (.bool a) (.bool b) K=K (.bool (a==b)):=zyv
theorem zuu {a b:Int} (ha : -9223372036854775808<=a/\a<=9223372036854775807) (hab : -9223372036854775808<=a+b/\a+b<=9223372036854775807):Pure Tryz.prog B 87 [sm a,sm b] (· = sm (a+b)):=by
 refine yE fun h nx K H0 hK=>zP zR yh 100 fun hf => ?_;rw [F87.go];refine H0.box (l:=[I a,.zf]) rfl fun pa h1 nx1 H1 => ?_;refine H1.box (l:=[I b,.zf]) rfl fun pb h2 nx2 H2 => ?_;refine H2.alloc fun p h3 nx3 H3 => ?_;simp only [sFx];rw [H3.load (k:=2) (i:=0+1) rfl rfl,dR];simp only [jN,sFx];rw [H3.load (k:=1) (i:=0+1) rfl rfl,dR,zZ,zH];rw [H3.load (k:=2) (i:=0) rfl rfl,H3.load (k:=1) (i:=0) rfl rfl,jk hab,H3.load (k:=2) (i:=0) rfl rfl];simp only [xk];rw [H3.load (k:=1) (i:=0) rfl rfl];simp only [xk];have e:(decide (a<a+b)==decide (0<b))=true:=by
  have:decide (a<a+b)=decide (0<b):=decide_eq_decide.2 (by omega);rw [this];simp
 rw [zyx,e,zH];exact ze0 H3 (k:=0) rfl rfl fun _ _ _ H=>hK _ _ _ _ _ H zce rfl
def cmpI (a b:Int):Int:=if a<b then -1 else if b<a then 1 else 0
theorem zuv {a b:Int}:Pure Tryz.prog B 186 [sm a,sm b] (· = I (cmpI a b)):=by
 refine yE fun h nx K H0 hK=>zP zR yh 100 fun hf => ?_;rw [sS.go];refine H0.box (l:=[I a,.zf]) rfl fun pa h1 nx1 H1 => ?_;refine H1.box (l:=[I b,.zf]) rfl fun pb h2 nx2 H2 => ?_;simp only [sFx];rw [H2.load (k:=1) (i:=0+1) rfl rfl,dR];simp only [jN,sFx];rw [H2.load (k:=0) (i:=0+1) rfl rfl,dR,zZ,zH];rw [H2.load (k:=1) (i:=0) rfl rfl,H2.load (k:=0) (i:=0) rfl rfl];simp only [jl];by_cases c1:a<b
 ·simp only [c1,decide_true,zH];exact hK _ _ _ _ _ H2 (zL rfl) (by rw [cmpI,if_pos c1])
 simp only [c1,decide_false,zJ];rw [H2.load (k:=1) (i:=0) rfl rfl,H2.load (k:=0) (i:=0) rfl rfl];simp only [xk];by_cases c2:b<a
 ·simp only [c2,decide_true,zH];exact hK _ _ _ _ _ H2 (zL rfl) (by rw [cmpI,if_neg c1,if_pos c2])
 ·simp only [c2,decide_false,zJ];exact hK _ _ _ _ _ H2 (zL rfl) (by rw [cmpI,if_neg c1,if_neg c2])
theorem zkm {a:Int} (ha : -9223372036854775807<=a/\a<=9223372036854775807):Pure Tryz.prog B 201 [I a] (· = WdZ a.natAbs):=by
 intro p h nx K hK;refine zP zR yh 10 fun hf => ?_;rw [aQ.go];simp only [jl];by_cases c:a<0
 ·simp only [c,decide_true,zH];rw [zwz ha,zqe (by omega)];exact hK _ (by congr 1;omega) hf
 ·simp only [c,decide_false,zJ];rw [zqe (by omega)];exact hK _ (by congr 1;omega) hf
theorem zyy {a b:Bool} {K:AV->OP}:zh .neq .bool (.bool a) (.bool b) K=K (.bool (a != b)):=by cases a <;> cases b <;> exact nr rfl
theorem zkn {a b:Int} (ha : -9223372036854775807<=a/\a<=9223372036854775807) (hb : -9223372036854775807<=b/\b<=9223372036854775807) (hab:(a*b).natAbs<=9223372036854775807):Pure Tryz.prog B 151 [sm a,sm b] (· = sm (a*b)):=by
 refine yE fun h nx K H0 hK=>zP zR yh 100 fun hf => ?_;rw [fG.go];refine H0.box (l:=[I a,.zf]) rfl fun pa h1 nx1 H1 => ?_;refine H1.box (l:=[I b,.zf]) rfl fun pb h2 nx2 H2 => ?_;refine H2.alloc fun p h3 nx3 H3 => ?_;simp only [sFx];rw [H3.load (k:=2) (i:=0+1) rfl rfl,dR];simp only [jN,sFx];rw [H3.load (k:=1) (i:=0+1) rfl rfl,dR,zZ,zH];rw [H3.load (k:=2) (i:=0) rfl rfl,H3.load (k:=1) (i:=0) rfl rfl];refine zkm ha _ _ _ _ ?_;rintro _ rfl _;rw [H3.load (k:=1) (i:=0) rfl rfl];simp only [zI];refine zkm hb _ _ _ _ ?_;rintro _ rfl _;refine zyw (by omega) (by omega) _ _ _ _ ?_;rintro _ rfl _;rw [<- Int.natAbs_mul];simp only [jK,jL];rw [Nat.div_eq_of_lt (by omega),Zbs (by omega)];simp only [rG,Int.natCast_zero,decide_true,jN,sO,show ((a*b).natAbs:Int)<=9223372036854775807 by omega,zZ,zH];rw [H3.load (k:=2) (i:=0) rfl rfl];simp only [jl];rw [H3.load (k:=1) (i:=0) rfl rfl];simp only [jl];rw [zyy];by_cases c:(decide (a<0) != decide (b<0))=true
 ·rw [c,zH,zqf (by omega),zwz (by omega)];have e : -((a*b).natAbs:Int)=a*b:=by
   have:a*b<=0:=by
    by_cases c1:a<0 <;> by_cases c2:b<0 <;> simp [c1,c2] at c
    ·exact Int.mul_nonpos_of_nonpos_of_nonneg (by omega) (by omega)
    ·exact Int.mul_nonpos_of_nonneg_of_nonpos (by omega) (by omega)
   omega
  rw [e];exact ze0 H3 (k:=0) rfl rfl fun _ _ _ H=>hK _ _ _ _ _ H zce rfl
 ·have c':(decide (a<0) != decide (b<0))=false:=by simpa using c
  rw [c',zJ,fG.k1,zqf (by omega)];have e:((a*b).natAbs:Int)=a*b:=by
   have:0<=a*b:=by
    by_cases c1:a<0 <;> by_cases c2:b<0 <;> simp [c1,c2] at c'
    ·exact Int.mul_nonneg_of_nonpos_of_nonpos (by omega) (by omega)
    ·exact Int.mul_nonneg (by omega) (by omega)
   omega
  rw [e];exact ze0 H3 (k:=0) rfl rfl fun _ _ _ H=>hK _ _ _ _ _ H zce rfl
theorem qcl {a:Int} (ha : -3000000000<=a/\a<=3000000000):Pure Tryz.prog B 185 [sm a,I 2] (· = sm (a*a)):=by
 have hsq:0<=a*a/\(a*a).natAbs<=9000000000000000000:=by
  refine ⟨?_,?_⟩
  ·rcases Int.le_total 0 a with q | q
   ·exact Int.mul_nonneg q q
   ·exact Int.mul_nonneg_of_nonpos_of_nonpos q q
  ·rw [Int.natAbs_mul];exact Zbg (show a.natAbs<=3000000000 by omega) (show a.natAbs<=3000000000 by omega)
 refine yE fun h nx K H0 hK=>zP zR yh 100 fun hf => ?_;rw [je.go];refine H0.box (l:=[I a,.zf]) rfl fun pa h1 nx1 H1 => ?_;refine H1.alloc fun p h2 nx2 H2 => ?_;refine zqg _ _ _ _ ?_;rintro _ rfl _;refine H2.alloc fun q h3 nx3 H3 => ?_;refine H3.qy (l2:=[I 1,.zf]) (k:=0) rfl rfl rfl fun h4 H4 => ?_;have an2:∀ K:AV->OP,zh .and .int (I 2) (I 1) K=K (I 0):=fun K=>zkl (m:=2) (by omega);have an1:∀ K:AV->OP,zh .and .int (I 1) (I 1) K=K (I 1):=fun K=>zkl (m:=1) (by omega);have sh2:∀ K:AV->OP,zh .shr .int (I 2) (.int .u64 1) K=K (I 1):=fun K=>zwy (m:=2) (n:=1) (by omega);have sh1:∀ K:AV->OP,zh .shr .int (I 1) (.int .u64 1) K=K (I 0):=fun K=>zwy (m:=1) (n:=1) (by omega);refine je.L1 (fun m x1 h' nx'=>(m=2/\x1=I 2/\h'=h4/\nx'=nx3)\/(m=1/\x1=I 1/\Hp h h' nx' [.arr q [I 1,.zf],.arr p [I 0,.zf],.arr pa [I (a*a),.zf]])\/(m=0/\x1=I 0/\Hp h h' nx' [.arr q [I (a*a),.zf],.arr p [I 0,.zf],.arr pa [I (a*a),.zf]])) (m:=2) (by omega) (.inl ⟨rfl,rfl,rfl,rfl⟩) ?_;rintro m z1 z5 z6 z7 h5 nx5 R (⟨rfl,rfl,rfl,rfl⟩ | ⟨rfl,rfl,H5⟩ | ⟨rfl,rfl,H5⟩) hR
 ·simp only [xk,show (0:Int)<2 by omega,decide_true,zH];rw [an2];simp only [rG,show ¬ (0:Int)=1 by omega,decide_false,zJ];rw [je.k7];simp only [xk,show (1:Int)<2 by omega,decide_true,zH];rw [H4.zn (k:=2) (n:=2) rfl rfl,H4.zn (k:=2) (n:=2) rfl rfl];refine zkn (a:=a) (b:=a) (by omega) (by omega) (by omega) _ _ _ _ ?_;rintro _ rfl _;refine H4.qy (l2:=[I (a*a),.zf]) (k:=2) rfl rfl rfl fun h6 H6 => ?_;rw [je.k8,sh2];exact hR _ _ _ _ _ _ _ (by omega) (.inr (.inl ⟨rfl,rfl,H6⟩))
 ·simp only [xk,show (0:Int)<1 by omega,decide_true,zH];rw [an1];simp only [rG,decide_true,zH];rw [H5.zn (k:=0) (n:=2) rfl rfl,H5.zn (k:=2) (n:=2) rfl rfl];refine zkn (a:=1) (b:=a*a) (by omega) (by omega) (by rw [Int.one_mul];omega) _ _ _ _ ?_;rintro _ rfl _;rw [Int.one_mul];refine H5.qy (l2:=[I (a*a),.zf]) (k:=0) rfl rfl rfl fun h6 H6 => ?_;rw [je.k7];simp only [xk,show ¬ (1:Int)<1 by omega,decide_false,zJ];rw [je.k8,sh1];exact hR _ _ _ _ _ _ _ (by omega) (.inr (.inr ⟨rfl,rfl,H6⟩))
 ·simp only [xk,show ¬ (0:Int)<0 by omega,decide_false,zJ];rw [je.k9,H5.zn (k:=0) (n:=2) rfl rfl];refine H5.qy (l2:=[I (a*a),.zf]) (k:=1) rfl rfl rfl fun h6 H6 => ?_;rw [H6.zn (k:=1) (n:=2) rfl rfl];exact hK _ _ _ _ _ H6 zce rfl
abbrev aP (x:Int):Bool:=decide (x < -999999999)||decide (999999999<x)
theorem zi3 {f:List Int} (hl:f.length<=100000):Pure Tryz.prog B 53 [encI f] (· = I (if f.any aP then 3 else 0)):=by
 intro p h nx K hK;refine zP zR yh 10000000 fun hf => ?_;rw [F53.go];refine F53.L1 (fun m z2 h' nx'=>∃ i:Nat,z2=I i/\f.length-i=m/\i<=f.length/\h'=h/\nx'=nx/\(f.take i).any aP=false) (m:=f.length) (by omega) ⟨0,rfl,rfl,by omega,rfl,rfl,rfl⟩ ?_;rintro m z1 z2 z3 z4 h nx R ⟨i,rfl,rfl,hi,rfl,rfl,htk⟩ hR;simp only [zO,jl];by_cases hlt:i<f.length
 case neg =>
  simp only [show ¬ (i:Int)<(f.length:Int) by omega,decide_false,zJ];rw [F53.k8];rw [Zal (by omega)] at htk;exact hK _ (by rw [htk];rfl) hf
 simp only [show (i:Int)<(f.length:Int) by omega,decide_true,zH];have hx:f[i]? = some f[i]:=List.getElem?_eq_getElem hlt;have hm:=Zak hlt;have hs:(f.take (i+1)).any aP=((f.take i).any aP||aP f[i]):=by
  rw [Zan,hx,List.any_append];simp
 rw [xu rfl hlt,ldL (fD hx)];simp only [jl];by_cases c1:f[i] < -999999999
 ·simp only [c1,decide_true,yY,zZ,zH];exact hK _ (by rw [List.any_eq_true.2 ⟨_,hm,by simp [c1]⟩];rfl) hf
 simp only [c1,decide_false,yQ];rw [xu rfl hlt,ldL (fD hx)];simp only [xk,zW];by_cases c2:999999999<f[i]
 ·simp only [c2,decide_true,zH];exact hK _ (by rw [List.any_eq_true.2 ⟨_,hm,by simp [c2]⟩];rfl) hf
 simp only [c2,decide_false,zJ];rw [jk (by omega)];exact hR _ _ _ _ _ _ _ (by omega) ⟨i+1,rfl,rfl,by omega,rfl,rfl,by rw [hs,htk];simp [c1,c2]⟩
theorem zi4 {f:List Int} (hl:f.length<=100000):Pure Tryz.prog B 109 [encI f] (· = I (if f.any aP then 3 else 0)):=by
 intro p h nx K hK;refine zP zR yh 1000 fun hf => ?_;rw [F109.go];refine zj8 (by omega) _ _ _ _ ?_;rintro _ rfl _;exact hK _ rfl hf
def yL (l f:List Int):Int:=l.foldl (fun s c=>s+f.getD c.toNat 0) 0
structure zal (l f:List Int):Prop where
 len:l.length<=1000
 rng:∀ c∈l,0<=c/\c<(f.length:Int)
 bd:∀ x∈f, -1000000000<=x/\x<=1000000000
theorem zal.get {l f:List Int} (h:zal l f) {c:Int} (hc:c∈l):f[c.toNat]? = some (f.getD c.toNat 0) /\ -1000000000<=f.getD c.toNat 0/\f.getD c.toNat 0<=1000000000:=by
 have:=h.rng c hc;have hx:f[c.toNat]? = some (f.getD c.toNat 0):=by rw [Zaa,List.getElem?_eq_getElem (by omega)];rfl
 exact ⟨hx,h.bd _ (Zab hx)⟩
theorem pT {l f:List Int} {i:Nat} (h:i<l.length):yL (l.take (i+1)) f=yL (l.take i) f+f.getD l[i].toNat 0:=by
 rw [yL,Zan,List.getElem?_eq_getElem h,List.foldl_append];rfl
theorem zg6 {l f:List Int} (h:zal l f):∀ i,i<=l.length -> -(1000000000*(i:Int))<=yL (l.take i) f/\yL (l.take i) f<=1000000000*(i:Int)
 | 0,_=>by simp [yL]
 | i+1,hi=>by
  have ih:=zg6 h i (by omega);have:=(h.get (Zak (show i<l.length by omega))).2;rw [pT (by omega)];omega
theorem zyz {l f:List Int} (h0:zal l f):Pure Tryz.prog B 219 [encI l,encI f] (· = I (yL l f)):=by
 intro p h nx K hK;have hl:=h0.len;refine zP zR yh 10000 fun hf => ?_;rw [uy.go];simp only [zO];refine uy.L1 (fun m x3 x7 h' nx'=>∃ i:Nat,x7=I i/\x3=I (yL (l.take i) f)/\l.length-i=m/\i<=l.length/\h'=h/\nx'=nx) (m:=l.length) (by omega) ⟨0,rfl,rfl,rfl,by omega,rfl,rfl⟩ ?_;rintro m z3 z4 z7 z8 h nx R ⟨i,rfl,rfl,rfl,hi,rfl,rfl⟩ hR;simp only [jl];by_cases hlt:i<l.length
 case neg =>
  simp only [show ¬ (i:Int)<(l.length:Int) by omega,decide_false,zJ];rw [uy.k8,Zal (by omega)];exact hK _ rfl hf
 simp only [show (i:Int)<(l.length:Int) by omega,decide_true,zH];have hx:l[i]? = some l[i]:=List.getElem?_eq_getElem hlt;have hr:=h0.rng _ (Zak hlt);obtain ⟨hg,hb⟩:=h0.get (Zak hlt);have hbd:=zg6 h0 i (by omega);rw [xu rfl hlt,ldL (fD hx),xu (i:=l[i].toNat) (by omega) (by omega),ldL (fD hg),jk (by omega),jk (by omega)];exact hR _ _ _ _ _ _ _ (by omega) ⟨i+1,rfl,by rw [pT hlt],rfl,by omega,rfl,rfl⟩
def xP (lines:List (List Int)) (f:List Int):List Int:=lines.map fun l=>yL l f
theorem zcf {lines:List (List Int)} {f:List Int} {i:Nat} (h:i<lines.length):xP (lines.take (i+1)) f=xP (lines.take i) f++[yL lines[i] f]:=by
 rw [xP,Zan,List.getElem?_eq_getElem h,Zbn];rfl
theorem zdn (lines:List (List Int)) (f:List Int):(xP lines f).length=lines.length:=by simp [xP]
theorem zuw {cells:Int} {lines:List (List Int)} {f:List Int} (hn:lines.length<=1000) (h0:∀ l∈lines,zal l f):Pure Tryz.prog B 164 [.agg [I cells,sW lines],encI f] (· = encI (xP lines f)):=by
 refine yE fun h nx K H0 hK=>zP zR yh 10000 fun hf => ?_;rw [uw.go];refine H0.box (l:=[I cells,sW lines]) rfl fun bx h1 nx1 H1 => ?_;rw [sFx,H1.load (k:=0) (i:=0+1) rfl rfl];simp only [zO];refine uw.L1 (fun m x4 x8 h' nx'=>∃ (i:Nat) (o:Option Pa),x8=I i/\x4=qx o 1 (xP (lines.take i) f).length/\lines.length-i=m/\i<=lines.length/\Hp h h' nx' [.gro o 1 (xP (lines.take i) f).length ((xP (lines.take i) f).map I),.arr bx [I cells,sW lines]]) (m:=lines.length) (by omega) ⟨0,none,rfl,rfl,rfl,by omega,H1.aX 1⟩ ?_;rintro m z4 z5 z8 z9 h2 nx2 R ⟨i,o,rfl,rfl,rfl,hi,H2⟩ hR;simp only [jl];by_cases hlt:i<lines.length
 case neg =>
  simp only [show ¬ (i:Int)<(lines.length:Int) by omega,decide_false,zJ];rw [Zal (by omega)] at H2 ⊢;rw [uw.k8];exact hK _ _ _ _ _ H2 (H2.zaf (k:=0) rfl fun v hv=>by obtain ⟨x,_,rfl⟩:=List.mem_map.1 hv;rfl) rfl
 simp only [show (i:Int)<(lines.length:Int) by omega,decide_true,zH];have hx:lines[i]? = some lines[i]:=List.getElem?_eq_getElem hlt;have hlen:(xP (lines.take i) f).length=i:=by rw [zdn,Zax];omega
 rw [xu rfl hlt,ldL (getT hx)];refine zyz (h0 _ (Zak hlt)) _ _ _ _ ?_;rintro _ rfl _;refine H2.yj (l:=[I (yL lines[i] f)]) rfl fun tb h4 nx4 H4 => ?_;refine H4.appN (k:=1) (o:=o) (c:=1) (new:=[I (yL lines[i] f)]) rfl (yx.rd (l:=[I (yL lines[i] f)]) (n:=1) (H4.own _ (Zam ..)) rfl) rfl rfl (by decide) (by decide) (by omega) fun o' h5 nx5 _ H5 => ?_;rw [jk (by omega)];refine hR _ _ _ _ _ _ _ (by omega) ⟨i+1,o',rfl,by rw [zcf hlt,Zat];rfl,rfl,by omega,?_⟩;rw [zcf hlt,Zat,Zbn];exact H5.drop
def difA (a:Int):List Int->Nat->Int
 | [],_ => -1
 | x::t,i=>if x=a then difA a t (i+1) else (i:Int)
def zdo (S:List Int):Int:=difA (S.getD 0 0) S 0
theorem zmg {a:Int} {S:List Int} {i k:Nat} (h:i<S.length):difA a (S.drop i) k=if S[i]=a then difA a (S.drop (i+1)) (k+1) else (k:Int):=by
 rw [Zar h];rfl
theorem zqh {h0 h:T Blk} {nx p bx:Pa} {L:List Ob} {k:Nat} {S:List Int} {K:Kw Prop} {v:AV} (hl:S.length<=100000) (H:Hp h0 h nx L) (hk:L[k]? = some (.arr bx [encI S]))
  (hK:K (I (zdo S)) h nx=.ok True):(CS Tryz.prog B).fn 127 p [encI S,.fn 165 (.of 165) [.ptr bx 0]] h nx K=.ok True:=by
 refine jB (p:=.of 127) (K:=K) (zP zR yh 1000000 fun hf => ?_) fun _ _ _ _ q=>q;rw [ug.go];simp only [zO];refine ug.L1 (fun m z5 h' nx'=>∃ i:Nat,z5=I i/\S.length-i=m/\i<=S.length/\h'=h/\nx'=nx/\zdo S=difA (S.getD 0 0) (S.drop i) i) (m:=S.length) (by omega) ⟨0,rfl,rfl,by omega,rfl,rfl,rfl⟩ ?_;rintro m z2 z3 z5 z6 z7 h nx R ⟨i,rfl,rfl,hi,rfl,rfl,he⟩ hR;simp only [jl];by_cases hlt:i<S.length
 case neg =>
  simp only [show ¬ (i:Int)<(S.length:Int) by omega,decide_false,zJ];rw [ug.k8];rw [he,Zbk (by omega)] at hK;exact hK
 simp only [show (i:Int)<(S.length:Int) by omega,decide_true,zH];have hx:S[i]? = some S[i]:=List.getElem?_eq_getElem hlt;have hy:S[0]? = some (S.getD 0 0):=by rw [Zaa,List.getElem?_eq_getElem (by omega)];rfl
 rw [zmg hlt] at he;rw [xu rfl hlt,ldL (fD hx),uN];refine jB (p:=.of 165) (zP zR yh 9 fun _ => ?_) fun _ _ _ _ q=>q;show zQ tbl 9 _ (Pa.of 165) [I S[i],.ptr bx 0] _ _ _=_;rw [F165.go,H.load (k:=k) (i:=0) hk rfl,xu (i:=0) (show (0:Int)=((0:Nat):Int) from rfl) (by omega),ldL (fD hy)];simp only [qm];by_cases c:S[i]=S.getD 0 0
 ·rw [if_pos c] at he;simp only [c,decide_true,Zaf,zJ];rw [jk (by omega)];exact hR _ _ _ _ _ _ _ _ (by omega) ⟨i+1,rfl,rfl,by omega,rfl,rfl,he⟩
 ·rw [if_neg c] at he;simp only [c,decide_false,Zag,zH];rw [he] at hK;exact hK
theorem zmh {cells:Int} {lines:List (List Int)} {f:List Int} (hn:lines.length<=1000) (h0:∀ l∈lines,zal l f):Pure Tryz.prog B 98 [.agg [I cells,sW lines],encI f] (· = I (zdo (xP lines f))):=by
 refine yE fun h nx K H0 hK=>zP zR yh 1000 fun hf => ?_;rw [F98.go];refine H0.box (l:=[I cells,sW lines]) rfl fun bx h1 nx1 H1 => ?_;rw [H1.zn (k:=0) (n:=2) rfl rfl];refine zuw hn h0 _ _ _ _ ?_;rintro _ rfl _;refine H1.alloc fun b8 h2 nx2 H2 => ?_;refine H2.store (k:=0) rfl (by simp) rfl fun h3 H3 => ?_;rw [H3.load (k:=0) (i:=0) rfl rfl];have hlen:=zdn lines f;refine zqh (v:=.zf) (by omega) H3 (k:=0) rfl ?_;exact hK _ _ _ _ _ H3 (zL rfl) rfl
section
variable {cells:Int} {lines:List (List Int)} {f:List Int}
end
end Go.Ev
namespace Go.Ev
open Go Go.Proofs
def ze1 (J:Nat->List AV->T Blk->Option (AV×T Blk)) (f:Nat) (args:List AV) (res:AV):Bool:=match (wW (fun _=>false) J tbl 1000 60).fn f (.of f) args .e .z endK with
 | .ok v=>oO v res
 | .no _=>false
theorem cE {J:Nat->List AV->T Blk->Option (AV×T Blk)} {f:Nat} {args:List AV} {res:AV} {B:Nat} (hJ:∀ B,JOk Tryz.prog B J) (ha:nns args=true) (h:ze1 J f args res=true):Pure Tryz.prog B f args (· = res):=by
 unfold ze1 at h;cases hq:(wW (fun _=>false) J tbl 1000 60).fn f (.of f) args .e .z endK with
 | no n=>rw [hq] at h;cases h
 | ok v =>
  rw [hq] at h;have e:=xF h;subst e;exact zem zR mixed hJ ha hq
theorem zqi (s:List UInt8) (a:Int):nns [.str s,I a]=true:=rfl
def qcm (r c:Nat):List (List Int):=(List.range r).map fun i=>(List.range c).map fun k=>((c*i+k:Nat):Int)
def qcn (r c:Nat):List (List Int):=(List.range c).map fun k=>(List.range r).map fun i=>((c*i+k:Nat):Int)
def dedL (ls:List (List Int)):List (List Int):=ls.foldl (fun out l=>if out.contains l then out else out++[l]) []
def zko (n:Nat) (d:Int) (k:Nat):List Int:=(List.range n).map fun (r:Nat)=>(n:Int)*(r:Int)+(((k:Int)+d*(r:Int))%(n:Int))
def sqL (k:Nat) (n:Nat):List (List Int) :=
 dedL (qcm n n++qcn n n++(if k=0 then [] else [zko n 1 0,zko n (-1) (n-1)])++(if k=2 then (List.range n).map (zko n 1)++(List.range n).map (zko n (-1)) else []))
def gE (k:Nat):List UInt8:=if k=0 then [115,101,109,105,109,97,103,105,99] else if k=1 then [109,97,103,105,99] else [112,97,110,100,105,97,103,111,110,97,108]
def sqVZ (k n:Nat):AV:=.tup [.agg [I ((n*n:Nat):Int),sW (sqL k n)],I 0]
def ok65 (f:Nat) (k:Nat):Bool:=(List.range 6).all fun n=>ze1 zkd f [.str (gE k),I ((n+1:Nat):Int)] (sqVZ k (n+1))
theorem bN {f k:Nat} (h:ok65 f k=true) {n:Nat} {B:Nat} (hn:1<=n/\n<=6):Pure Tryz.prog B f [.str (gE k),I (n:Int)] (· = sqVZ k n):=by
 have h2:=List.all_eq_true.1 h (n-1) (List.mem_range.2 (by omega));rw [show n-1+1=n by omega] at h2;exact cE (fun _=>zgn) (zqi _ _) h2
end Go.Ev
namespace Go.Ev
open Go Go.Proofs
set_option maxRecDepth 100000
def zkp (k:Nat) (l:List Nat):Bool:=l.all fun n=>ze1 zkd 71 [.str (gE k),I (n:Int)] (.agg [I ((n*n:Nat):Int),sW (sqL k n)])
theorem pR {k:Nat} {l:List Nat} (h:zkp k l=true) {n:Nat} {B:Nat} (hn:n∈l):Pure Tryz.prog B 71 [.str (gE k),I (n:Int)] (· = .agg [I ((n*n:Nat):Int),sW (sqL k n)]) :=
 cE (fun _=>zgn) (zqi _ _) (List.all_eq_true.1 h n hn)
theorem zy0:zkp 0 [1,2,3,4,5,6]=true:=by kernel_rfl
theorem zy1:zkp 1 [1,2,3,4,5,6]=true:=by kernel_rfl
theorem zy2:zkp 2 [1,2,3,4,5,6]=true:=by kernel_rfl
end Go.Ev
namespace Go.Ev
open Go Go.Proofs
variable {B:Nat}
set_option maxRecDepth 100000
def SqOk (n:Nat):Prop:=(1<=n/\n<=8)/\∀ k,k<3->∀ B,Pure Tryz.prog B 71 [.str (gE k),I (n:Int)] (· = .agg [I ((n*n:Nat):Int),sW (sqL k n)])
theorem zwn {n:Nat} (h1:1<=n) (h2:n<=6):SqOk n:=by
 refine ⟨by omega,fun k hk B => ?_⟩;have hm:n∈[1,2,3,4,5,6]:=by simp;omega
 match k,hk with
 | 0,_=>exact pR zy0 hm
 | 1,_=>exact pR zy1 hm
 | 2,_=>exact pR zy2 hm
def zqj (n:Nat) (l:List Int):Bool:=decide (l.length<=8)&&l.all fun c=>decide (0<=c)&&decide (c<((n*n:Nat):Int))
theorem zqk:((List.range 3).all fun k=>(List.range 9).all fun n=>decide ((sqL k n).length<=100)&&(sqL k n).all (zqj n))=true:=by decide +kernel
theorem zql {k n:Nat} (hk:k<3) (hn:n<=8):(sqL k n).length<=100/\∀ l∈sqL k n,l.length<=8/\∀ c∈l,0<=c/\c<((n*n:Nat):Int):=by
 have h:=List.all_eq_true.1 (List.all_eq_true.1 zqk k (List.mem_range.2 hk)) n (List.mem_range.2 (by omega));simp only [Zad,decide_eq_true_eq,Zae,zqj] at h;exact h
structure pq (n:Nat) (f:List Int):Prop where
 len:f.length=n*n
 bd:∀ x∈f, -1000000000<=x/\x<=1000000000
theorem pq.ln {n k:Nat} {f:List Int} (hf:pq n f) (hk:k<3) (hn:n<=8):∀ l∈sqL k n,zal l f:=fun l hl=>by
 obtain ⟨h1,h2⟩:=(zql hk hn).2 l hl;exact ⟨by omega,fun c hc=>by rw [hf.len];exact h2 c hc,hf.bd⟩
def mg (k n:Nat) (f:List Int):Bool:=decide (zdo (xP (sqL k n) f)<0)
theorem zcg {n k:Nat} {f:List Int} (hs:SqOk n) (hk:k<3) (hf:pq n f):Pure Tryz.prog B 117 [.agg [I (n:Int),encI f],.str (gE k)] (· = .bool (mg k n f)):=by
 refine yE fun h nx K H0 hK=>zP zR yh 100 fun hf' => ?_;rw [F117.go];refine H0.box (l:=[I (n:Int),encI f]) rfl fun bx h1 nx1 H1 => ?_;simp only [sFx];rw [H1.load (k:=0) (i:=0) rfl rfl,H1.load (k:=0) (i:=0+1) rfl rfl];refine hs.2 k hk B _ _ _ _ ?_;rintro _ rfl _;rw [H1.load (k:=0) (i:=0+1) rfl rfl];simp only [zI];refine zmh (by have:=(zql hk hs.1.2).1;omega) (hf.ln hk hs.1.2) _ _ _ _ ?_;rintro _ rfl _;simp only [jl];exact hK _ _ _ _ _ H1 (zL rfl) rfl
theorem ze2 {h:T Blk} {nx p q:Pa} {g:Nat} {cap:List AV} {n:Nat} {v:Nat->Int} {K:Kw Prop} (hn:n<=1000000) (h0:n=0\/0<n) (hcl:∀ i,i<n->∀ K:Kw Prop,K (I (v i)) h nx=.ok True->(CS Tryz.prog B).fn g q (I (i:Int)::cap) h nx K=.ok True)
  (hK:K (.bool (decide (∀ i,i<n->v i=v 0))) h nx=.ok True):(CS Tryz.prog B).fn 179 p [I (n:Int),.fn g q cap] h nx K=.ok True:=by
 refine jB (p:=.of 179) (K:=K) (zP zR yh 10000000 fun hf => ?_) fun _ _ _ _ q=>q;rw [uz.go];refine uz.L1 (fun m x5 h' nx'=>∃ i:Nat,x5=I i/\n-i=m/\i<=n/\h'=h/\nx'=nx/\∀ j,j<i->v j=v 0) (m:=n) (by omega) ⟨0,rfl,rfl,by omega,rfl,rfl,fun j hj=>by omega⟩ ?_;rintro m z2 z3 z5 z6 z7 h nx R ⟨i,rfl,rfl,hi,rfl,rfl,hv⟩ hR;simp only [jl];by_cases hlt:i<n
 case neg =>
  simp only [show ¬ (i:Int)<(n:Int) by omega,decide_false,zJ];rw [uz.k8];rw [decide_eq_true (fun j hj=>hv j (by omega))] at hK;exact hK
 simp only [show (i:Int)<(n:Int) by omega,decide_true,zH];rw [uN];refine hcl i hlt _ ?_;rw [uN];refine hcl 0 (by omega) _ ?_;simp only [qm];by_cases c:v i=v 0
 ·simp only [c,decide_true,Zaf,zJ];rw [jk (by omega)];refine hR _ _ _ _ _ _ _ _ (by omega) ⟨i+1,rfl,rfl,by omega,rfl,rfl,fun j hj => ?_⟩;by_cases e:j=i
  ·rw [e,c]
  ·exact hv j (by omega)
 ·simp only [c,decide_false,Zag,zH];rw [decide_eq_false (fun q=>c (q i hlt))] at hK;exact hK
def asc (n:Nat) (f:List Int):Bool:=mg 1 n f&&decide (∀ i,i<f.length->f.getD i 0+f.getD (f.length-1-i) 0=f.getD 0 0+f.getD (f.length-1-0) 0)
theorem cP {f:List Int} {i:Nat} (h:i<f.length):f[i]? = some (f.getD i 0):=by
 rw [Zaa,List.getElem?_eq_getElem h];rfl
theorem pq.get {n:Nat} {f:List Int} (hf:pq n f) {i:Nat} (h:i<f.length) : -1000000000<=f.getD i 0/\f.getD i 0<=1000000000:=hf.bd _ (Zab (cP h))
theorem zch (op:KW3->OP) (h:T Blk) (nx:Pa) (k:KW3):sGW (.bool false) true op h nx k=k .u h nx:=nr rfl
theorem zci (op:KW3->OP) (h:T Blk) (nx:Pa) (k:KW3):sGW (.bool true) true op h nx k=op k:=nr rfl
theorem zy3 {n:Nat} {f:List Int} (hs:SqOk n) (hf:pq n f):Pure Tryz.prog B 120 [.agg [I (n:Int),encI f]] (· = .bool (asc n f)):=by
 refine yE fun h nx K H0 hK=>zP zR yh 100 fun hf' => ?_;have hlen:f.length<=64:=by rw [hf.len];exact Zbg hs.1.2 hs.1.2
 rw [F120.go];refine H0.box (l:=[I (n:Int),encI f]) rfl fun bx h1 nx1 H1 => ?_;rw [H1.zn (k:=0) (n:=2) rfl rfl];refine zcg (k:=1) hs (by omega) hf _ _ _ _ ?_;rintro _ rfl _;cases c:mg 1 n f with
 | false =>
  simp only [jU,zW,zch];exact hK _ _ _ _ _ H1 (zL rfl) (by rw [asc,c];rfl)
 | true =>
  simp only [jN,zci,sFx];rw [H1.load (k:=0) (i:=0+1) rfl rfl];simp only [zO];refine ze2 (v:=fun i=>f.getD i 0+f.getD (f.length-1-i) 0) (by omega) (by omega) (fun i hi K hK => ?_) ?_
  ·refine jB (p:=.of 180) (zP zR yh 9 fun _ => ?_) fun _ _ _ _ q=>q;show zQ tbl 9 _ (Pa.of 180) [I (i:Int),.ptr bx 0] _ _ _=_;rw [F180.go];simp only [sFx];have b1:=hf.get hi;have b2:=hf.get (i:=f.length-1-i) (by omega);rw [H1.load (k:=0) (i:=0+1) rfl rfl,xu rfl hi,ldL (fD (cP hi)),H1.load (k:=0) (i:=0+1) rfl rfl,H1.load (k:=0) (i:=0+1) rfl rfl];simp only [zO];rw [sD (by omega),sD (by omega),xu (i:=f.length-1-i) (by omega) (by omega),ldL (fD (cP (by omega))),jk (by omega)];exact hK
  ·simp only [zZ];exact hK _ _ _ _ _ H1 (zL rfl) (by rw [asc,c,Bool.true_and])
theorem mI {a b:Nat} {K:AV->OP} (_ha:a<=9223372036854775807) (hb:0<b):zh .rem .int (I (a:Int)) (I (b:Int)) K=K (I ((a%b:Nat):Int)):=by
 have e:zh .rem .int (I (a:Int)) (I (b:Int)) K=(bif ieq (b:Int) 0 then Out.no 5 else xg ((a:Int).tmod b) fun z=>K (.int .i64 z)):=rfl;have h0:ieq (b:Int) 0=false:=by rw [vK,beq_eq_false_iff_ne];omega
 rw [e,h0,cond_false,gU];rfl
theorem ze3 {a b:Nat} {K:AV->OP} (ha:a<=9223372036854775807) (hb:0<b):zh .quo .int (I (a:Int)) (I (b:Int)) K=K (I ((a / b:Nat):Int)):=by
 rw [qcf (by omega) (by omega) hb,Int.tdiv_eq_ediv_of_nonneg (by omega)];simp
def atN (n:Nat) (f:List Int) (r c:Nat):Int:=f.getD (r%n*n+c%n) 0
theorem at_in {n r c:Nat} (hn:0<n):r%n*n+c%n<n*n:=by
 have h1:=Nat.mod_lt r hn;have h2:=Nat.mod_lt c hn;have:r%n*n<=(n-1)*n:=Zba n (by omega);have e:(n-1)*n+n=n*n:=by
  have:(n-1+1)*n=n*n:=by rw [Nat.sub_add_cancel hn]
  rw [<- this,Zbc,Zcf]
 omega
def blkN (n:Nat) (f:List Int) (i:Nat):Int:=atN n f (i / n) (i%n)+atN n f (i / n) (i%n+1)+atN n f (i / n+1) (i%n)+atN n f (i / n+1) (i%n+1)
def halN (n:Nat) (f:List Int) (i:Nat):Int:=atN n f (i / n) (i%n)+atN n f (i / n+n / 2) (i%n+n / 2)
def mper (n:Nat) (f:List Int):Bool := !decide (n%2=1)&&(mg 2 n f&&(decide (∀ i,i<f.length->blkN n f i=blkN n f 0)&&decide (∀ i,i<f.length->halN n f i=halN n f 0)))
theorem pq.at {n:Nat} {f:List Int} (hf:pq n f) (hn:0<n) (r c:Nat) : -1000000000<=atN n f r c/\atN n f r c<=1000000000:=hf.get (by rw [hf.len];exact at_in hn)
theorem qco {n:Nat} {f:List Int} {h0 h:T Blk} {nx:Pa} {L:List Ob} {k:Nat} {bx:Pa} {r c:Nat} {K:Kw Prop} (hn:0<n/\n<=8) (hf:pq n f) (H:Hp h0 h nx L) (hk:L[k]? = some (.arr bx [I (n:Int),encI f])) (hr:r<=1000) (hc:c<=1000) (hK:K (I (atN n f r c)) h nx=.ok True) :
  (CS Tryz.prog B).fn 181 (.of 181) [I (r:Int),I (c:Int),.ptr bx 0] h nx K=.ok True:=by
 refine jB (p:=.of 181) (zP zR yh 9 fun _ => ?_) fun _ _ _ _ q=>q;rw [F181.go];simp only [sFx];have hin:=at_in (n:=n) (r:=r) (c:=c) hn.1;have h1:=Nat.mod_lt r hn.1;have h2:=Nat.mod_lt c hn.1;have h3:r%n*n<=8*8:=Zbg (by omega) (by omega);have e1:((r%n:Nat):Int)*(n:Int)=((r%n*n:Nat):Int):=by simp
 rw [H.load (k:=k) (i:=0+1) hk rfl,H.load (k:=k) (i:=0) hk rfl,mI (by omega) hn.1,H.load (k:=k) (i:=0) hk rfl,sV (by rw [e1];omega),e1,H.load (k:=k) (i:=0) hk rfl,mI (by omega) hn.1,jk (by omega),
  xu (i:=r%n*n+c%n) (by omega) (by rw [hf.len];exact hin),ldL (fD (cP (by rw [hf.len];exact hin)))]
 exact hK
theorem zux {n:Nat} {f:List Int} (hs:SqOk n) (hf:pq n f):Pure Tryz.prog B 121 [.agg [I (n:Int),encI f]] (· = .bool (mper n f)):=by
 refine yE fun h nx K H0 hK=>zP zR yh 100 fun hf' => ?_;have hn:0<n/\n<=8:=⟨by have:=hs.1.1;omega,hs.1.2⟩;have hlen:f.length<=64:=by rw [hf.len];exact Zbg hs.1.2 hs.1.2
 rw [aS.go];refine H0.box (l:=[I (n:Int),encI f]) rfl fun bx h1 nx1 H1 => ?_;simp only [sFx];rw [H1.load (k:=0) (i:=0) rfl rfl];have e2:∀ K:AV->OP,zh .rem .int (I (n:Int)) (I 2) K=K (I ((n%2:Nat):Int)):=fun K=>mI (b:=2) (by omega) (by omega);rw [e2];simp only [rG];by_cases c1:n%2=1
 ·simp only [show ((n%2:Nat):Int)=1 by omega,decide_true,yY,zyu,zZ,zH];exact hK _ _ _ _ _ H1 (zL rfl) (by simp [mper,c1])
 simp only [show ¬ ((n%2:Nat):Int)=1 by omega,decide_false,yQ,zyt];rw [H1.zn (k:=0) (n:=2) rfl rfl];refine zcg (k:=2) hs (by omega) hf _ _ _ _ ?_;rintro _ rfl _;have em:mper n f=(mg 2 n f&&(decide (∀ i,i<f.length->blkN n f i=blkN n f 0)&&decide (∀ i,i<f.length->halN n f i=halN n f 0))):=by simp [mper,c1]
 cases c2:mg 2 n f with
 | false =>
  simp only [yV,Zag,zW,zH];exact hK _ _ _ _ _ H1 (zL rfl) (by rw [em,c2];rfl)
 | true =>
 simp only [yV,Zaf,zW,zJ];refine H1.alloc fun pa h2 nx2 H2 => ?_;refine H2.store (k:=0) rfl (by simp) rfl fun h3 H3 => ?_;rw [H3.load (k:=1) (i:=0+1) rfl rfl];simp only [zO];have ha:∀ (r c:Nat),r<=1000->c<=1000->∀ K:Kw Prop,K (I (atN n f r c)) h3 nx2=.ok True->(CS Tryz.prog B).fn 181 (.of 181) [I (r:Int),I (c:Int),.ptr bx 0] h3 nx2 K=.ok True:=fun r c hr hc K hK=>qco hn hf H3 (k:=1) rfl hr hc hK;have ld:∀ op:AV->OP,zG (.ptr pa 0) h3 op=op (.fn 181 (.of 181) [.ptr bx 0]):=fun op=>H3.load (k:=0) (i:=0) rfl rfl;have sm1:∀ i:Nat,i<f.length->i / n<=64/\i%n<=64:=fun i hi=>⟨Zbt (Nat.div_le_self i n) (by omega),Zbt (Nat.mod_le i n) (by omega)⟩;refine ze2 (v:=blkN n f) (by omega) (by omega) (fun i hi K hK => ?_) ?_
 ·refine jB (p:=.of 182) (zP zR yh 9 fun _ => ?_) fun _ _ _ _ q=>q;show zQ tbl 9 _ (Pa.of 182) [I (i:Int),.ptr bx 0,.ptr pa 0] _ _ _=_;obtain ⟨d1,d2⟩:=sm1 i hi;rw [F182.go];simp only [sFx];have b1:=hf.at hn.1 (i / n) (i%n);have b2:=hf.at hn.1 (i / n) (i%n+1);have b3:=hf.at hn.1 (i / n+1) (i%n);have b4:=hf.at hn.1 (i / n+1) (i%n+1);have q1:∀ K:AV->OP,zh .add .int (I ((i%n:Nat):Int)) (I 1) K=K (I ((i%n+1:Nat):Int)):=fun K=>by generalize i%n=x at d2 ⊢;rw [jk (by omega)];simp
  have q2:∀ K:AV->OP,zh .add .int (I ((i / n:Nat):Int)) (I 1) K=K (I ((i / n+1:Nat):Int)):=fun K=>by generalize i / n=x at d1 ⊢;rw [jk (by omega)];simp
  rw [H3.load (k:=1) (i:=0) rfl rfl,ze3 (by omega) hn.1,H3.load (k:=1) (i:=0) rfl rfl,mI (by omega) hn.1];simp only [ld,q1,q2];rw [uN];refine ha _ _ (by omega) (by omega) _ ?_;simp only [ld,q1,q2,zI];rw [uN];refine ha _ _ (by omega) (by omega) _ ?_;simp only [ld,q1,q2,zI];rw [jk (by omega),uN];refine ha _ _ (by omega) (by omega) _ ?_;simp only [ld,q1,q2,zI];rw [jk (by omega)];simp only [zI];rw [jk (by omega),uN];refine ha _ _ (by omega) (by omega) _ ?_;rw [jk (by omega)];simp only [zI];rw [jk (by omega)];simp only [zI];rw [jk (by omega)];exact hK
 by_cases c3:∀ i,i<f.length->blkN n f i=blkN n f 0
 case neg =>
  rw [decide_eq_false c3];simp only [jU,zch,zW];exact hK _ _ _ _ _ H3 (zL rfl) (by rw [em,c2,decide_eq_false c3];rfl)
 rw [decide_eq_true c3];simp only [jN,zci,sFx];rw [H3.load (k:=1) (i:=0+1) rfl rfl];simp only [zO];refine ze2 (v:=halN n f) (by omega) (by omega) (fun i hi K hK => ?_) ?_
 ·refine jB (p:=.of 183) (zP zR yh 9 fun _ => ?_) fun _ _ _ _ q=>q;show zQ tbl 9 _ (Pa.of 183) [I (i:Int),.ptr bx 0,.ptr pa 0] _ _ _=_;obtain ⟨d1,d2⟩:=sm1 i hi;rw [F183.go];simp only [sFx];have b1:=hf.at hn.1 (i / n) (i%n);have b2:=hf.at hn.1 (i / n+n / 2) (i%n+n / 2);have q0:∀ K:AV->OP,zh .quo .int (I (n:Int)) (I 2) K=K (I ((n / 2:Nat):Int)):=fun K=>ze3 (b:=2) (by omega) (by omega);have q1:∀ K:AV->OP,zh .add .int (I ((i%n:Nat):Int)) (I ((n / 2:Nat):Int)) K=K (I ((i%n+n / 2:Nat):Int)):=fun K=>by generalize i%n=x at d2 ⊢;generalize hy:n / 2=y;rw [jk (by omega)];simp
  have q2:∀ K:AV->OP,zh .add .int (I ((i / n:Nat):Int)) (I ((n / 2:Nat):Int)) K=K (I ((i / n+n / 2:Nat):Int)):=fun K=>by generalize i / n=x at d1 ⊢;generalize hy:n / 2=y;rw [jk (by omega)];simp
  have l1:∀ op:AV->OP,zG (.ptr bx 0) h3 op=op (I (n:Int)):=fun op=>H3.load (k:=1) (i:=0) rfl rfl;rw [l1,ze3 (by omega) hn.1,l1,mI (by omega) hn.1];simp only [ld,l1,q0,q1,q2];rw [uN];refine ha _ _ (by omega) (by omega) _ ?_;simp only [ld,l1,q0,q1,q2,zI];rw [uN];refine ha _ _ (by omega) (by omega) _ ?_;rw [jk (by omega)];exact hK
 simp only [zZ];exact hK _ _ _ _ _ H3 (zL rfl) (by rw [em,c2,decide_eq_true c3];rfl)
theorem zqm {l:List Int}:∀ v∈l.map I,rD v=true:=fun v hv=>by obtain ⟨x,_,rfl⟩:=List.mem_map.1 hv;rfl
theorem zuy {n a b c:Nat} {l:List AV} {op:AV->OP} (hn:1<=n) (hab:a<=b) (hbc:b<=c) (hc:c<=n):qR 1 (.lst 1 n l) (some (I (a:Int))) (some (I (b:Int))) (some (I (c:Int))) op=op (.lst 1 (b-a) ((l.drop a).take (b-a))):=by
 show (bif Nat.beq 1 1&&Nat.ble 1 n then (match bnd (some (I (c:Int))) n n with | none=>Out.no 17 | some m=>match bnd (some (I (b:Int))) m n with | none=>.no 17 | some h=>match bnd (some (I (a:Int))) h 0 with | none=>.no 17 | some q=>op (.lst 1 (h-q) ((l.drop (q*1)).take ((h-q)*1)))) else .no 17)=_;rw [Zac hn,dM hc];show (match bnd (some (I (b:Int))) c n with | none=>Out.no 17 | some h=>match bnd (some (I (a:Int))) h 0 with | none=>.no 17 | some q=>op (.lst 1 (h-q) ((l.drop (q*1)).take ((h-q)*1))))=_;rw [dM hbc];show (match bnd (some (I (a:Int))) b 0 with | none=>Out.no 17 | some q=>op (.lst 1 (b-q) ((l.drop (q*1)).take ((b-q)*1))))=_;rw [dM hab];show op (.lst 1 (b-a) ((l.drop (a*1)).take ((b-a)*1)))=_;rw [Zcc,Zcc]
def u9 (n:Nat) (f:List Int) (r:Nat):List Int:=(List.range r).flatMap fun i=>(f.drop ((i+1)*n+1)).take (n-2)
def kW (n:Nat) (f:List Int):List Int:=u9 n f (n-2)
theorem dE (n:Nat) (f:List Int) (r:Nat):u9 n f (r+1)=u9 n f r++(f.drop ((r+1)*n+1)).take (n-2):=by simp [u9,List.range_succ]
theorem pV {n:Nat} {f:List Int} (hf:f.length=n*n) (hn:2<=n):∀ r,r<=n-2->(u9 n f r).length=r*(n-2)
 | 0,_=>by simp [u9]
 | r+1,h=>by
  have h1:(r+1)*n+n<=n*n:=by
   have:(r+1+1)*n<=n*n:=Zba n (by omega);rw [Zbc (r+1) 1 n,Zcf] at this;exact this
  rw [dE,Zat,pV hf hn r (by omega),Zax,Zcj,hf,Nat.min_eq_left (by omega),Zbc,Zcf]
theorem pq.inner {n:Nat} {f:List Int} (hf:pq n f) (hn:2<=n):pq (n-2) (kW n f):=by
 refine ⟨pV hf.len hn _ (Zai _),fun x hx => ?_⟩;obtain ⟨i,_,hx⟩:=List.mem_flatMap.1 hx;exact hf.bd x (List.mem_of_mem_drop (List.mem_of_mem_take hx))
theorem zqn {n:Nat} {f:List Int} (hn:3<=n/\n<=8) (hf:pq n f):Pure Tryz.prog B 184 [.agg [I (n:Int),encI f]] (· = .agg [I ((n-2:Nat):Int),encI (kW n f)]):=by
 refine yE fun h nx K H0 hK=>zP zR yh 100 fun hf' => ?_;have hlen:f.length<=64:=by rw [hf.len];exact Zbg hn.2 hn.2
 have hpos:1<=f.length:=by rw [hf.len];exact Zbg (show 1<=n by omega) (show 1<=n by omega)
 rw [ku.go];refine H0.box (l:=[I (n:Int),encI f]) rfl fun bx h1 nx1 H1 => ?_;refine H1.alloc fun p h2 nx2 H2 => ?_;simp only [sFx];rw [H2.load (k:=1) (i:=0) rfl rfl,sD (by omega),zke];refine H2.alloc fun q h3 nx3 H3 => ?_;refine H3.qy (l2:=[I ((n:Int)-2),.zf]) (k:=0) rfl rfl rfl fun h4 H4 => ?_;refine ku.L1 (fun m x4 h' nx'=>∃ (r:Nat) (o:Option Pa),x4=I ((r+1:Nat):Int)/\n-2-r=m/\r<=n-2/\Hp h h' nx' [.gro o 1 (u9 n f r).length ((u9 n f r).map I),.arr q [I ((n:Int)-2),qx o 1 (u9 n f r).length],.arr p [I 0,.zf],.arr bx [I (n:Int),encI f]]) (m:=n-2) (by omega) ⟨0,none,rfl,rfl,by omega,H4.aX 1⟩ ?_;rintro m z4 z5 h5 nx5 R ⟨r,o,rfl,rfl,hr,H5⟩ hR;simp only [sFx];rw [jk (by omega),H5.load (k:=3) (i:=0) rfl rfl];simp only [jl];by_cases hlt:r<n-2
 case neg =>
  simp only [show ¬ (((r+1:Nat):Int)+1<(n:Int)) by omega,decide_false,zJ];obtain rfl:r=n-2:=by omega
  rw [ku.k8,H5.zn (k:=1) (n:=2) rfl rfl];refine H5.qy (l2:=[I ((n:Int)-2),qx o 1 (u9 n f (n-2)).length]) (k:=2) rfl rfl rfl fun h6 H6 => ?_;rw [H6.zn (k:=2) (n:=2) rfl rfl];have hF:rU h h6 (qx o 1 (u9 n f (n-2)).length) (encI (kW n f)):=H6.zaf (k:=0) rfl zqm;refine hK _ _ _ _ (AV.agg [I ((n:Int)-2),encI (kW n f)]) H6 (Frz.agg _ _ rfl rfl fun j v v' h1 h2 => ?_) (by congr 3;omega)
  match j,h1,h2 with
  | 0,h1,h2=>cases h1;cases h2;exact zL rfl
  | 1,h1,h2=>cases h1;cases h2;exact hF
  | j+2,h1,h2=>simp at h1
 simp only [show ((r+1:Nat):Int)+1<(n:Int) by omega,decide_true,zH];have hrn:(r+1)*n+n<=n*n:=by
  have:(r+1+1)*n<=n*n:=Zba n (by omega);rw [Zbc (r+1) 1 n,Zcf] at this;exact this
 have hb:(r+1)*n<=64:=by have:=hf.len;omega
 have em:((r+1:Nat):Int)*(n:Int)=(((r+1)*n:Nat):Int):=by simp
 have l0:∀ op:AV->OP,zG (.ptr bx 0) h5 op=op (I (n:Int)):=fun op=>H5.load (k:=3) (i:=0) rfl rfl;have l1:∀ op:AV->OP,zG (.ptr bx (0+1)) h5 op=op (encI f):=fun op=>H5.load (k:=3) (i:=0+1) rfl rfl;rw [H5.load (k:=1) (i:=0+1) rfl rfl];simp only [l0,l1];have mu:∀ K:AV->OP,zh .mul .int (I ((r+1:Nat):Int)) (I (n:Int)) K=K (I (((r+1)*n:Nat):Int)):=fun K=>by rw [sV (by rw [em];omega),em]
 simp only [mu]
 generalize hq:(r+1)*n=rn at *
 have a1:∀ K:AV->OP,zh .add .int (I (rn:Int)) (I 1) K=K (I ((rn+1:Nat):Int)):=fun K=>by rw [jk (by omega)];simp
 have a2:∀ K:AV->OP,zh .add .int (I (rn:Int)) (I (n:Int)) K=K (I ((rn+n:Nat):Int)):=fun K=>by rw [jk (by omega)];simp
 have a3:∀ K:AV->OP,zh .sub .int (I ((rn+n:Nat):Int)) (I 1) K=K (I ((rn+n-1:Nat):Int)):=fun K=>by rw [sD (by omega)];congr 2;omega
 simp only [a1,a2,a3];rw [zuy (by omega) (by omega) (by omega) (by rw [hf.len];omega)];have e1:rn+n-1-(rn+1)=n-2:=by omega
 rw [e1];have hnl:(((f.map I).drop (rn+1)).take (n-2)).length=n-2:=by rw [Zax,Zcj,Zas,hf.len];omega
 refine H5.appN (k:=0) (o:=o) (c:=n-2) (new:=((f.map I).drop (rn+1)).take (n-2)) rfl (zwg 1) (by rw [hnl];omega) ?_ (by decide) (by decide) (by rw [pV hf.len (by omega) r hr];have:r*(n-2)<=8*8:=Zbg (by omega) (by omega);omega) fun o' h6 nx6 _ H6 => ?_
 ·refine List.all_eq_true.2 fun v hv => ?_;obtain ⟨x,_,rfl⟩:=List.mem_map.1 (List.mem_of_mem_drop (List.mem_of_mem_take hv));rfl
 refine H6.store (k:=1) rfl (by simp) (uO _ _ _) fun h7 H7 => ?_;rw [jk (by omega)];have e2:u9 n f (r+1)=u9 n f r++(f.drop (rn+1)).take (n-2):=by rw [dE,hq]
 refine hR _ _ _ _ _ (by omega) ⟨r+1,o',by congr 1,rfl,by omega,H7.cast ?_⟩;rw [e2,Zat,Zbn,List.map_take,List.map_drop];have:((f.drop (rn+1)).take (n-2)).length=n-2:=by rw [Zax,Zcj,hf.len];omega
 rw [this];rfl
def brd:Nat->Nat->List Int->Bool
 | 0,_,_=>true
 | k+1,n,f=>if n<3 then true else mg 1 n f&&brd k (n-2) (kW n f)
def bord (n:Nat) (f:List Int):Bool:=decide (5<=n)&&brd n n f
theorem zmi {k n:Nat} {f:List Int} (h:n<3):brd k n f=true:=by cases k <;> simp [brd,h]
theorem zuz {n:Nat} {f:List Int} (hs:∀ m,1<=m->m<=n->SqOk m) (hn:1<=n/\n<=8) (hf:pq n f):Pure Tryz.prog B 122 [.agg [I (n:Int),encI f]] (· = .bool (bord n f)):=by
 refine yE fun h nx K H0 hK=>zP zR yh 100 fun hf' => ?_;rw [uf.go];refine H0.box (l:=[I (n:Int),encI f]) rfl fun bx h1 nx1 H1 => ?_;simp only [sFx];rw [H1.load (k:=0) (i:=0) rfl rfl];simp only [jl];by_cases c5:n<5
 ·simp only [show (n:Int)<5 by omega,decide_true,zH];exact hK _ _ _ _ _ H1 (zL rfl) (by rw [bord,decide_eq_false (by omega)];rfl)
 simp only [show ¬ (n:Int)<5 by omega,decide_false,zJ];have eb:bord n f=brd n n f:=by rw [bord,decide_eq_true (by omega)];rfl
 refine uf.L2 (fun k h' nx'=>∃ (m:Nat) (g:List Int),m<=n/\pq m g/\brd n n f=brd k m g/\m<=k/\Hp h h' nx' [.arr bx [I (m:Int),encI g]]) (m:=n) (by omega) ⟨n,f,Zai _,hf,rfl,Zai _,H1⟩ ?_;rintro k z2 z4 z5 h2 nx2 R ⟨m,g,hm,hg,hb,hk,H2⟩ hR;simp only [sFx];rw [H2.load (k:=0) (i:=0) rfl rfl];simp only [sH];by_cases c3:3<=m
 case neg =>
  simp only [show ¬ (3:Int)<=(m:Int) by omega,decide_false,zJ];rw [uf.k9];exact hK _ _ _ _ _ H2 (zL rfl) (by rw [eb,hb,zmi (by omega)])
 simp only [show (3:Int)<=(m:Int) by omega,decide_true,zH];rw [H2.zn (k:=0) (n:=2) rfl rfl];refine zcg (k:=1) (hs m (by omega) hm) (by omega) hg _ _ _ _ ?_;rintro _ rfl _;obtain ⟨k,rfl⟩:∃ k',k=k'+1:=⟨k-1,by omega⟩;rw [brd,if_neg (by omega)] at hb;cases c:mg 1 m g with
 | false =>
  simp only [yV,Zag,zH];exact hK _ _ _ _ _ H2 (zL rfl) (by rw [eb,hb,c];rfl)
 | true =>
  simp only [yV,Zaf,zJ];rw [H2.zn (k:=0) (n:=2) rfl rfl];refine zqn (by omega) hg _ _ _ _ ?_;rintro _ rfl _;refine H2.qy (l2:=[I ((m-2:Nat):Int),encI (kW m g)]) (k:=0) rfl rfl rfl fun h3 H3 => ?_;rw [c,Bool.true_and] at hb;exact hR k _ _ _ _ _ (by omega) ⟨m-2,kW m g,by omega,hg.inner (by omega),hb,by omega,H3⟩
def sqF (f:List Int):List Int:=f.map fun x=>x*x
theorem cO {f:List Int} {i:Nat} (h:i<f.length):(sqF f).getD i 0=f.getD i 0*f.getD i 0:=by
 rw [Zaa,Zaa,sqF,List.getElem?_map,List.getElem?_eq_getElem h];rfl
theorem zg7 {l f:List Int} (h:zal l f) {j:Nat} (hj:j<l.length):yL (l.take (j+1)) (sqF f)=yL (l.take j) (sqF f)+f.getD l[j].toNat 0*f.getD l[j].toNat 0:=by
 have:=h.rng _ (Zak hj);rw [pT hj,cO (by omega)]
theorem zw0 {x:Int} (h : -1000000000<=x/\x<=1000000000):0<=x*x/\x*x<=1000000000000000000:=by
 have h2:(x*x).natAbs<=1000000000000000000:=by rw [Int.natAbs_mul];exact Zbg (show x.natAbs<=1000000000 by omega) (show x.natAbs<=1000000000 by omega)
 have h1:0<=x*x:=by
  rcases Int.le_total 0 x with q | q
  ·exact Int.mul_nonneg q q
  ·exact Int.mul_nonneg_of_nonpos_of_nonpos q q
 omega
theorem zcj {l f:List Int} (h:zal l f):∀ j,j<=l.length->0<=yL (l.take j) (sqF f)/\yL (l.take j) (sqF f)<=1000000000000000000*(j:Int)
 | 0,_=>by simp [yL]
 | j+1,hj=>by
  have ih:=zcj h j (by omega);have:=zw0 (h.get (Zak (show j<l.length by omega))).2;rw [zg7 h (by omega)];omega
def pow2 (n:Nat) (f:List Int):Bool:=decide (∀ i,i<(sqL 1 n).length->yL ((sqL 1 n).getD i []) (sqF f)=yL ((sqL 1 n).getD 0 []) (sqF f))
theorem zy4 {L:List (List Int)} {i:Nat} (h:i<L.length):L[i]? = some (L.getD i []):=by
 rw [Zaa,List.getElem?_eq_getElem h];rfl
theorem zy5 {n:Nat} {f:List Int} (hs:SqOk n) (hf:pq n f):Pure Tryz.prog B 124 [.agg [I (n:Int),encI f],I 2] (· = .bool (pow2 n f)):=by
 refine yE fun h nx K H0 hK=>zP zR yh 1000 fun hf' => ?_;rw [yg.go];refine H0.box (l:=[I (n:Int),encI f]) rfl fun bx h1 nx1 H1 => ?_;refine H1.alloc fun wt h2 nx2 H2 => ?_;simp only [sFx];rw [H2.load (k:=1) (i:=0) rfl rfl];refine hs.2 1 (by omega) B _ _ _ _ ?_;rintro _ rfl _;obtain ⟨hn1,hn2⟩:=zql (k:=1) (n:=n) (by omega) hs.1.2;have hln:=hf.ln (k:=1) (by omega) hs.1.2;have ep:pow2 n f=decide (∀ i,i<(sqL 1 n).length->yL ((sqL 1 n).getD i []) (sqF f)=yL ((sqL 1 n).getD 0 []) (sqF f)):=rfl
 generalize pow2 n f=res at *
 generalize sqL 1 n=Ls at *
 rw [gB];simp only [zO];refine yg.L1 (fun m x11 h' nx'=>∃ (i:Nat) (w:Int),x11=I i/\Ls.length-i=m/\i<=Ls.length/\(0<i->w=yL (Ls.getD 0 []) (sqF f))/\(∀ j,j<i->yL (Ls.getD j []) (sqF f)=yL (Ls.getD 0 []) (sqF f))/\Hp h h' nx' [.arr wt [I w,.zf],.arr bx [I (n:Int),encI f]]) (m:=Ls.length) (by omega) ⟨0,0,rfl,rfl,by omega,by omega,fun j hj=>by omega,H2⟩ ?_;rintro m z3 z5 z6 z7 z8 z11 z12 z13 z14 z15 z16 z17 z18 h3 nx3 R ⟨i,w,rfl,rfl,hi,hw,hall,H3⟩ hR;simp only [jl];by_cases hlt:i<Ls.length
 case neg =>
  simp only [show ¬ (i:Int)<(Ls.length:Int) by omega,decide_false,zJ];rw [yg.k17];exact hK _ _ _ _ _ H3 (zL rfl) (by rw [ep,decide_eq_true (fun j hj=>hall j (by omega))])
 simp only [show (i:Int)<(Ls.length:Int) by omega,decide_true,zH];have hx:=zy4 hlt;have hm:=Zab hx;obtain ⟨g1,g2⟩:=hn2 _ hm;have hok:=hln _ hm
 generalize hl:Ls.getD i []=l at *
 rw [xu rfl hlt,ldL (getT hx)];refine zqg _ _ _ _ ?_;rintro _ rfl _;refine H3.alloc fun sb h4 nx4 H4 => ?_;refine H4.qy (l2:=[I 0,.zf]) (k:=0) rfl rfl rfl fun h5 H5 => ?_;simp only [zO];refine yg.L7 (fun m x15 h' nx'=>∃ j:Nat,x15=I j/\l.length-j=m/\j<=l.length/\Hp h h' nx' [.arr sb [I (yL (l.take j) (sqF f)),.zf],.arr wt [I w,.zf],.arr bx [I (n:Int),encI f]]) (m:=l.length) (by omega) ⟨0,rfl,rfl,by omega,H5⟩ ?_;rintro m y8 y15 y16 h6 nx6 R2 ⟨j,rfl,rfl,hj,H6⟩ hR2;simp only [jl];by_cases hjt:j<l.length
 ·simp only [show (j:Int)<(l.length:Int) by omega,decide_true,zH];have hy:l[j]? = some l[j]:=List.getElem?_eq_getElem hjt;have hr:=hok.rng _ (Zak hjt);obtain ⟨hg,hb⟩:=hok.get (Zak hjt);have hbd:=zcj hok j (by omega);have hsq:=zw0 hb;rw [xu rfl hjt,ldL (fD hy),H6.zn (k:=0) (n:=2) rfl rfl];simp only [sFx];rw [H6.load (k:=2) (i:=0+1) rfl rfl,xu (i:=l[j].toNat) (by omega) (by omega),ldL (fD hg)];refine zqg _ _ _ _ ?_;rintro _ rfl _;simp only [zI];rw [H6.zn (k:=0) (n:=2) rfl rfl];simp only [zI];refine qcl (by omega) _ _ _ _ ?_;rintro _ rfl _;rw [H6.zn (k:=0) (n:=2) rfl rfl];simp only [zI];refine zuu (by omega) (by omega) _ _ _ _ ?_;rintro _ rfl _;refine H6.qy (l2:=[I (yL (l.take j) (sqF f)+f.getD l[j].toNat 0*f.getD l[j].toNat 0),.zf]) (k:=0) rfl rfl rfl fun h7 H7 => ?_;rw [jk (by omega)];exact hR2 _ _ _ _ _ _ (by omega) ⟨j+1,rfl,rfl,by omega,H7.cast (by rw [zg7 hok hjt];rfl)⟩
 simp only [show ¬ (j:Int)<(l.length:Int) by omega,decide_false,zJ];rw [Zal (by omega)] at H6;rw [yg.k14];simp only [rG];have fin:∀ (w':Int) (z:AV) (h7:T Blk),w'=yL (Ls.getD 0 []) (sqF f)->Hp h h7 nx6 [.arr sb [I (yL l (sqF f)),.zf],.arr wt [I w',.zf],.arr bx [I (n:Int),encI f]]->∀ z3 z5 z6 z8 z14 z15 z16 z17 z18:AV,IR.run yg.b15 (CS Tryz.prog B) 1000 (((fnO yg.res K).blk 0 (IR.run yg.b17 (CS Tryz.prog B) 1000 (fnO yg.res K) (jq yg.res K))).blk 1 (IR.run yg.b16 (CS Tryz.prog B) 1000 ((fnO yg.res K).blk 0 (IR.run yg.b17 (CS Tryz.prog B) 1000 (fnO yg.res K) (jq yg.res K))) R)) (IR.run yg.b16 (CS Tryz.prog B) 1000 ((fnO yg.res K).blk 0 (IR.run yg.b17 (CS Tryz.prog B) 1000 (fnO yg.res K) (jq yg.res K))) R) (yg.fr (.agg [I (n:Int),encI f]) (I 2) (.ptr bx 0) z3 (.ptr wt 0) z5 z6 (.ptr sb 0) z8 (sW Ls) (I Ls.length) (I i) (.bool true) (encI l) z14 z15 z16 z17 z18) h7 nx6=.ok True:=by
  intro w' z h7 hw' H7 z3 z5 z6 z8 z14 z15 z16 z17 z18;rw [yg.k15,H7.zn (k:=0) (n:=2) rfl rfl,H7.zn (k:=1) (n:=2) rfl rfl];refine zuv _ _ _ _ ?_;rintro _ rfl _;simp only [qm];by_cases e:yL l (sqF f)=w'
  ·have:cmpI (yL l (sqF f)) w'=0:=by rw [cmpI,if_neg (by omega),if_neg (by omega)]
   simp only [this,decide_true,Zaf,zJ];rw [yg.k16,jk (by omega)];refine hR _ _ _ _ _ _ _ _ _ _ _ _ _ _ _ _ (by omega) ⟨i+1,w',rfl,rfl,by omega,fun _=>hw',fun j hj => ?_,H7.drop⟩;by_cases ej:j=i
   ·rw [ej,hl,e,hw']
   ·exact hall j (by omega)
  ·have:¬ cmpI (yL l (sqF f)) w'=0:=by
    rw [cmpI];by_cases q:yL l (sqF f)<w'
    ·rw [if_pos q];omega
    ·rw [if_neg q,if_pos (by omega)];omega
   simp only [this,decide_false,Zag,zH];refine hK _ _ _ _ _ H7 (zL rfl) ?_;rw [ep,decide_eq_false fun q=>e (by rw [<- hl,q i hlt,hw'])]
 by_cases ci:i=0
 ·simp only [show (i:Int)=0 by omega,decide_true,zH];rw [H6.zn (k:=0) (n:=2) rfl rfl];refine H6.qy (l2:=[I (yL l (sqF f)),.zf]) (k:=1) rfl rfl rfl fun h7 H7 => ?_;have:=fin (yL l (sqF f)) .u h7 (by rw [<- hl,ci]) H7;simp only [ci] at this ⊢;exact this _ _ _ _ _ _ _ _ _
 ·simp only [show ¬ (i:Int)=0 by omega,decide_false,zJ];exact fin w .u h6 (hw (by omega)) H6 _ _ _ _ _ _ _ _ _
theorem qcp {a b:List UInt8} {K:AV->OP}:zh .eql .str (.str a) (.str b) K=K (.bool (decide (a=b))):=by
 have:zh .eql .str (.str a) (.str b) K=K (.bool (j3 a b)):=rfl;rw [this];by_cases c:a=b
 ·rw [decide_eq_true c,xq.2 c]
 ·rw [decide_eq_false c];cases q:j3 a b with
  | false=>rfl
  | true=>exact absurd (xq.1 q) c
theorem qcq {a b:List UInt8} {K:AV->OP}:zh .neq .str (.str a) (.str b) K=K (.bool (!decide (a=b))):=by
 have:zh .neq .str (.str a) (.str b) K=K (.bool (!j3 a b)):=rfl;rw [this];by_cases c:a=b
 ·rw [decide_eq_true c,xq.2 c]
 ·rw [decide_eq_false c];cases q:j3 a b with
  | false=>rfl
  | true=>exact absurd (xq.1 q) c
theorem qcr (l:List (List UInt8)):∀ v∈l.map AV.str,rD v=true:=fun v hv=>by obtain ⟨x,_,rfl⟩:=List.mem_map.1 hv;rfl
theorem zi5 {P:Program} {f:Nat} {p id:Pa} {h0 h:T Blk} {nx:Pa} {L:List Ob} {k:Nat} {a b:Int} {l:List Int} {K:Kw Prop} {Q:AV->Prop} (H:Hp h0 h nx L) (hk:L[k]? = some (.arr id (l.map I))) (hq:∀ B,Pure P B f [I a,I b,encI l] Q) (hpl:∀ v,Q v->Plain v)
  (hK:∀ v,Q v->K v h nx=.ok True):(CS P B).fn f p [I a,I b,.sl id 0 l.length (some l.length) 1] h nx K=.ok True :=
 zbs (.cons (.int _ _) (.cons (.int _ _) (.cons (yx.frz (H.own _ (Zab hk)) (T.cu _ id) (Zai _) (by simp) (zet _)) .nil))) (by
  have:=uH l;simp only [nns,rD.nn this,Bool.and_self,show nn (I a)=true from rfl,show nn (I b)=true from rfl]) hq hpl fun v hv _=>hK v hv
def rngE (a b:Int) (l:List Int):Int:=if l.any (fun x=>decide (x<a)||decide (b<x)) then 3 else 0
theorem zy6 {a b:Int} {h0 h:T Blk} {nx p:Pa} {L:List Ob} {l:List Int} {K:Kw Prop} {id:Pa} {k n:Nat} (hn:l.length=n) (hl:l.length<=1000000) (H:Hp h0 h nx L) (hk:L[k]? = some (.arr id (l.map I))) (hK:K (I (rngE a b l)) h nx=.ok True):(CS Tryz.prog B).fn 70 p [I a,I b,.sl id 0 n (some n) 1] h nx K=.ok True:=by
 subst hn;exact zi5 H hk (fun B=>zj8 hl) (fun v hv=>by rw [hv];exact .int _ _) fun v hv=>by rw [hv];exact hK
theorem rng1 {a b n:Int}:rngE a b [n]=if n<a\/b<n then 3 else 0:=by
 unfold rngE;by_cases c1:n<a <;> by_cases c2:b<n <;> simp [c1,c2]
def nrm (f:List Int):Bool:=decide (srt f=upTo f.length)
def bim (n:Nat) (f:List Int):Bool:=mg 1 n f&&pow2 n f
def prs (n:Nat) (f:List Int):List Bool:=[nrm f,mg 0 n f,mg 1 n f,mg 2 n f,asc n f,mper n f,bord n f,bim n f]
def mU:List UInt8:=[110,111,114,109,97,108]
def zi6:List UInt8:=[97,115,115,111,99,105,97,116,105,118,101]
def zqo:List UInt8:=[109,111,115,116,45,112,101,114,102,101,99,116]
def zqp:List UInt8:=[98,111,114,100,101,114,101,100]
def kBim:List UInt8:=[98,105,109,97,103,105,99]
def knm:List (List UInt8):=[mU,gE 0,gE 1,gE 2,zi6,zqo,zqp,kBim]
def kfn:List Nat:=[115,116,118,119,120,121,122,123]
def kf:List (List UInt8)->List Bool->List (List UInt8)
 | x::l,b::bs=>if b then x::kf l bs else kf l bs
 | _,_=>[]
theorem zkq:∀ (l:List (List UInt8)) (bs:List Bool) (x:List UInt8) (b:Bool),l.length=bs.length->kf (l++[x]) (bs++[b])=kf l bs++if b then [x] else []
 | [],[],x,b,_=>by cases b <;> rfl
 | y::l,c::bs,x,b,h=>by
  show (if c then y::kf (l++[x]) (bs++[b]) else kf (l++[x]) (bs++[b]))=_;rw [zkq l bs x b (by simpa using h)];cases c <;> rfl
 | [],_::_,_,_,h=>by simp at h
 | _::_,[],_,_,h=>by simp at h
theorem zi7:∀ (l:List (List UInt8)) (bs:List Bool),(kf l bs).length<=l.length
 | [],_=>by simp [kf]
 | x::l,[]=>by simp [kf]
 | x::l,b::bs=>by
  have:=zi7 l bs;show (if b then x::kf l bs else kf l bs).length<=_;cases b <;> simp <;> omega
def aW (n:Nat) (f:List Int):List (List UInt8):=kf knm (prs n f)
theorem zi8 {t:T AV} {l:List AV} {off s:Nat} (h:yD t 0 l.length=l) (hle:off+s<=l.length):yD t off s=(l.drop off).take s:=by
 have e1:l.drop off=yD t off (l.length-off):=by
  have:=cC t l.length off (by omega);rw [h,Zaw] at this;exact this
 rw [e1];apply Zau;intro i;by_cases hi:i<s
 ·rw [yC _ _ _ _ hi,List.getElem?_take_of_lt hi,yC _ _ _ _ (by omega)]
 ·rw [List.getElem?_eq_none (by simp;omega),List.getElem?_eq_none (by simp;omega)]
theorem Hp.zy7 {h0 h:T Blk} {nx:Pa} {L:List Ob} {k n off:Nat} {id:Pa} {l l2:List AV} {op:AV->OP} (H:Hp h0 h nx L) (hk:L[k]? = some (.arr id l)) (hle:off+n<=l.length) (he:(l.drop off).take n=l2):zS n (.ptr id off) h op=op (.agg l2):=by
 obtain ⟨o,t,h1,h2⟩:=H.own _ (Zab hk);show jf (T.get .no id h) (fun _ m t=>bif Nat.ble (off+n) m then op (.agg (yD t off n)) else .no 8) (.no 9)=_;rw [h1];show (bif Nat.ble (off+n) l.length then op (.agg (yD t off n)) else .no 8)=_;rw [Zac hle,cond_true,zi8 h2 hle,he]
theorem zqq (f:List Int) (hl:f.length<=1000) (hp:0<f.length):Pure Tryz.prog B 48 [encI f] (· = encI f):=by
 cases f with
 | nil=>simp at hp
 | cons x t =>
  refine yE fun h nx K H0 hK=>zP zR yh 9 fun hf => ?_;rw [F48.go];have e:∀ A C:OP,(zh .eql (.nil .sl) (encI (x::t)) .zf fun v1=>zX v1 A C)=C:=fun A C=>nr rfl;rw [e];refine H0.copy (new:=(x::t).map I) (c:=(x::t).length) (fun h1 _=>zwg 1) (by simp) zqm (by decide) (by omega) fun v X h' nx' H' _ _ hF => ?_;exact hK _ _ _ _ _ H' (hF _ _ _ _ H' (by simp)) rfl
theorem zy8 {n:Nat} {f:List Int} (hj:∀ B,JOk Tryz.prog B qW) (hl:f.length<=100000):Pure Tryz.prog B 115 [.agg [I (n:Int),encI f]] (· = .bool (nrm f)):=by
 refine yE fun h nx K H0 hK=>zP zR yh 100 fun hf' => ?_;rw [F115.go];refine H0.box (l:=[I (n:Int),encI f]) rfl fun bx h1 nx1 H1 => ?_;simp only [sFx];rw [H1.load (k:=0) (i:=0+1) rfl rfl];refine zg4 hj hl _ _ _ _ ?_;rintro _ rfl _;exact hK _ _ _ _ _ H1 (zL rfl) rfl
theorem k221 {n:Nat} {f:List Int} (hs:SqOk n) (hf:pq n f):Pure Tryz.prog B 116 [.agg [I (n:Int),encI f]] (· = .bool (mg 0 n f)):=by
 refine yE fun h nx K H0 hK=>zP zR yh 100 fun hf' => ?_;rw [F116.go];refine H0.box (l:=[I (n:Int),encI f]) rfl fun bx h1 nx1 H1 => ?_;rw [H1.zn (k:=0) (n:=2) rfl rfl];refine zcg (k:=0) hs (by omega) hf _ _ _ _ ?_;rintro _ rfl _;exact hK _ _ _ _ _ H1 (zL rfl) rfl
theorem k222 {n:Nat} {f:List Int} (hs:SqOk n) (hf:pq n f):Pure Tryz.prog B 118 [.agg [I (n:Int),encI f]] (· = .bool (mg 1 n f)):=by
 refine yE fun h nx K H0 hK=>zP zR yh 100 fun hf' => ?_;rw [F118.go];refine H0.box (l:=[I (n:Int),encI f]) rfl fun bx h1 nx1 H1 => ?_;rw [H1.zn (k:=0) (n:=2) rfl rfl];refine zcg (k:=1) hs (by omega) hf _ _ _ _ ?_;rintro _ rfl _;exact hK _ _ _ _ _ H1 (zL rfl) rfl
theorem k223 {n:Nat} {f:List Int} (hs:SqOk n) (hf:pq n f):Pure Tryz.prog B 119 [.agg [I (n:Int),encI f]] (· = .bool (mg 2 n f)):=by
 refine yE fun h nx K H0 hK=>zP zR yh 100 fun hf' => ?_;rw [F119.go];refine H0.box (l:=[I (n:Int),encI f]) rfl fun bx h1 nx1 H1 => ?_;rw [H1.zn (k:=0) (n:=2) rfl rfl];refine zcg (k:=2) hs (by omega) hf _ _ _ _ ?_;rintro _ rfl _;exact hK _ _ _ _ _ H1 (zL rfl) rfl
theorem zy9 {n:Nat} {f:List Int} (hs:SqOk n) (hf:pq n f):Pure Tryz.prog B 123 [.agg [I (n:Int),encI f]] (· = .bool (bim n f)):=by
 refine yE fun h nx K H0 hK=>zP zR yh 100 fun hf' => ?_;rw [F123.go];refine H0.box (l:=[I (n:Int),encI f]) rfl fun bx h1 nx1 H1 => ?_;rw [H1.zn (k:=0) (n:=2) rfl rfl];refine zcg (k:=1) hs (by omega) hf _ _ _ _ ?_;rintro _ rfl _;cases c:mg 1 n f with
 | false =>
  simp only [jU,zW,zch];exact hK _ _ _ _ _ H1 (zL rfl) (by rw [bim,c];rfl)
 | true =>
  simp only [jN,zci];rw [H1.zn (k:=0) (n:=2) rfl rfl];refine zy5 hs hf _ _ _ _ ?_;rintro _ rfl _;simp only [zZ];exact hK _ _ _ _ _ H1 (zL rfl) (by rw [bim,c,Bool.true_and])
def ktab:List AV:=[.str mU,.fn 115 (.of 115) [],.str (gE 0),.fn 116 (.of 116) [],.str (gE 1),.fn 118 (.of 118) [],.str (gE 2),.fn 119 (.of 119) [],.str zi6,.fn 120 (.of 120) [],.str zqo,.fn 121 (.of 121) [],.str zqp,.fn 122 (.of 122) [],.str kBim,.fn 123 (.of 123) []]
theorem zqr {h0 h:T Blk} {nx p:Pa} {L:List Ob} {K:Kw Prop} (H:Hp h0 h nx L) (hK:∀ ka h' nx',Hp h0 h' nx' (.arr ka ktab::L)->K (.sl ka 0 8 (some 8) 2) h' nx'=.ok True):(CS Tryz.prog B).fn 62 p [] h nx K=.ok True:=by
 refine jB (p:=.of 62) (K:=K) (zP zR yh 9 fun _ => ?_) fun _ _ _ _ q=>q;rw [F62.go];have sb:∀ (s:List UInt8) (g:Nat) (p:Pa) (K:AV->OP),jO [(.str []),.dh] [(0,1,.str s),(1,1,.fn g p [])] K=K (.agg [.str s,.fn g p []]):=fun s g p K=>nr rfl;simp only [sb];exact H.yj (l:=ktab) rfl hK
def jT (r c:Int) (f:List Int):Int:=if r≠c\/r<0\/1000<r\/(f.length:Int)≠r*r then 2 else if r<1\/16<r then 3 else if f.any aP then 3 else 0
theorem zza {r:Int} (h0:0<=r) (h:r<=1000):0<=r*r/\r*r<=1000000:=⟨Int.mul_nonneg h0 h0,Int.le_trans (Int.mul_le_mul h h h0 (by omega)) (by omega)⟩
theorem zu0 {r c:Int} {f:List Int}:Pure Tryz.prog B 16 [.agg [I r,I c,encI f]] (· = I (jT r c f)):=by
 refine yE fun h nx K H0 hK=>zP zR yh 100 fun hf' => ?_;rw [F16.go,F16.ze7,F16.rM];refine H0.box (l:=[I r,I c,encI f]) rfl fun bx h1 nx1 H1 => ?_;have l0:∀ op:AV->OP,zG (.ptr bx 0) h1 op=op (I r):=fun op=>H1.load (k:=0) (i:=0) rfl rfl;have l00:∀ op:AV->OP,zG (.ptr bx (0+0)) h1 op=op (I r):=l0;have l1:∀ op:AV->OP,zG (.ptr bx (0+1)) h1 op=op (I c):=fun op=>H1.load (k:=0) (i:=0+1) rfl rfl;have l2:∀ op:AV->OP,zG (.ptr bx (0+2)) h1 op=op (encI f):=fun op=>H1.load (k:=0) (i:=0+2) rfl rfl;have end1:∀ x:Int,jT r c f=x->K (I x) h1 nx1=.ok True:=fun x hx=>hK _ _ _ _ _ H1 (zL rfl) (by rw [hx]);rw [F16.zcv,F16.t5_s,F16.rP,F16.r1_0,F16.zaa];have two:∀ x4 x5 x6 x7 x8 x9 x10:AV,True:=fun _ _ _ _ _ _ _=>trivial;by_cases c1:r=c
 case neg =>
  have e:jT r c f=2:=by rw [jT,if_pos (.inl c1)]
  simp only [sFx,l0,l00,l1,qm,c1,decide_false,Zag,yY,vX,zZ,zW,F16.aI,F16.rQ,F16.tZ,F16.fJ,F16.eG,F16.rY];rw [F16.t4_s,zH,F16.aF,F16.rF,yB,yO,F16.ret];exact end1 2 e
 subst c1;by_cases c2:r<0
 ·have e:jT r r f=2:=by rw [jT,if_pos (.inr (.inl c2))]
  simp only [sFx,l0,l00,l1,qm,decide_true,Zaf,yQ,yY,vX,zZ,zW,F16.aI,F16.rQ,F16.tZ,F16.fJ,F16.eG,F16.rY,jl,c2];rw [F16.t4_s,zH,F16.aF,F16.rF,yB,yO,F16.ret];exact end1 2 e
 by_cases c3:r<=1000
 case neg =>
  have e:jT r r f=2:=by rw [jT,if_pos (.inr (.inr (.inl (by omega))))]
  simp only [sFx,l0,l00,l1,qm,decide_true,decide_false,Zaf,yQ,yY,jU,vX,zZ,zW,F16.aI,F16.rQ,F16.tZ,F16.fJ,F16.eG,F16.rY,jl,c2,sO,c3,xk,show 1000<r by omega];rw [F16.t4_s,zH,F16.aF,F16.rF,yB,yO,F16.ret];exact end1 2 e
 have hsq:=zza (r:=r) (by omega) c3;have mul:∀ K:AV->OP,zh .mul .int (I r) (I r) K=K (I (r*r)):=fun K=>sV (by omega);by_cases c4:(f.length:Int)=r*r
 case neg =>
  have e:jT r r f=2:=by rw [jT,if_pos (.inr (.inr (.inr c4)))]
  simp only [sFx,l0,l00,l1,l2,qm,decide_true,decide_false,Zaf,Zag,yQ,yY,jN,vX,zZ,zW,F16.aI,F16.rQ,F16.tZ,F16.fJ,F16.eG,F16.rY,jl,c2,sO,c3,xk,zO,mul,c4];rw [F16.t4_s,zH,F16.aF,F16.rF,yB,yO,F16.ret];exact end1 2 e
 have e0:jT r r f=if r<1\/16<r then 3 else if f.any aP then 3 else 0:=by rw [jT,if_neg (by omega)]
 simp only [sFx,l0,l00,l1,l2,qm,decide_true,decide_false,Zaf,Zag,yQ,yY,jN,vX,zZ,zW,F16.aI,F16.rQ,F16.tZ,F16.fJ,F16.eG,F16.rY,jl,c2,sO,c3,xk,zO,mul,c4,show ¬ 1000<r by omega];rw [F16.t4_s,zJ,yH,F16.zm4,F16.aZ,F16.aJ];by_cases c5:r<1
 ·simp only [sFx,l0,l00,jl,c5,decide_true,yY,vX,zZ,zW];rw [F16.t9_s,zH,F16.t8_s,F16.t7_s,yB,yO,F16.ret];exact end1 3 (by rw [e0,if_pos (.inl c5)])
 by_cases c6:16<r
 ·simp only [sFx,l0,l00,jl,c5,decide_false,yQ,xk,c6,decide_true,zW];rw [F16.t9_s,zH,F16.t8_s,F16.t7_s,yB,yO,F16.ret];exact end1 3 (by rw [e0,if_pos (.inr c6)])
 simp only [sFx,l0,l00,jl,c5,decide_false,yQ,xk,c6,zW];rw [F16.t9_s,zJ,yH,F16.ze6,F16.zau];simp only [sFx];rw [l2];have hsm:r*r<=16*16:=Int.mul_le_mul (by omega) (by omega) (by omega) (by omega);refine zi3 (by omega) _ _ _ _ ?_;rintro _ rfl _;rw [yB,yO,F16.ret];exact end1 _ (by rw [e0,if_neg (by omega)])
theorem zi9 {r c:Int} {f:List Int} (hl:f.length<=300):Pure Tryz.prog B 61 [.agg [I r,I c,encI f]] (· = I (jT r c f)):=by
 refine yE fun h nx K H0 hK=>zP zR yh 100 fun hf' => ?_;rw [F61.go,F61.t9_s,F61.rM];refine H0.box (l:=[I r,I c,encI f]) rfl fun bx h1 nx1 H1 => ?_;have l0:∀ op:AV->OP,zG (.ptr bx 0) h1 op=op (I r):=fun op=>H1.load (k:=0) (i:=0) rfl rfl;have l00:∀ op:AV->OP,zG (.ptr bx (0+0)) h1 op=op (I r):=l0;have l1:∀ op:AV->OP,zG (.ptr bx (0+1)) h1 op=op (I c):=fun op=>H1.load (k:=0) (i:=0+1) rfl rfl;have l2:∀ op:AV->OP,zG (.ptr bx (0+2)) h1 op=op (encI f):=fun op=>H1.load (k:=0) (i:=0+2) rfl rfl;have end1:∀ x:Int,jT r c f=x->K (I x) h1 nx1=.ok True:=fun x hx=>hK _ _ _ _ _ H1 (zL rfl) (by rw [hx]);rw [F61.t8_s,F61.t5_s,F61.rP,F61.r1_0,F61.zaa];by_cases c1:r=c
 case neg =>
  have e:jT r c f=2:=by rw [jT,if_pos (.inl c1)]
  simp only [sFx,l0,l00,l1,qm,c1,decide_false,Zag,yY,vX,zZ,zW,F61.aI,F61.rQ,F61.tZ,F61.fJ,F61.eG,F61.rY];rw [F61.t4_s,zH,F61.aF,F61.rF,yB,yO,F61.ret];exact end1 2 e
 subst c1;by_cases c2:r<0
 ·have e:jT r r f=2:=by rw [jT,if_pos (.inr (.inl c2))]
  simp only [sFx,l0,l00,l1,qm,decide_true,Zaf,yQ,yY,vX,zZ,zW,F61.aI,F61.rQ,F61.tZ,F61.fJ,F61.eG,F61.rY,jl,c2];rw [F61.t4_s,zH,F61.aF,F61.rF,yB,yO,F61.ret];exact end1 2 e
 by_cases c3:1048576<r
 ·have e:jT r r f=2:=by rw [jT,if_pos (.inr (.inr (.inl (by omega))))]
  simp only [sFx,l0,l00,l1,qm,decide_true,decide_false,Zaf,yQ,yY,jU,vX,zZ,zW,F61.aI,F61.rQ,F61.tZ,F61.fJ,F61.eG,F61.rY,jl,c2,c3,xk];rw [F61.t4_s,zH,F61.aF,F61.rF,yB,yO,F61.ret];exact end1 2 e
 have hsq:0<=r*r/\r*r<=1048576*1048576:=⟨Int.mul_nonneg (by omega) (by omega),Int.mul_le_mul (by omega) (by omega) (by omega) (by omega)⟩;have mul:∀ K:AV->OP,zh .mul .int (I r) (I r) K=K (I (r*r)):=fun K=>sV (by omega);by_cases c4:(f.length:Int)=r*r
 case neg =>
  have e:jT r r f=2:=by rw [jT,if_pos (.inr (.inr (.inr c4)))]
  simp only [sFx,l0,l00,l1,l2,qm,decide_true,decide_false,Zaf,Zag,yQ,yY,jN,vX,zZ,zW,F61.aI,F61.rQ,F61.tZ,F61.fJ,F61.eG,F61.rY,jl,c2,c3,xk,zO,mul,c4];rw [F61.t4_s,zH,F61.aF,F61.rF,yB,yO,F61.ret];exact end1 2 e
 have hr1:r<=1000:=by
  by_cases q:r<=1000
  ·exact q
  ·have:1001*1001<=r*r:=Int.mul_le_mul (by omega) (by omega) (by omega) (by omega);omega
 have e0:jT r r f=if r<1\/16<r then 3 else if f.any aP then 3 else 0:=by rw [jT,if_neg (by omega)]
 simp only [sFx,l0,l00,l1,l2,qm,decide_true,decide_false,Zaf,Zag,yQ,yY,jN,vX,zZ,zW,F61.aI,F61.rQ,F61.tZ,F61.fJ,F61.eG,F61.rY,jl,c2,c3,xk,zO,mul,c4];rw [F61.t4_s,zJ,yH,F61.t7_s,F61.aJ];simp only [sFx,l00,l2];refine H1.yj (l:=[I r]) rfl fun b h2 nx2 H2 => ?_;have m2:∀ op:AV->OP,zG (.ptr bx (0+2)) h2 op=op (encI f):=fun op=>H2.load (k:=1) (i:=0+2) rfl rfl;simp only [m2,zI];refine zy6 (l:=[r]) rfl (by simp) H2 (k:=0) rfl ?_;simp only [m2,zI];refine zi4 (by omega) _ _ _ _ ?_;rintro _ rfl _;refine H2.yj (l:=[I (rngE 1 16 [r]),I (if f.any aP=true then 3 else 0)]) rfl fun b h3 nx3 H3 => ?_;refine d4 (l:=[rngE 1 16 [r],if f.any aP=true then 3 else 0]) H3 (k:=0) rfl (fun B=>zps (by simp)) (fun v hv=>by rw [hv];exact .int _ _) ?_;rintro _ rfl;rw [yB,yO,F61.ret];refine hK _ _ _ _ _ H3 (zL rfl) ?_;rw [e0,rng1];by_cases c5:r<1\/16<r
 ·simp [wT,c5]
 ·simp only [wT,c5,if_false,ne_eq,not_true_eq_false];by_cases c6:f.any aP=true <;> simp [c6]
abbrev cM (l:List (List UInt8)):AV:=.lst 1 l.length (l.map .str)
theorem zqs {n:Nat} {f:List Int} (hj:∀ B,JOk Tryz.prog B qW) (hs:∀ m,1<=m->m<=n->SqOk m) (hn:1<=n/\n<=8) (hf:pq n f):∀ i,i<8->∃ g nm,kfn[i]? = some g/\knm[i]? = some nm/\(ktab.drop (i*2)).take 2=[.str nm,.fn g (.of g) []]/\Pure Tryz.prog B g [.agg [I (n:Int),encI f]] (· = .bool ((prs n f).getD i false)):=by
 have hsn:=hs n hn.1 (Zai _);have hlen:f.length<=64:=by rw [hf.len];exact Zbg hn.2 hn.2
 intro i hi
 match i,hi with
 | 0,_=>exact ⟨115,mU,rfl,rfl,rfl,zy8 hj (by omega)⟩
 | 1,_=>exact ⟨116,gE 0,rfl,rfl,rfl,k221 hsn hf⟩
 | 2,_=>exact ⟨118,gE 1,rfl,rfl,rfl,k222 hsn hf⟩
 | 3,_=>exact ⟨119,gE 2,rfl,rfl,rfl,k223 hsn hf⟩
 | 4,_=>exact ⟨120,zi6,rfl,rfl,rfl,zy3 hsn hf⟩
 | 5,_=>exact ⟨121,zqo,rfl,rfl,rfl,zux hsn hf⟩
 | 6,_=>exact ⟨122,zqp,rfl,rfl,rfl,zuz hs hn hf⟩
 | 7,_=>exact ⟨123,kBim,rfl,rfl,rfl,zy9 hsn hf⟩
theorem zu1 {n:Nat} {f:List Int} {i:Nat} (hi:i<8) {nm:List UInt8} (h:knm[i]? = some nm):kf (knm.take (i+1)) ((prs n f).take (i+1))=kf (knm.take i) ((prs n f).take i)++if (prs n f).getD i false then [nm] else []:=by
 have hl:(prs n f).length=8:=rfl;have hb:(prs n f)[i]? = some ((prs n f).getD i false):=by rw [Zaa,List.getElem?_eq_getElem (by omega)];rfl
 rw [Zan,Zan,h,hb,Option.toList_some,Option.toList_some,zkq];rw [Zax,Zax,hl];rfl
theorem zj5 {r:Int} {f:List Int} (hj:∀ B,JOk Tryz.prog B qW) (hs:∀ m:Nat,1<=m->(m:Int)<=r->SqOk m) (hr:r<=8) (hl:f.length<=300) (he:jT r r f=0):Pure Tryz.prog B 20 [.agg [I r,I r,encI f]] (· = .tup [cM (aW r.toNat f),I 0]):=by
  obtain ⟨hr1,hlen,hfar⟩:1<=r/\(f.length:Int)=r*r/\f.any aP=false:=by
    unfold jT at he;by_cases c1:r≠r\/r<0\/1000<r\/(f.length:Int)≠r*r
    · rw [if_pos c1] at he;cases he
    · rw [if_neg c1] at he;by_cases c2:r<1\/16<r
      · rw [if_pos c2] at he;cases he
      · rw [if_neg c2] at he;cases c3:f.any aP with
        | true=>rw [c3] at he;cases he
        | false=>exact ⟨by omega,by omega,rfl⟩
  obtain ⟨n,rfl⟩:∃ n:Nat,r=(n:Int):=⟨r.toNat,by omega⟩;rw [Int.toNat_natCast];have hf:pq n f:=by
    refine ⟨by have:((f.length:Nat):Int)=((n*n:Nat):Int):=by rw [hlen];simp
               omega,fun x hx => ?_⟩
    have:=List.any_eq_false.1 hfar x hx;simp only [aP,Zbq,decide_eq_true_eq] at this;omega
  have hpos:0<f.length:=by rw [hf.len];exact Zbg (show 1<=n by omega) (show 1<=n by omega)
  have hlen64:f.length<=64:=by rw [hf.len];exact Zbg (show n<=8 by omega) (show n<=8 by omega)
  refine yE fun h nx K H0 hK=>zP zR yh 100 fun hf' => ?_;rw [F20.go];refine H0.box (l:=[I (n:Int),I (n:Int),encI f]) rfl fun bx h1 nx1 H1 => ?_;rw [H1.zn (k:=0) (n:=3) rfl rfl];refine zi9 hl _ _ _ _ ?_;rintro _ rfl _;rw [he];simp only [qm,decide_true,Zaf,zJ];refine zqr H1 fun ka h2 nx2 H2 => ?_;simp only [jJ];refine F20.L2 (fun m x5 x10 h' nx'=>∃ (i:Nat) (o:Option Pa),x10=I i/\x5=qx o 1 (kf (knm.take i) ((prs n f).take i)).length/\8-i=m/\i<=8/\Hp h h' nx' [.gro o 1 (kf (knm.take i) ((prs n f).take i)).length ((kf (knm.take i) ((prs n f).take i)).map .str),.arr ka ktab,.arr bx [I (n:Int),I (n:Int),encI f]]) (m:=8) (by omega) ⟨0,none,rfl,rfl,rfl,by omega,H2.aX 1⟩ ?_;rintro m z5 z6 z10 z11 z12 h3 nx3 R ⟨i,o,rfl,rfl,rfl,hi,H3⟩ hR;have e8:(I ((8:Nat):Int))=I 8:=rfl;simp only [jl];by_cases hlt:i<8
  case neg =>
    simp only [show ¬ (i:Int)<((8:Nat):Int) by omega,decide_false,zJ];obtain rfl:i=8:=by omega
    rw [F20.k9];refine hK _ _ _ _ _ H3 (uE (H3.zaf (k:=0) rfl (qcr _)) (zL rfl)) rfl
  simp only [show (i:Int)<((8:Nat):Int) by omega,decide_true,zH];obtain ⟨g,nm,q1,q2,q3,q4⟩:=zqs (B:=B) hj (fun m h1 h2=>hs m h1 (by omega)) (by omega) hf i hlt;have hnext:=zu1 (n:=n) (f:=f) hlt q2;have hkl:=zi7 (knm.take i) ((prs n f).take i);rw [Zax,show knm.length=8 from rfl] at hkl;rw [qH hlt,Zaw,H3.zy7 (k:=1) rfl (by show _<=16;omega) q3];refine H3.alloc fun rb h4 nx4 H4 => ?_;refine H4.qy (l2:=[.str nm,.fn g (.of g) []]) (k:=0) rfl rfl rfl fun h5 H5 => ?_;simp only [sFx];have l1:∀ op:AV->OP,zG (.ptr rb (0+1)) h5 op=op (.fn g (.of g) []):=fun op=>H5.load (k:=0) (i:=0+1) rfl rfl;have l2:∀ op:AV->OP,zG (.ptr bx (0+0)) h5 op=op (I (n:Int)):=fun op=>H5.load (k:=3) (i:=0) rfl rfl;have l3:∀ op:AV->OP,zG (.ptr bx (0+2)) h5 op=op (encI f):=fun op=>H5.load (k:=3) (i:=0+2) rfl rfl;simp only [l1,l2,l3];refine zqq f (by omega) hpos _ _ _ _ ?_;rintro _ rfl _;simp only [l1,l2,l3,zI];rw [show ∀ K:AV->OP,jO [(I 0),.zf] [(0,1,I (n:Int)),(1,1,encI f)] K=K (.agg [I (n:Int),encI f]) from fun K=>zp9 rfl,uN];refine q4 _ _ _ _ ?_;rintro _ rfl _;cases c:(prs n f).getD i false with
  | false =>
    rw [zJ,jk (by omega)];rw [c,if_neg (by simp),Zch] at hnext;exact hR _ _ _ _ _ _ _ _ (by omega) ⟨i+1,o,rfl,by rw [hnext],rfl,by omega,by rw [hnext];exact H5.drop⟩
  | true =>
    rw [zH,H5.load (k:=0) (i:=0) rfl rfl];rw [c,if_pos rfl] at hnext;refine H5.yj (l:=[.str nm]) rfl fun tb h6 nx6 H6 => ?_;refine H6.appN (k:=2) (o:=o) (c:=1) (new:=[.str nm]) rfl (yx.rd (l:=[.str nm]) (n:=1) (H6.own _ (Zam ..)) rfl) rfl rfl (by decide) (by decide) (by omega) fun o' h7 nx7 _ H7 => ?_;rw [jk (by omega)];refine hR _ _ _ _ _ _ _ _ (by omega) ⟨i+1,o',rfl,by rw [hnext,Zat];rfl,rfl,by omega,?_⟩;rw [hnext,Zat,Zbn];exact H7.drop.drop
theorem getS {l:List (List UInt8)} {i:Nat} (h:i<l.length):(l.map AV.str)[i]? = some (.str l[i]):=by rw [List.getElem?_map,List.getElem?_eq_getElem h];rfl
end Go.Ev
namespace Go.Ev
set_option maxRecDepth 100000
def Cst (L:List (List Int)) (f:List Int):Prop:=∀ l∈L,∀ l'∈L,yL l f=yL l' f
theorem zg8 {a:Int}:∀ {S:List Int} {k:Nat},difA a S k<0↔∀ s∈S,s=a
 | [],k=>by simp [difA]
 | x::S,k=>by
  by_cases c:x=a
  ·rw [difA,if_pos c,zg8 (S:=S)];simp [c]
  ·rw [difA,if_neg c];constructor
   ·intro h;omega
   ·intro h;exact absurd (h x (by simp)) c
theorem zqu {L:List (List Int)} {f:List Int}:zdo (xP L f)<0↔Cst L f:=by
 rw [zdo,zg8];constructor
 ·intro h l hl l' hl';have h1:=h (yL l f) (List.mem_map_of_mem hl);have h2:=h (yL l' f) (List.mem_map_of_mem hl');rw [h1,h2]
 ·intro h s hs;obtain ⟨l,hl,rfl⟩:=List.mem_map.1 hs;cases L with
  | nil=>simp at hl
  | cons a L=>exact h l hl a (by simp)
theorem qS {k n:Nat} {f:List Int}:mg k n f=true↔Cst (sqL k n) f:=by rw [mg,decide_eq_true_eq,zqu]
theorem cR {L:List (List Int)} {f:List Int}:(∀ i,i<L.length->yL (L.getD i []) f=yL (L.getD 0 []) f)↔Cst L f:=by
 constructor
 ·intro h l hl l' hl';obtain ⟨i,hi⟩:=List.mem_iff_getElem?.1 hl;obtain ⟨j,hj⟩:=List.mem_iff_getElem?.1 hl';have h1:=h i (List.getElem?_eq_some_iff.1 hi).1;have h2:=h j (List.getElem?_eq_some_iff.1 hj).1;rw [Zaa,hi] at h1;rw [Zaa,hj] at h2;simp only [Option.getD_some] at h1 h2;rw [h1,h2]
 ·intro h i hi;have m:∀ i,i<L.length->L.getD i []∈L:=fun i hi=>by
   rw [Zaa,List.getElem?_eq_getElem hi];exact Zak hi
  exact h _ (m i hi) _ (m 0 (by omega))
theorem zg9 {n:Nat} {f:List Int}:pow2 n f=true↔Cst (sqL 1 n) (sqF f):=by rw [pow2,decide_eq_true_eq,cR]
theorem cG (f:List Int):∀ (l:List Int) (a:Int),l.foldl (fun s c=>s+f.getD c.toNat 0) a=a+(l.map fun c=>f.getD c.toNat 0).sum
 | [],a=>by simp
 | c::l,a=>by rw [Zci,cG f l];simp;omega
theorem wA (l f:List Int):yL l f=(l.map fun c=>f.getD c.toNat 0).sum:=by rw [yL,cG];omega
theorem zmj {a b:List Int} (h:a.Perm b):a.sum=b.sum:=by
 induction h with
 | nil=>rfl
 | cons x _ ih=>simp [ih]
 | swap x y l=>simp;omega
 | trans _ _ h1 h2=>rw [h1,h2]
theorem zja {l l' f:List Int} (h:l.Perm l'):yL l f=yL l' f:=by rw [wA,wA];exact zmj (h.map _)
def pull (N:Nat) (t:Nat->Nat) (f:List Int):List Int:=(List.range N).map fun i=>f.getD (t i) 0
theorem kT (N:Nat) (t:Nat->Nat) (f:List Int):(pull N t f).length=N:=by simp [pull]
theorem zck {N:Nat} {t:Nat->Nat} {f:List Int} {i:Nat} (h:i<N):(pull N t f).getD i 0=f.getD (t i) 0:=by
 rw [pull,Zaa,List.getElem?_map,List.getElem?_range h];rfl
def tIZ (t:Nat->Nat) (c:Int):Int:=(t c.toNat:Int)
def cloB (L:List (List Int)) (N:Nat) (t:Nat->Nat):Bool:=L.all fun l=>(l.all fun c=>decide (0<=c)&&decide (c<(N:Int)))&&L.any fun l'=>(l.map (tIZ t)).isPerm l'
theorem zjb {N:Nat} {t:Nat->Nat} {f l:List Int} (h:∀ c∈l,0<=c/\c<(N:Int)):yL l (pull N t f)=yL (l.map (tIZ t)) f:=by
 rw [wA,wA,Zca]
 congr 1
 refine Zbo fun c hc => ?_;have:=h c hc;rw [zck (by omega)];simp [tIZ]
theorem zha {L:List (List Int)} {N:Nat} {t:Nat->Nat} {f:List Int} (hc:cloB L N t=true) (h:Cst L f):Cst L (pull N t f):=by
 have key:∀ l∈L,∃ l'∈L,yL l (pull N t f)=yL l' f:=by
  intro l hl;have:=List.all_eq_true.1 hc l hl;simp only [Zad,Zae,decide_eq_true_eq,Zbx] at this;obtain ⟨h1,l',hl',h2⟩:=this;exact ⟨l',hl',by rw [zjb h1];exact zja (List.isPerm_iff.1 h2)⟩
 intro l hl l' hl';obtain ⟨a,ha,e1⟩:=key l hl;obtain ⟨b,hb,e2⟩:=key l' hl';rw [e1,e2];exact h a ha b hb
def ascL (n:Nat):List (List Int):=(List.range (n*n)).map fun (i:Nat)=>[(i:Int),((n*n-1-i:Nat):Int)]
def zcl (n r c:Nat):Int:=((r%n*n+c%n:Nat):Int)
theorem wB (n r c:Nat):(zcl n r c).toNat=r%n*n+c%n:=Int.toNat_natCast _
def blkL (n:Nat):List (List Int):=(List.range (n*n)).map fun (i:Nat)=>[zcl n (i / n) (i%n),zcl n (i / n) (i%n+1),zcl n (i / n+1) (i%n),zcl n (i / n+1) (i%n+1)]
def halL (n:Nat):List (List Int):=(List.range (n*n)).map fun (i:Nat)=>[zcl n (i / n) (i%n),zcl n (i / n+n / 2) (i%n+n / 2)]
theorem getD_map {N:Nat} {g:Nat->List Int} {i:Nat} (h:i<N):((List.range N).map g).getD i []=g i:=by
 rw [Zaa,List.getElem?_map,List.getElem?_range h];rfl
theorem zqv {a b:Int} {f:List Int}:yL [a,b] f=f.getD a.toNat 0+f.getD b.toNat 0:=by simp [yL]
theorem zzb {a b c d:Int} {f:List Int}:yL [a,b,c,d] f=f.getD a.toNat 0+f.getD b.toNat 0+f.getD c.toNat 0+f.getD d.toNat 0:=by simp [yL]
theorem zkr {n:Nat} {f:List Int} (hf:f.length=n*n) (hn:0<n):asc n f=true↔Cst (sqL 1 n) f/\Cst (ascL n) f:=by
 rw [asc,Zad,qS,decide_eq_true_eq,<- cR (L:=ascL n)];have hl:(ascL n).length=n*n:=by simp [ascL]
 have hp:0<n*n:=Nat.mul_pos hn hn;have e:∀ i,i<n*n->yL ((ascL n).getD i []) f=f.getD i 0+f.getD (n*n-1-i) 0:=fun i hi=>by
  rw [ascL,getD_map hi,zqv];simp
 rw [hf,hl];constructor
 ·rintro ⟨h1,h2⟩;exact ⟨h1,fun i hi=>by rw [e i hi,e 0 hp];exact h2 i hi⟩
 ·rintro ⟨h1,h2⟩;exact ⟨h1,fun i hi=>by rw [<- e i hi,<- e 0 hp];exact h2 i hi⟩
theorem zhb {n:Nat} {f:List Int} (hf:f.length=n*n) (hn:0<n):mper n f=true↔¬ n%2=1/\Cst (sqL 2 n) f/\Cst (blkL n) f/\Cst (halL n) f:=by
 rw [mper,Zad,Zad,Zad,qS,decide_eq_true_eq,decide_eq_true_eq,<- cR (L:=blkL n),<- cR (L:=halL n),Bool.not_eq_true',decide_eq_false_iff_not];have h1:(blkL n).length=n*n:=by simp [blkL]
 have h2:(halL n).length=n*n:=by simp [halL]
 have hp:0<n*n:=Nat.mul_pos hn hn;have e1:∀ i,i<n*n->yL ((blkL n).getD i []) f=blkN n f i:=fun i hi=>by
  rw [blkL,getD_map hi,zzb,wB,wB,wB,wB];rfl
 have e2:∀ i,i<n*n->yL ((halL n).getD i []) f=halN n f i:=fun i hi=>by
  rw [halL,getD_map hi,zqv,wB,wB];rfl
 rw [hf,h1,h2];constructor
 ·rintro ⟨q1,q2,q3,q4⟩;exact ⟨q1,q2,fun i hi=>by rw [e1 i hi,e1 0 hp];exact q3 i hi,fun i hi=>by rw [e2 i hi,e2 0 hp];exact q4 i hi⟩
 ·rintro ⟨q1,q2,q3,q4⟩;exact ⟨q1,q2,fun i hi=>by rw [<- e1 i hi,<- e1 0 hp];exact q3 i hi,fun i hi=>by rw [<- e2 i hi,<- e2 0 hp];exact q4 i hi⟩
theorem zdp {M N:Nat} {s t:Nat->Nat} {f:List Int} (h:∀ j,j<M->s j<N):pull M s (pull N t f)=pull M (fun j=>t (s j)) f:=by
 rw [pull,pull];refine Zbo fun j hj => ?_;show (pull N t f).getD (s j) 0=_;rw [zck (h j (List.mem_range.1 hj))]
theorem zjc {M:Nat} {s t:Nat->Nat} {f:List Int} (h:∀ j,j<M->s j=t j):pull M s f=pull M t f:=by
 rw [pull,pull];exact Zbo fun j hj=>by rw [h j (List.mem_range.1 hj)]
def iota (n j:Nat):Nat:=(j / (n-2)+1)*n+1+j%(n-2)
theorem zmk {f:List Int} {a m:Nat} (h:a+m<=f.length):(f.drop a).take m=(List.range m).map fun t=>f.getD (a+t) 0:=by
 apply Zau;intro i;by_cases hi:i<m
 ·rw [List.getElem?_take_of_lt hi,List.getElem?_drop,List.getElem?_map,List.getElem?_range hi];show _=some (f.getD (a+i) 0);rw [Zaa,List.getElem?_eq_getElem (show a+i<f.length by omega)];rfl
 ·rw [List.getElem?_eq_none (by simp;omega),List.getElem?_eq_none (by simp;omega)]
theorem cI {n:Nat} {f:List Int} (hf:f.length=n*n) (hn:3<=n):∀ r,r<=n-2->u9 n f r=pull (r*(n-2)) (iota n) f
 | 0,_=>by simp [u9,pull]
 | r+1,h=>by
  have h1:(r+1)*n+n<=n*n:=by
   have:(r+1+1)*n<=n*n:=Zba n (by omega);rw [Zbc (r+1) 1 n,Zcf] at this;exact this
  have e0:(r+1)*(n-2)=r*(n-2)+(n-2):=by rw [Zbc,Zcf]
  rw [dE,cI hf hn r (by omega),e0,pull,pull,List.range_add,Zbn,Zca,zmk (by omega)]
  congr 1
  refine Zbo fun t ht => ?_;have ht:=List.mem_range.1 ht;have e1:(r*(n-2)+t) / (n-2)=r:=by
   rw [Nat.mul_comm,Nat.mul_add_div (by omega),Nat.div_eq_of_lt ht,Zco]
  have e2:(r*(n-2)+t)%(n-2)=t:=by
   rw [Nat.mul_comm,Nat.mul_add_mod,Zbs ht]
  simp only [Function.comp_apply,iota,e1,e2]
theorem kI {n:Nat} {f:List Int} (hf:f.length=n*n) (hn:3<=n):kW n f=pull ((n-2)*(n-2)) (iota n) f:=cI hf hn _ (Zai _)
theorem zks {n j:Nat} (hn:3<=n) (hj:j<(n-2)*(n-2)):iota n j<n*n:=by
 have h1:j / (n-2)<n-2:=Nat.div_lt_of_lt_mul hj;have h2:=Nat.mod_lt j (show 0<n-2 by omega);have:(j / (n-2)+1)*n<=(n-2)*n:=Zba n (by omega);have e:(n-2)*n+n+n=n*n:=by
  have:(n-2+1+1)*n=n*n:=by congr 1;omega
  rw [<- this,Zbc,Zbc,Zcf]
 rw [iota];omega
theorem fP {a b:Bool} (h:a=true↔b=true):a=b:=by cases a <;> cases b <;> simp at h ⊢
def prsT (n:Nat) (f:List Int):List Bool:=[mg 0 n f,mg 1 n f,mg 2 n f,asc n f,mper n f,bord n f,bim n f]
theorem zkt {n:Nat} {f g:List Int} (hn:0<n) (hf:f.length=n*n) (hg:g.length=n*n) (h0:∀ k,k<3->(Cst (sqL k n) g↔Cst (sqL k n) f)) (h1:Cst (ascL n) g↔Cst (ascL n) f) (h2:¬ n%2=1->(Cst (blkL n) g↔Cst (blkL n) f)/\(Cst (halL n) g↔Cst (halL n) f))
  (h3:bord n g=bord n f) (h4:Cst (sqL 1 n) f->(Cst (sqL 1 n) (sqF g)↔Cst (sqL 1 n) (sqF f))):prsT n g=prsT n f:=by
 have e:∀ k,k<3->mg k n g=mg k n f:=fun k hk=>fP (by rw [qS,qS];exact h0 k hk);have e1:asc n g=asc n f:=fP (by rw [zkr hg hn,zkr hf hn,h0 1 (by omega),h1])
 have e2:mper n g=mper n f:=fP (by
  rw [zhb hg hn,zhb hf hn,h0 2 (by omega)];constructor
  ·rintro ⟨a,b,c,d⟩;exact ⟨a,b,(h2 a).1.1 c,(h2 a).2.1 d⟩
  ·rintro ⟨a,b,c,d⟩;exact ⟨a,b,(h2 a).1.2 c,(h2 a).2.2 d⟩)
 have e3:bim n g=bim n f:=fP (by
  rw [bim,bim,Zad,Zad,qS,qS,zg9,zg9,h0 1 (by omega)];constructor
  ·rintro ⟨a,b⟩;exact ⟨a,(h4 a).1 b⟩
  ·rintro ⟨a,b⟩;exact ⟨a,(h4 a).2 b⟩)
 rw [prsT,prsT,e 0 (by omega),e 1 (by omega),e 2 (by omega),e1,e2,h3,e3]
theorem wN (c:Int) (l f:List Int):yL (c::l) f=f.getD c.toNat 0+yL l f:=by rw [wA,wA];rfl
def uniB (L:List (List Int)) (N w:Nat):Bool:=L.all fun l=>decide (l.length=w)&&l.all fun c=>decide (0<=c)&&decide (c<(N:Int))
theorem zqw {L:List (List Int)} {N w:Nat} (h:uniB L N w=true):∀ l∈L,l.length=w/\∀ c∈l,0<=c/\c<(N:Int):=fun l hl=>by
 have:=List.all_eq_true.1 h l hl;simp only [Zad,Zae,decide_eq_true_eq] at this;exact this
def uniA (n:Nat):Bool:=uniB (sqL 0 n) (n*n) n&&uniB (sqL 1 n) (n*n) n&&uniB (sqL 2 n) (n*n) n&&uniB (ascL n) (n*n) 2&&uniB (blkL n) (n*n) 4&&uniB (halL n) (n*n) 2
theorem uni6:((List.range 6).all fun m=>uniA (m+1))=true:=by decide +kernel
structure zqx (n:Nat):Prop where
 sq:∀ k,k<3->uniB (sqL k n) (n*n) n=true
 asc:uniB (ascL n) (n*n) 2=true
 blk:uniB (blkL n) (n*n) 4=true
 hal:uniB (halL n) (n*n) 2=true
theorem zu3 {n:Nat} (h1:1<=n) (h2:n<=6):zqx n:=by
 have h:=List.all_eq_true.1 uni6 (n-1) (List.mem_range.2 (by omega));rw [show n-1+1=n by omega] at h;simp only [uniA,Zad] at h;obtain ⟨⟨⟨⟨⟨a1,a2⟩,a3⟩,a4⟩,a5⟩,a6⟩:=h;refine ⟨fun k hk => ?_,a4,a5,a6⟩
 match k,hk with
 | 0,_=>exact a1
 | 1,_=>exact a2
 | 2,_=>exact a3
end Go.Ev
namespace Go.Ev
open Go Go.Proofs
set_option maxRecDepth 100000
theorem qcs:ok65 26 0=true:=by kernel_rfl
theorem qct:ok65 26 1=true:=by kernel_rfl
theorem qcu:ok65 26 2=true:=by kernel_rfl
end Go.Ev
namespace Go.Ev
open Go
def OrbR (p:List (List Int)) (i j:Nat):Prop:=∃ row∈p,row.getD i 0=(j:Int)
theorem OrbR.lt {p:List (List Int)} {m i j:Nat} (h:PlOk p m) (hi:i<m) (ho:OrbR p i j):j<m:=by
 obtain ⟨row,hr,e⟩:=ho;obtain ⟨h1,h2⟩:=h row hr;have hx:row[i]? = some (row.getD i 0):=by rw [Zaa,List.getElem?_eq_getElem (by omega)];rfl
 have:=h2 _ (Zab hx);omega
section
variable {p:List (List Int)} {m:Nat}
end
end Go.Ev
namespace Go.Ev
open Go Go.Proofs
variable {B:Nat}
structure LsOk (G:List Sym) (l:List (List Int)) (n:Nat):Prop where
 gr:aN G n
 len:l.length<=1024
 ord:Ord l
 fl:∀ f∈l,f.length=n/\∀ x∈f, -999999999<=x/\x<=999999999
 cl:∀ g∈G,∀ f∈l,yG g.2 g.1 f∈l
theorem Hp.pre {h0 h:T Blk} {nx:Pa} {L:List Ob}:∀ (Y:List Ob),Hp h0 h nx (Y++L)->Hp h0 h nx L
 | [],H=>H
 | _::Y,H=>Hp.pre Y H.drop
theorem at_len {α:Type} (Y:List α) (x:α) (L:List α):(Y++x::L)[Y.length]? = some x:=by
 rw [List.getElem?_append_right (Zai _),Nat.sub_self];rfl
theorem mH {α:Type} (Y:List α) (x y:α) (L:List α):(Y++x::L).set Y.length y=Y++y::L:=by
 rw [List.set_append,if_neg (Nat.lt_irrefl _),Nat.sub_self];rfl
theorem qcv {N:Nat} {O:yu Prop} {K:Ks Prop} {tm:T AV} {tmf:AV->AV->T AV} {f:Arg} {ps:List Pa} {a b:IR} {l:List Sym} {h0 h:T Blk} {nx:Pa} {L:List Ob}
  (H:Hp h0 h nx L) (hf:f.ev ⟨tm,[]⟩=.fn 144 (.of 144) [.fp [vw l]]) (hb:∀ (v w:AV) (k:T AV->OP),yP ps [v,w] tm k=k (tmf v w)) (hl:l.length<=1000000)
  (J:Nat->List Ob->Prop) (X:List Ob->Prop) (XE:Nat->List Ob->Prop) (hJ:J 0 L)
  (round:∀ (i:Nat) (x:Sym) (R R':Ob) (h:T Blk) (nx:Pa) (L':List Ob) (M E:Ks Prop) (O1 O2:yu Prop),l[i]? = some x->J i L'->Hp h0 h nx (R::L') ->
   (∀ tm' h nx Y,Hp h0 h nx (Y++R::L')->(∀ h',Hp h0 h' nx (Y++R'::L')->IR.run b (CS Tryz.prog B) N O1 E tm' h' nx=.ok True)->M tm' h nx=.ok True) ->
   (∀ tm' h nx Y L'',J (i+1) L''->Hp h0 h nx (Y++R'::L'')->E tm' h nx=.ok True) ->
   (∀ tm' h nx Y L'',X L''->Hp h0 h nx (Y++R'::L'')->O1.rt tm' h nx=.ok True) ->
   (∀ e tm' h nx Y L'',XE e L''->Hp h0 h nx (Y++R'::L'')->O1.ex e tm' h nx=.ok True) ->
   IR.run a (CS Tryz.prog B) N O2 M (tmf (I i) (encS x)) h nx=.ok True)
  (hK:∀ h' nx' L',J l.length L'->Hp h0 h' nx' L'->K tm h' nx'=.ok True)
  (hRt:∀ h' nx' L',X L'->Hp h0 h' nx' L'->O.rt tm h' nx'=.ok True)
  (hEx:∀ e h' nx' L',XE e L'->Hp h0 h' nx' L'->O.ex e tm h' nx'=.ok True) :
  IR.run (.rf f ps a b) (CS Tryz.prog B) N O K tm h nx=.ok True:=by
 refine H.rf hf fun id h1 nx1 H1 => ?_
 refine zev (fun i L'=>∃ L'',J i L''/\L'=.raw id (.loop .ready .none tm ps a b)::L'')
  (fun L'=>∃ L'' j,((j=Jump.ret/\X L'')\/∃ e,j=Jump.exit e/\XE e L'')/\L'=.raw id (.loop .done j tm ps a b)::L'') hl ⟨L,hJ,rfl⟩ H1 (fun i x h nx L' K' hx hJ' H' hj hs => ?_) fun h' nx' L' hJX H' => ?_
 ·obtain ⟨L2,hJ2,rfl⟩:=hJ';refine m9 (fns:=tbl) yh N fun hf => ?_;rw [zdy (vL H' (k:=0) rfl) (tm1:=tmf (I i) (encS x)) (hb _ _)];refine round i x _ (.raw id (.loop .busy .none tm ps a b)) _ _ _ _ (yZ id K' .none true) (rO id K') _ hx hJ2 H' (fun tm' h nx Y HY hc => ?_) (fun tm' h nx Y L3 hJ3 HY => ?_) (fun tm' h nx Y L3 hJ3 HY => ?_) fun e tm' h nx Y L3 hJ3 HY => ?_
  ·rw [zel (vL HY (k:=Y.length) (at_len _ _ _))];have HZ:=HY.zes (k:=Y.length) (at_len _ _ _) (b':=.loop .busy .none tm ps a b) (by intro e;cases e);rw [mH] at HZ;exact hc _ HZ
  ·refine HY.rend (k:=Y.length) (at_len _ _ _) fun h' H2 => ?_;rw [mH] at H2;exact hj _ _ _ ⟨L3,hJ3,rfl⟩ (Hp.pre Y H2)
  ·show yZ id K' .ret false tm' h nx=_;refine HY.rend (k:=Y.length) (at_len _ _ _) fun h' H2 => ?_;rw [mH] at H2;exact hs _ _ _ ⟨L3,.ret,.inl ⟨rfl,hJ3⟩,rfl⟩ (Hp.pre Y H2)
  ·show yZ id K' (.exit e) false tm' h nx=_;refine HY.rend (k:=Y.length) (at_len _ _ _) fun h' H2 => ?_;rw [mH] at H2;exact hs _ _ _ ⟨L3,.exit e,.inr ⟨e,rfl,hJ3⟩,rfl⟩ (Hp.pre Y H2)
 ·rcases hJX with ⟨L2,hJ2,rfl⟩ | ⟨L2,j,hj,rfl⟩
  ·refine H'.tq fun h15 H15 => ?_;rw [mL];exact hK _ _ _ hJ2 H15
  ·refine H'.tq fun h15 H15 => ?_;rcases hj with ⟨rfl,hX⟩ | ⟨e,rfl,hX⟩
   ·rw [bL];exact hRt _ _ _ hX H15
   ·rw [zid];exact hEx _ _ _ _ hX H15
end Go.Ev
namespace Go.Ev
open Go Go.Proofs
variable {B:Nat}
set_option maxRecDepth 100000
theorem zhc {g f:List Int} {c:Bool} (hl:f.length<=1000) (hg:g.length=f.length) (hp:rW g) (hf:∀ x∈f, -1000000000<=x/\x<=1000000000):Pure Tryz.prog B 65 [.agg [encI g,.bool c],encI f] (· = encI (yG c g f)):=by
 refine yE fun h nx K H0 hK=>zP zR yh 10000 fun hf' => ?_;rw [F65.go,F65.t25,zC,F65.rM];refine H0.box (l:=[encI g,.bool c]) rfl fun bx h1 nx1 H1 => ?_;rw [F65.t24,zC,F65.rP,zO];refine H1.mk1 f.length rfl rfl (by omega) (by decide) fun tb h2 nx2 H2 => ?_;rw [F65.t23,zC,F65.t20,zC,F65.rF,zO];have e0:List.replicate f.length (I 0)=(xO f.length c g f 0).map I:=by simp [xO]
 rw [e0] at H2;rw [F65.t19,jH]
 refine F65.zz2 (fun m x9 h' nx'=>∃ i:Nat,x9=I i/\m=f.length-i/\i<=f.length/\Hp h h' nx' [.arr tb ((xO f.length c g f i).map I),.arr bx [encI g,.bool c]]) (m:=f.length) (by omega)
  ⟨0,rfl,by omega,by omega,H2⟩ ?_
 rintro m z5 z6 z9 z10 z11 h3 nx3 R ⟨i,rfl,rfl,hi,H3⟩ hR;rw [F65.t17,zC,F65.aF,jl];by_cases hlt:i<f.length
 case neg =>
  rw [decide_eq_false (by omega),F65.t16,zC,F65.t4,yA,F65.v10,zJ,qG,vP,F65.t22,zC,F65.zm5,yB,yO,F65.ret];obtain rfl:i=f.length:=by omega
  have hal:=uI f.length c g f f.length;refine hK _ _ _ _ _ H3 (H3.zae (k:=0) rfl (Zai _) (by simp [hal]) qcc) ?_;show _=AV.lst 1 _ _;rw [yG,hal]
 rw [decide_eq_true (by omega),F65.t16,zC,F65.t4,yA,F65.v10,zH,yH];have hx:f[i]? = some f[i]:=List.getElem?_eq_getElem hlt;have hgx:g[i]? = some g[i]:=List.getElem?_eq_getElem (by omega);have hgb:=hp.2 _ (Zak (show i<g.length by omega));have hfb:=hf _ (Zak hlt);have hfd:f.getD i 0=f[i]:=by rw [Zaa,hx];rfl
 have hgd:g.getD i 0=g[i]:=by rw [Zaa,hgx];rfl
 rw [F65.t15,zC,F65.t13,jH,F65.t12,zC,F65.t5_s,xu rfl hlt,ldL (fD hx),F65.t11,zC,F65.t9,zC,F65.aJ,sFx,H3.load (k:=1) (i:=0+1) rfl rfl,F65.t8,yA,F65.v11];cases c with
 | true =>
  rw [zH,F65.t7_s,zO,jk (by omega),sD (by omega),F65.aZ,sFx,H3.load (k:=1) (i:=0) rfl rfl,xu rfl (by omega),ldL (fD hgx),sIx (i:=(g[i]).toNat) (by omega) (by omega)];refine H3.store (k:=0) rfl (by rw [Zas,uI];omega) rfl fun h4 H4 => ?_;rw [F65.zcv,jk (by omega)];refine hR _ _ _ _ _ _ _ _ (by omega) ⟨i+1,rfl,rfl,by omega,H4.cast ?_⟩;rw [xH,hfd,hgd];simp [List.map_set,xOf]
 | false =>
  rw [zJ,yH,F65.aZ,sFx,H3.load (k:=1) (i:=0) rfl rfl,xu rfl (by omega),ldL (fD hgx),sIx (i:=(g[i]).toNat) (by omega) (by omega)];refine H3.store (k:=0) rfl (by rw [Zas,uI];omega) rfl fun h4 H4 => ?_;rw [F65.zcv,jk (by omega)];refine hR _ _ _ _ _ _ _ _ (by omega) ⟨i+1,rfl,rfl,by omega,H4.cast ?_⟩;rw [xH,hfd,hgd];simp [List.map_set,xOf]
def rE (x:Int):Bool:=decide (x < -999999999)||decide (999999999<x)
def uJ (f:List Int):Int:=if f.any rE then 3 else 0
def gY (f:List Int):Int:=if 256<f.length then 5 else uJ f
theorem zjd (x:Int):Pure Tryz.prog B 67 [I x] (· = .bool (rE x)):=by
 refine yE fun h nx K H0 hK=>zP zR yh 100 fun hf' => ?_;rw [F67.go,F67.t3,zC,F67.rM,F67.t2,zC,F67.rP,jl];by_cases c:x < -999999999
 ·simp only [c,decide_true,yY,zZ];simp only [yB,yH,xM,yO,F67.ret];exact hK _ _ _ _ _ H0 (zL rfl) (by simp [rE,c])
 ·simp only [c,decide_false,yQ,xk,zW];simp only [yB,yH,xM,yO,F67.ret];exact hK _ _ _ _ _ H0 (zL rfl) (by simp [rE,c])
theorem zzc {h:T Blk} {nx:Pa} {f:List Int} {K:Kw Prop} {p q:Pa} (hl:f.length<=1000000) (hfr:Fr h nx) (hK:K (.bool (f.any rE)) h nx=.ok True):(CS Tryz.prog B).fn 66 p [encI f,.fn 67 q []] h nx K=.ok True :=
 m6 hl (fun x _ K hK=>zjd x _ _ _ _ fun v hv _=>by rw [hv];exact hK) hK
theorem zku {f:List Int} (hl:f.length<=1000000):Pure Tryz.prog B 63 [encI f] (· = I (gY f)):=by
 refine yE fun h nx K H0 hK=>zP zR yh 100 fun hf' => ?_;rw [F63.go,F63.t3,zC,F63.rM,F63.t2,zC,F63.rP,zO,xk]
 (refine wZ _ _ _ _ _ _ ?_;rintro _ rfl _)
 refine zzc hl hf' ?_
 (refine wZ _ _ _ _ _ _ ?_;rintro _ rfl _)
 refine H0.yj (l:=[I (if decide ((256:Int)<(f.length:Int))=true then 5 else 0),I (if f.any rE=true then 3 else 0)]) rfl fun tb h1 nx1 H1 => ?_;refine d4 (l:=[if decide ((256:Int)<(f.length:Int))=true then 5 else 0,if f.any rE=true then 3 else 0]) H1 (k:=0) rfl (fun B=>zca (by simp)) (fun v hv=>by rw [hv];exact .int _ _) ?_;rintro _ rfl;simp only [yB,yH,xM,yO,F63.ret];refine hK _ _ _ _ _ H1 (zL rfl) ?_;rw [gY,uJ];by_cases c:256<f.length
 ·rw [if_pos c,if_pos (by simp;omega)];rfl
 ·rw [if_neg c,if_neg (by simp;omega)];cases f.any rE <;> rfl
theorem zqy {f:List Int} {p:Int->Bool} {i:Nat} (h:i<f.length):(f.drop i).any p=(p f[i]||(f.drop (i+1)).any p):=by rw [Zar h];rfl
theorem zu4 {f:List Int} (hl:f.length<=1000000):Pure Tryz.prog B 54 [encI f] (· = I (uJ f)):=by
 refine yE fun h nx K H0 hK=>zP zR yh 10000000 fun hf' => ?_;rw [F54.go,F54.t20,zC,F54.rM,F54.t19,zC,F54.t16,zC,F54.rP,F54.t15,jH];refine F54.zz3 (fun m x2 h' nx'=>∃ i:Nat,x2=I i/\m=f.length-i/\i<=f.length/\f.any rE=(f.drop i).any rE/\Hp h h' nx' []) (m:=f.length) (by omega) ⟨0,rfl,by omega,by omega,rfl,H0⟩ ?_;rintro m z1 z2 z3 z4 h3 nx3 R ⟨i,rfl,rfl,hi,ha,H3⟩ hR;rw [F54.t13,zC,F54.t4,zC,F54.rF,zO,jl];by_cases hlt:i<f.length
 case neg =>
  rw [decide_eq_false (by omega),F54.t3,yA,F54.v3,zJ,qG,vP,F54.t18,zC,F54.oh,yB,yO,F54.ret];refine hK _ _ _ _ _ H3 (zL rfl) ?_;rw [uJ,ha,Zbk (by omega)];rfl
 rw [decide_eq_true (by omega),F54.t3,yA,F54.v3,zH,yH];have hx:f[i]? = some f[i]:=List.getElem?_eq_getElem hlt;rw [F54.t12,zC,F54.t10,jH,F54.t9,zC,F54.t5_s,F54.r3_0,F54.zw9,xu rfl hlt,ldL (fD hx),jl];have hd:=zqy (p:=rE) hlt;by_cases c:f[i] < -999999999
 ·simp only [c,decide_true,yY];rw [F54.r3_1,F54.zm6];simp only [yY,zZ];rw [F54.t8,yA,F54.v4,zH,F54.t7,zC,F54.aJ];simp only [yB,xM,yO];rw [F54.ret];exact hK _ _ _ _ _ H3 (zL rfl) (by rw [uJ,ha,hd];simp [rE,c])
 ·simp only [c,decide_false,yQ];rw [F54.r3_1,F54.zm6];simp only [yQ];rw [xu rfl hlt,ldL (fD hx),xk,zW,F54.t8,yA,F54.v4];by_cases c2:999999999<f[i]
  ·rw [decide_eq_true c2,zH,F54.t7,zC,F54.aJ];simp only [yB,xM,yO];rw [F54.ret];exact hK _ _ _ _ _ H3 (zL rfl) (by rw [uJ,ha,hd];simp [rE,c2])
  ·rw [decide_eq_false c2,zJ,yH,F54.zau,jk (by omega)];refine hR _ _ _ _ _ _ _ (by omega) ⟨i+1,rfl,rfl,by omega,?_,H3⟩;rw [ha,hd];simp [rE,c,c2]
theorem zzd {f:List Int} (hl:f.length<=1000000):Pure Tryz.prog B 17 [encI f] (· = I (gY f)):=by
 refine yE fun h nx K H0 hK=>zP zR yh 100 fun hf' => ?_;rw [F17.go,F17.t9,zC,F17.rM,F17.t8,zC,F17.t5,zC,F17.rP,zO,xk,F17.t4,yA,F17.v2];by_cases c:256<f.length
 ·rw [decide_eq_true (by omega),zH,F17.t3,zC,F17.rF];simp only [yB,yO];rw [F17.ret];exact hK _ _ _ _ _ H0 (zL rfl) (by rw [gY,if_pos c])
 ·rw [decide_eq_false (by omega),zJ,yH,F17.t7,zC,F17.aJ]
  (refine zu4 hl _ _ _ _ ?_;rintro _ rfl _)
  simp only [yB,yO];rw [F17.ret];exact hK _ _ _ _ _ H0 (zL rfl) (by rw [gY,if_neg c])
theorem zdq {f:List Int} (h:gY f=0):f.length<=256/\∀ x∈f, -999999999<=x/\x<=999999999:=by
 unfold gY uJ at h;split at h
 ·omega
 split at h
 ·omega
 rename_i c1 c2;refine ⟨by omega,fun x hx => ?_⟩;have:=List.any_eq_false.1 (Bool.eq_false_iff.2 c2) x hx;simp [rE] at this;omega
theorem zcm {q:List Sym}:∀ v∈jF q,rD v=true:=fun v hv=>by
 obtain ⟨x,_,hx⟩:=List.mem_flatMap.1 hv;simp only [Zah,List.not_mem_nil,or_false] at hx;rcases hx with rfl | rfl
 ·exact uH _
 ·rfl
end Go.Ev
namespace Go.Ev
section
variable {G S:List Sym} {n:Nat}
end
end Go.Ev
namespace Go.Ev
theorem zdr {α:Type} [DecidableEq α]:∀ (l r:List α),l.Nodup->(∀ x∈l,x∈r)->∃ s,r.Perm (l++s)
 | [],r,_,_=>⟨r,.refl _⟩
 | a::l,r,hn,hs=>by
  obtain ⟨h1,h2⟩:=List.nodup_cons.1 hn;have ha:=hs a (by simp);obtain ⟨s,hp⟩:=zdr l (r.erase a) h2 fun x hx=>(List.mem_erase_of_ne (by rintro rfl;exact h1 hx)).2 (hs x (by simp [hx]));exact ⟨s,(List.perm_cons_erase ha).trans (.cons a hp)⟩
theorem zhd {α:Type} [DecidableEq α] {l r:List α} (h1:l.Nodup) (h2:∀ x∈l,x∈r) (h3:r.length<=l.length):r.Perm l:=by
 obtain ⟨s,hs⟩:=zdr l r h1 h2;have hl:=hs.length_eq;obtain rfl:s=[]:=Zbe (by rw [Zat] at hl;omega);simpa using hs
theorem zml {α:Type} {l:List α} (h:l.Nodup) {i j:Nat} {x:α} (hi:l[i]? = some x) (hj:l[j]? = some x):i=j:=by
 obtain ⟨a1,a2⟩:=List.getElem?_eq_some_iff.1 hi;obtain ⟨b1,b2⟩:=List.getElem?_eq_some_iff.1 hj;have hp:=List.pairwise_iff_getElem.1 h;rcases Nat.lt_trichotomy i j with c | c | c
 ·exact absurd (a2.trans b2.symm) (hp i j a1 b1 c)
 ·exact c
 ·exact absurd (b2.trans a2.symm) (hp j i b1 a1 c)
theorem getD_some {l:List Int} {i:Nat} (h:i<l.length):l[i]? = some (l.getD i 0):=by
 rw [Zaa,List.getElem?_eq_getElem h];rfl
theorem rW.surj {g:List Int} (h:rW g) {j:Nat} (hj:j<g.length):∃ i,i<g.length/\g[i]? = some (j:Int):=by
 have hp:((List.range g.length).map fun (i:Nat)=>(i:Int)).Perm g:=zhd h.1 (fun x hx=>by
  have:=h.2 x hx;exact List.mem_map.2 ⟨x.toNat,List.mem_range.2 (by omega),by omega⟩) (by simp)
 have hm:(j:Int)∈g:=hp.mem_iff.1 (List.mem_map.2 ⟨j,List.mem_range.2 hj,rfl⟩);obtain ⟨i,hi⟩:=List.mem_iff_getElem?.1 hm;exact ⟨i,(List.getElem?_eq_some_iff.1 hi).1,hi⟩
theorem zcn {n:Nat} {c:Bool} {g f:List Int} (hg:rW g) (hgn:g.length=n):∀ (i k:Nat),i<=n->k<i->(xO n c g f i)[(g.getD k 0).toNat]? = some (xOf n c (f.getD k 0))
 | 0,k,_,h=>by omega
 | i+1,k,hi,h=>by
  rw [xH];have hk:=hg.2 _ (Zab (getD_some (l:=g) (i:=k) (by omega)));have hi':=hg.2 _ (Zab (getD_some (l:=g) (i:=i) (by omega)));by_cases e:k=i
  ·subst e;rw [List.getElem?_set,if_pos rfl,if_pos (by rw [uI];omega)]
  ·rw [List.getElem?_set_ne,zcn hg hgn i k (by omega) (by omega)];intro q;have e1:g.getD i 0=g.getD k 0:=by omega
   have:=zml hg.1 (getD_some (l:=g) (i:=i) (by omega)) (e1 ▸ getD_some (l:=g) (i:=k) (by omega));omega
theorem zje {c:Bool} {g f:List Int} (hg:rW g) (hgn:g.length=f.length) {k:Nat} (h:k<f.length):(yG c g f)[(g.getD k 0).toNat]? = some (xOf f.length c (f.getD k 0)):=zcn hg hgn _ k (Zai _) h
theorem Nrm.surj {f:List Int} (h:Nrm f) {j:Nat} (hj:j<f.length):∃ i,i<f.length/\(f.getD i 0-1).toNat=j:=by
 have hm:(j:Int)+1∈f:=by
  have h1:=(mO f).2 h;have:(j:Int)+1∈srt f:=by rw [h1];exact List.mem_map.2 ⟨j,List.mem_range.2 hj,rfl⟩
  exact (wH f).mem_iff.1 this
 obtain ⟨i,hi⟩:=List.mem_iff_getElem?.1 hm;refine ⟨i,(List.getElem?_eq_some_iff.1 hi).1,?_⟩;rw [Zaa,hi];simp
end Go.Ev
namespace Go.Ev
open Go Go.Proofs
theorem LsOk.of {G:List Sym} {l:List (List Int)} (h:zp0 G l=0):∃ n:Nat,dJ G=(n:Int)/\LsOk G l n:=by
 obtain ⟨e1,e2,e3,e4⟩:=zp7 h;obtain ⟨n,hn,hg⟩:=d6 e1;obtain ⟨f1,f2,_⟩:=zpz e3
 exact ⟨n,hn,hg,e2,f2,fun f hf=>by
  obtain ⟨q1,q2⟩:=ziv (f1 f hf);exact ⟨by omega,q2⟩,e4⟩
theorem gL (c:Bool) (g f:List Int):(yG c g f).length=f.length:=uI _ _ _ _ _
theorem zu5 (n:Nat) (a b:Bool) (x:Int):xOf n a (xOf n b x)=xOf n (a != b) x:=by
 cases a <;> cases b <;> simp [xOf] <;> omega
theorem DP.surj {n:Nat} {a:Sym} (ha:DP n a) {j:Nat} (hj:j<n):∃ i,i<n/\a.1.getD i 0=(j:Int):=by
 have h1:=ha.1.1;obtain ⟨i,hi,e⟩:=ha.perm.surj (show j<a.1.length by omega);exact ⟨i,by omega,by rw [Zaa,e];rfl⟩
theorem wD {n:Nat} {a:Sym} (ha:DP n a) {f:List Int} (hf:f.length=n) {k:Nat} (hk:k<n):(yG a.2 a.1 f)[(a.1.getD k 0).toNat]? = some (xOf n a.2 (f.getD k 0)):=by
 have h1:=ha.1.1;have:=zje (c:=a.2) ha.perm (show a.1.length=f.length by omega) (show k<f.length by omega);rw [hf] at this;exact this
theorem mB {n:Nat} {a b:Sym} (ha:DP n a) (hb:DP n b) {f:List Int} (hf:f.length=n):yG (jD a b).2 (jD a b).1 f=yG a.2 a.1 (yG b.2 b.1 f):=by
 have hc:=(pX n).dm a b ha hb;have hl:=gL b.2 b.1 f;refine vB (n:=n) (by rw [gL,hf]) (by rw [gL,gL,hf]) fun j hj => ?_;obtain ⟨i,hi,e⟩:=hc.surj hj;have g1:=wD hc hf hi;obtain ⟨_,b1,b2⟩:=hb.1.get hi;have hk:(b.1.getD i 0).toNat<n:=by omega
 have g2:=wD hb hf hi;have g3:=wD ha (show (yG b.2 b.1 f).length=n by omega) hk;rw [Zaa (l:=yG b.2 b.1 f),g2] at g3;have e2:a.1.getD (b.1.getD i 0).toNat 0=(j:Int):=by
  rw [<- e,Zaa (l:=(jD a b).1),kJ hb.1 hi];rfl
 rw [e2,Int.toNat_natCast] at g3;rw [e,Int.toNat_natCast] at g1;rw [g1,g3]
 congr 1
 exact (zu5 n a.2 b.2 _).symm
theorem zqz {n:Nat} {f:List Int} (hf:f.length=n):yG (idS n).2 (idS n).1 f=f:=by
 have hd:=(pX n).de;refine vB (n:=n) (by rw [gL,hf]) hf fun j hj => ?_;have e:(idS n).1.getD j 0=(j:Int):=by
  show ((List.range n).map fun j:Nat=>(j:Int)).getD j 0=_;rw [Zaa,List.getElem?_map,List.getElem?_range hj];rfl
 have:=wD hd hf hj;rw [e,Int.toNat_natCast] at this;rw [this,Zaa,List.getElem?_eq_getElem (by omega)];rfl
theorem aN.linv {G:List Sym} {n:Nat} (h:aN G n) {a:Sym} (ha:a∈G):∃ b∈G,jD b a=idS n:=by
 have L:=pX n;obtain ⟨b,hb,e1⟩:=h.inv a ha;obtain ⟨c,hc,e2⟩:=h.inv b hb;have da:=h.dp a ha;have db:=h.dp b hb;have dc:=h.dp c hc;have:a=c:=by
  have:=L.assoc a b c da db dc;rw [e1,e2,L.el c dc,L.er a da] at this;exact this.symm
 exact ⟨b,hb,by rw [this];exact e2⟩
section
variable {G:List Sym} {l:List (List Int)} {n:Nat}
end
end Go.Ev
namespace Go.Ev
abbrev AscS (l:List Sym):Prop:=l.Pairwise fun a b=>aY a b=true
theorem AscS.nd {l:List Sym} (h:AscS l):l.Nodup:=h.imp fun hab e=>by rw [e,zgx] at hab;cases hab
end Go.Ev
namespace Go.Ev
open Go Go.Proofs
variable {B:Nat}
set_option maxRecDepth 100000
theorem zu6 {P:Program} {f:Nat} {p:Pa} {args args':List AV} {h:T Blk} {nx:Pa} {K:Kw Prop} (hv:∀ (E:Env) (vs:List Value),VRL E args vs->VRL E args' vs) (hk:(CS P B).fn f p args' h nx K=.ok True):(CS P B).fn f p args h nx K=.ok True:=by
 rw [tJ] at hk ⊢;exact ⟨fun E w vs H hv'=>hk.1 E w vs H (hv _ _ hv'),rfl⟩
theorem zu7 {E:Env} {e:Nat} {vv:Value} (h:VR E .zf vv):VR E (.lst e 0 []) vv:=by
 simp only [VR] at h ⊢;exact ⟨rfl,by simp,none,0,h,.inl (by simp)⟩
theorem zjf (q:List Sym):(jF q).all jc=true:=List.all_eq_true.2 fun v hv=>rD.jc (zcm v hv)
def LG (v:AV) (l:List Sym):Prop:=(v=.zf/\l=[])\/(v=vw l/\l≠[])
theorem LG.len {v:AV} {l:List Sym} (h:LG v l) {op:AV->OP}:sLen v op=op (I l.length):=by
 rcases h with ⟨rfl,rfl⟩ | ⟨rfl,_⟩
 ·exact yU
 ·exact zO ..
theorem LG.frz {v:AV} {l:List Sym} (h:LG v l) {N:Pa->Prop} {O:AV->Prop} {hh:T Blk}:Frz True N O hh v (vw l):=by
 rcases h with ⟨rfl,rfl⟩ | ⟨rfl,_⟩
 ·exact .zbr 2
 ·exact zL (zdh _)
theorem LG.call {P:Program} {f:Nat} {p:Pa} {v:AV} {rest:List AV} {l:List Sym} (h:LG v l) {hh:T Blk} {nx:Pa} {K:Kw Prop} (hk:(CS P B).fn f p (vw l::rest) hh nx K=.ok True):(CS P B).fn f p (v::rest) hh nx K=.ok True:=by
 rcases h with ⟨rfl,rfl⟩ | ⟨rfl,_⟩
 ·refine zu6 (fun E vs hv => ?_) hk;simp only [VRL] at hv ⊢;obtain ⟨a,m,q,r,s⟩:=hv;exact ⟨a,m,q,zu7 r,s⟩
 ·exact hk
end Go.Ev
namespace Go.Ev
open Go.Proofs (jm gM kV kG j7)
abbrev AscT (l:List (List Int)):Prop:=l.Pairwise fun a b=>jC a b=true
theorem zco (a:List Int):jC a a=false:=by rw [kH,kG];rfl
theorem zmm {a b:List Int} (h:jC a b=true):jC b a=false:=by
 rw [kH] at h ⊢;have:=of_decide_eq_true h;have:=gM a b;exact decide_eq_false (by omega)
theorem zjg {a b:List Int} (h:a≠b) (h2:jC a b=false):jC b a=true:=by
 rw [kH] at h2 ⊢;have n1:=gM a b;have e:¬ jm a b<0:=fun q=>by simp [q] at h2
 have e2:jm a b≠0:=fun q=>h (kV q);exact decide_eq_true (by omega)
def cH (l:List (List Int)) (f:List Int):List (List Int):=if f∈l then l else l.takeWhile (jC · f)++f::l.dropWhile (jC · f)
def qB (l:List (List Int)):List (List Int):=l.foldl cH []
theorem zmn {l:List (List Int)} {a x:List Int}:x∈cH l a↔x=a\/x∈l:=by
 unfold cH;split
 ·rename_i h;exact ⟨.inr,fun q=>q.elim (fun e=>e ▸ h) id⟩
 ·have:=List.takeWhile_append_dropWhile (p:=(jC · a)) (l:=l)
  conv=>rhs;rw [<- this]
  simp only [Zav,Zah];constructor
  ·rintro (h | h | h)
   ·exact .inr (.inl h)
   ·exact .inl h
   ·exact .inr (.inr h)
  ·rintro (h | h | h)
   ·exact .inr (.inl h)
   ·exact .inl h
   ·exact .inr (.inr h)
theorem zmo {l:List (List Int)} {a:List Int} (h:AscT l):AscT (cH l a):=by
 unfold cH;split
 ·exact h
 ·rename_i h0;have e:=List.takeWhile_append_dropWhile (p:=(jC · a)) (l:=l);have h':=h;rw [<- e] at h';obtain ⟨h1,h2,h3⟩:=List.pairwise_append.1 h';have ht:∀ x∈l.takeWhile (jC · a),jC x a=true:=fun x hx=>(List.all_eq_true.1 (List.all_takeWhile (p:=(jC · a)) (l:=l))) x hx;have hd:∀ x∈l.dropWhile (jC · a),jC a x=true:=by
   cases q:l.dropWhile (jC · a) with
   | nil=>intro x hx;cases hx
   | cons y r =>
    have hy:jC y a=false:=by
     have:=List.head?_dropWhile_not (p:=(jC · a)) (l:=l);rw [q] at this;simpa using this
    have hym:y∈l:=by rw [<- e,q];simp
    have hya:jC a y=true:=zjg (fun e=>h0 (e ▸ hym)) hy;intro x hx;rcases List.mem_cons.1 hx with rfl | hx
    ·exact hya
    ·rw [q] at h2;exact dC hya ((List.pairwise_cons.1 h2).1 x hx)
  refine List.pairwise_append.2 ⟨h1,List.pairwise_cons.2 ⟨hd,h2⟩,fun x hx y hy => ?_⟩;rcases List.mem_cons.1 hy with rfl | hy
  ·exact ht x hx
  ·exact dC (ht x hx) (hd y hy)
theorem zds (l:List (List Int)):∀ (acc:List (List Int)),AscT acc->AscT (l.foldl cH acc)/\∀ x,x∈l.foldl cH acc↔x∈acc\/x∈l:=by
 induction l with
 | nil=>intro acc h;exact ⟨h,fun x=>by simp⟩
 | cons a l ih =>
  intro acc h;obtain ⟨h1,h2⟩:=ih (cH acc a) (zmo h);refine ⟨h1,fun x => ?_⟩;rw [Zci,h2,zmn,Zah];constructor
  ·rintro ((q | q) | q)
   ·exact .inr (.inl q)
   ·exact .inl q
   ·exact .inr (.inr q)
  ·rintro (q | q | q)
   ·exact .inl (.inr q)
   ·exact .inl (.inl q)
   ·exact .inr q
theorem bI (l:List (List Int)):AscT (qB l):=(zds l [] .nil).1
theorem tY {l:List (List Int)} {x:List Int}:x∈qB l↔x∈l:=by rw [qB,(zds l [] .nil).2];simp
theorem bX:∀ {a b:List (List Int)},AscT a->AscT b->(∀ x,x∈a↔x∈b)->a=b
 | [],[],_,_,_=>rfl
 | [],y::b,_,_,h=>by have:=(h y).2 (by simp);cases this
 | x::a,[],_,_,h=>by have:=(h x).1 (by simp);cases this
 | x::a,y::b,ha,hb,h=>by
  have ha':=List.pairwise_cons.1 ha;have hb':=List.pairwise_cons.1 hb;have e:x=y:=by
   have h1:=(h x).1 (by simp);have h2:=(h y).2 (by simp);rcases List.mem_cons.1 h1 with q | q
   ·exact q
   ·rcases List.mem_cons.1 h2 with r | r
    ·exact r.symm
    ·have h3:=hb'.1 x q;have h4:=ha'.1 y r;rw [zmm h3] at h4;cases h4
  subst e
  congr 1
  refine bX ha'.2 hb'.2 fun z => ?_;have hz:=h z;simp only [Zah] at hz;constructor
  ·intro q;rcases hz.1 (.inr q) with rfl | r
   ·have:=ha'.1 z q;rw [zco] at this;cases this
   ·exact r
  ·intro q;rcases hz.2 (.inr q) with rfl | r
   ·have:=hb'.1 z q;rw [zco] at this;cases this
   ·exact r
end Go.Ev
namespace Go.Ev
open Go Go.Proofs Go.RowKit Go.Sort
theorem HR.zhe {P:Program} {B:Nat} {E:Env} {h:T Blk} {nx:Pa} {w:World} {α:Type} [Inhabited α] {enc:α->Value} {av:α->AV} (hva:∀ x,VR E (av x) (enc x)) (hsc:∀ x,jc (av x)=true)
  (H:HR P B E h nx w) {id:Pa} {op:Bool} {m off b n k:Nat} {t:T AV} {l':List α} {os:Array Obj} (hb:T.get .no id h=.cells op m t) (hE:E id=some (b,n)) (hm:off+l'.length<=m) :
  HR P B E (T.set .no (.cells op m (yS (l'.map av) t off)) id h) nx (grow (putRow enc (Sort.ahead w k) b off l'.toArray) os)/\Ex E E w (grow (putRow enc (Sort.ahead w k) b off l'.toArray) os):=by
 have hid:T.get .no id h≠.no:=by rw [hb];intro e;cases e
 obtain ⟨b',n',o,h1,h2,h3⟩:=H.blk id hid;rw [hE] at h1;cases h1;rw [hb] at h3;obtain ⟨c,ty,fr,rfl,q1,q2,q3,q4,q5⟩:=h3;have hcs:(putCells enc off l'.toArray c).size=c.size:=by simp [putCells]
 have hbr:BR P E n (.cells op m (yS (l'.map av) t off)) (.cells (putCells enc off l'.toArray c) ty fr):=by
  refine ⟨_,ty,fr,rfl,by rw [hcs];exact q1,by rw [hcs];exact q2,q3,q4,fun i hi => ?_⟩;rw [uA];have hic:i<c.size:=by omega
  have hce:(putCells enc off l'.toArray c)[i]? = some (if off<=i/\i<off+l'.length then enc (l'.toArray[i-off]!) else c[i]):=by
   simp [putCells,Array.getElem?_eq_getElem hic]
  rw [Zas];by_cases hr:off<=i/\i<off+l'.length
  ·rw [if_pos hr];rw [if_pos hr] at hce;have hj:i-off<l'.length:=by omega
   have e1:(l'.map av).getD (i-off) .u=av l'[i-off]:=by
    rw [Zaa,List.getElem?_map,List.getElem?_eq_getElem hj];rfl
   have e2:l'.toArray[i-off]! = l'[i-off]:=by simp [getElem!_pos,hj]
   rw [e1];exact ⟨hsc _,_,hce,by rw [e2];exact hva _⟩
  ·rw [if_neg hr];rw [if_neg hr] at hce;obtain ⟨r1,v,r2,r3⟩:=q5 i hi;rw [Array.getElem?_eq_getElem hic] at r2;exact ⟨r1,_,hce,by rw [Option.some.inj r2];exact r3⟩
 have H1:=H.put hid hE hbr;have X1:Ex E E w (w.putObj b (.cells (putCells enc off l'.toArray c) ty fr)):=Ex.put hE h2 fun L hL=>by cases hL
 have hbl:b<w.heap.size:=(Array.getElem?_eq_some_iff.1 h2).1;have hBel:Below (w.putObj b (.cells (putCells enc off l'.toArray c) ty fr)).heap.size (w.putObj b (.cells (putCells enc off l'.toArray c) ty fr)) (grow (putRow enc (Sort.ahead w k) b off l'.toArray) os):=by
  refine ⟨rfl,rfl,rfl,?_,fun j hj => ?_⟩
  ·rw [World.putObj_size];simp [grow,putRow,mapBlock,Sort.ahead]
  ·rw [World.putObj_size] at hj;have e1:(grow (putRow enc (Sort.ahead w k) b off l'.toArray) os).heap[j]? = (w.heap.modify b (onCells (putCells enc off l'.toArray)))[j]? := by
    show (w.heap.modify b (onCells (putCells enc off l'.toArray))++os)[j]? = _;rw [Array.getElem?_append_left (by simpa using hj)]
   rw [e1,Array.getElem?_modify];by_cases e:b=j
   ·subst e;rw [if_pos rfl,h2,gO _ hbl];rfl
   ·rw [if_neg e,yN _ (fun q=>e q.symm)]
 obtain ⟨r1,r2⟩:=H1.below hBel;exact ⟨r1,X1.trans r2⟩
theorem zmp {B:Nat} {h:T Blk} {id:Pa} {op:Bool} {m off n:Nat} {o:Option Nat} {t:T AV} {ps qs:List (AV×List Int)} (hb:T.get .no id h=.cells op m t) (hm:off+n<=m) (hn:n<=1000000) (hp:yD t off n=ps.map (·.1))
  (hr:∀ p∈ps,aO h id p.1 p.2/\p.2.length<=1000000) (hnd:∀ a∈ps,∀ a'∈ps,a.2=a'.2->a=a') (hq:qs.Perm ps) (hqs:qs.Pairwise fun a b=>jm a.2 b.2<=0) :
  JOk Tryz.prog B (fun f a h'=>open Classical in if f=188/\a=[.sl id off n o 1,.fn 161 (.of 161) []]/\h'=h then some (.tup [],T.set .no (.cells op m (yS (qs.map (·.1)) t off)) id h) else none):=by
 intro E h' nx w f args vs v h2 H hv hj
 dsimp only at hj
 by_cases hc:f=188/\args=[AV.sl id off n o 1,.fn 161 (.of 161) []]/\h'=h
 case neg=>rw [if_neg hc] at hj;cases hj
 rw [if_pos hc] at hj;obtain ⟨rfl,rfl,rfl⟩:=hc;simp only [Option.some.injEq,Prod.mk.injEq] at hj;obtain ⟨rfl,rfl⟩:=hj;refine ⟨_,Tryz.func188,by kernel_rfl,by kernel_rfl,fun nn=>callsIn_wide.2 ?_⟩;obtain ⟨l⟩:=vs;simp only [VRL] at hv;obtain ⟨u,_,rfl,hu,u2,_,rfl,hu2,rfl⟩:=hv;simp only [VR,VRL] at hu2;obtain ⟨_,vs2,rfl,hvs2⟩:=hu2;obtain rfl:vs2 = #[]:=by cases vs2;simpa using hvs2
 have hln:ps.length=n:=by
  have:=congrArg List.length hp;simpa using this.symm
 obtain ⟨b,bn,c,hE,rfl,hcap⟩:=hu.rZ;obtain ⟨b',n',ob,h1,h2,h3⟩:=H.blk id (by rw [hb];intro e;cases e);rw [hE] at h1;cases h1;have h3':=h3;rw [hb] at h3;obtain ⟨cs,ty,fr,rfl,g1,g2,g3,g4,hc⟩:=h3
 let α:={x:(AV×List Int)×Value // aO h' id x.1.1 x.1.2/\x.1.2.length<=1000000/\VR E x.1.1 x.2}
 haveI:Inhabited α:=⟨⟨((encI [],[]),.slice none 0 0),.inl rfl,by simp,by simp only [VR];exact ⟨rfl,rfl,none,0,rfl,.inl ⟨rfl,fun _=>rfl⟩⟩⟩⟩
 let enc:α->Value:=fun x=>x.1.2
 let av:α->AV:=fun x=>x.1.1.1
 let cf:α->α->Int:=fun x y=>jm x.1.1.2 y.1.1.2
 have hva:∀ x:α,VR E (av x) (enc x):=fun x=>x.2.2.2;have hsc:∀ x:α,jc (av x)=true:=fun x=>x.2.1.jc;have hone:OneCell enc:=fun x=>by
  obtain ⟨p,c,e,_⟩:=x.2.1.cells H x.2.2.2;show (x.1.2).oneCell'=true;rw [e];rfl
 have hO:SWO (ltOf cf):={
  irrefl:=fun x=>by show decide (jm _ _<0)=false;rw [kG];rfl
  trans:=fun x y z p q=>by
   have p:=of_decide_eq_true p;have q:=of_decide_eq_true q;exact decide_eq_true (j7 p q)
  ntrans:=fun x y z p q=>by
   have p:=of_decide_eq_false p;have q:=of_decide_eq_false q;exact decide_eq_false (Int.not_lt.2 (zcs (Int.not_lt.1 p) (Int.not_lt.1 q))) }
 have each:∀ j,j<n->∃ x:α,ps[j]? = some x.1.1/\w.cell? ⟨b,off+j,none⟩=some (enc x)/\w.frozen? ⟨b,off+j,none⟩=false:=by
  intro j hj;have hjp:j<ps.length:=by omega
  obtain ⟨_,v',k1,k2⟩:=hc (off+j) (by omega);have he:T.get .u (.of (off+j)) t=ps[j].1:=by
   have e1:=yC t off n j hj;rw [hp,List.getElem?_map,List.getElem?_eq_getElem hjp] at e1;exact (Option.some.inj e1).symm
  rw [he] at k2;obtain ⟨r1,r2⟩:=hr _ (Zak hjp);refine ⟨⟨(ps[j],v'),r1,r2,k2⟩,List.getElem?_eq_getElem hjp,by simp [World.cell?,h2,k1,enc],?_⟩;have:=g1 (off+j) (Array.getElem?_eq_some_iff.1 k1).1;simp only [World.frozen?,h2];obtain ⟨lo,hi⟩:=fr;simp only [Bool.and_eq_false_iff,decide_eq_false_iff_not];simp only at this;omega
 obtain ⟨D,hD⟩:=Go.Deep.choose_lt each;have hsz:((List.range n).map D).toArray.size=n:=by simp
 have hget:∀ j,j<n->((List.range n).map D).toArray[j]! = D j:=fun j hj=>by simp [getElem!_pos,hj]
 have hH:Holds enc w b off ((List.range n).map D).toArray:=by
  intro j hj;rw [hsz] at hj;rw [hget j hj];exact (hD j hj).2
 have hcmp:CmpLays1 Tryz.prog 161 #[] enc cf b off ((List.range n).map D).toArray.size w:=by
  intro k os dk hs x y;rw [hsz] at hs;obtain ⟨H',_⟩:=H.zhe (k:=k) (os:=os) (l':=dk.toList) hva hsc hb hE (by rw [show dk.toList.length=n from Array.length_toList.trans hs];exact hm);obtain ⟨p1,c1,e1,m1⟩:=(x.2.1.set (b:=.cells op m (yS (dk.toList.map av) t off))).cells H' x.2.2.2;obtain ⟨p2,c2,e2,m2⟩:=(y.2.1.set (b:=.cells op m (yS (dk.toList.map av) t off))).cells H' y.2.2.2;have:=zb7 p1 p2 _ c1 _ c2 x.1.1.2 y.1.1.2 (sortWorld enc w b off k dk os) rfl rfl x.2.2.1 y.2.2.1 m1 m2;show Go.Calls Tryz.prog 161 #[x.1.2,y.1.2] _ _;rw [e1,e2];exact this.mono fun e w' ⟨he,q,hq⟩=>⟨he,q,#[],by rw [hq,grow_empty]⟩
 have key:=Any.slices_SortFunc Tryz.sortF enc hone cf hO 161 #[] b off c ((List.range n).map D).toArray w (enters_of Tryz.func161 (by kernel_rfl) rfl) hcmp hH (H.lt _ _ _ hE).2 (by rw [hsz];omega);rw [hsz] at key;refine key.mono ?_;rintro e w' ⟨rfl,d',k,os,hP,hS,rfl⟩;obtain ⟨hd1,_,hperm⟩:=hP;rw [hsz] at hd1;have e1:d'.extract 0 n=d':=by rw [<- hd1];exact Array.extract_size
 have e2:((List.range n).map D).toArray.extract 0 n=((List.range n).map D).toArray:=by
  have := @Array.extract_size _ ((List.range n).map D).toArray
  rwa [hsz] at this
 rw [e1,e2] at hperm;have hps:((List.range n).map D).map (fun x:α=>x.1.1)=ps:=by
  refine Zau fun j => ?_;rw [List.getElem?_map,List.getElem?_map];by_cases hj:j<n
  ·rw [List.getElem?_range hj,(hD j hj).1];rfl
  ·rw [List.getElem?_eq_none (by simp;omega),List.getElem?_eq_none (by omega)];rfl
 have hpm:(d'.toList.map fun x:α=>x.1.1).Perm ps:=by rw [<- hps];exact hperm.map _
 have hqe:(d'.toList.map fun x:α=>x.1.1)=qs:=by
  refine List.Perm.eq_of_pairwise (le:=fun a b=>jm a.2 b.2<=0) ?_ ?_ hqs (hpm.trans hq.symm)
  ·intro a a' ha ha' p q;have e:a.2=a'.2:=kV (by have:=gM a.2 a'.2;omega);have ma:=hpm.mem_iff.1 ha;have ma':=hq.mem_iff.1 ha';exact hnd _ ma _ ma' e
  ·rw [Zbp,Zbz];intro i j hi hj hij;have hi':i<d'.size:=by simpa using hi
   have hj':j<d'.size:=by simpa using hj
   have:=hS i j (Nat.zero_le _) hij (by omega);rw [getElem!_pos d' j hj',getElem!_pos d' i hi'] at this;have:=of_decide_eq_false this;have e:jm d'[j].1.1.2 d'[i].1.1.2 = - jm d'[i].1.1.2 d'[j].1.1.2:=gM _ _;have f:¬ jm d'[j].1.1.2 d'[i].1.1.2<0:=this;simp only [Array.getElem_toList];omega
 obtain ⟨r1,r2⟩:=H.zhe (k:=k) (os:=os) (l':=d'.toList) hva hsc hb hE (by rw [show d'.toList.length=n from Array.length_toList.trans hd1];exact hm);have e3:d'.toList.map av=qs.map (·.1):=by rw [<- hqe,Zca];rfl
 rw [e3] at r1;exact ⟨_,E,rfl,by simp only [VR,VRL];exact ⟨_,rfl,rfl⟩,r1,r2⟩
end Go.Ev
namespace Go.Ev
open Go Go.Proofs
variable {B:Nat}
set_option maxRecDepth 100000
theorem zu8 {h0 h:T Blk} {nx p id:Pa} {L:List Ob} {k n:Nat} {K:Kw Prop} {q s:List (List Int)} (H:Hp h0 h nx L) (hk:L[k]? = some (.gro (some id) 1 n (q.map encI))) (hn:n<=1000000) (hw:∀ a∈q,a.length<=1000000)
  (hq:s.Perm q) (hs:s.Pairwise fun a b=>jm a b<=0) (hK:∀ h',Hp h0 h' nx (L.set k (.gro (some id) 1 n (s.map encI)))->K (.tup []) h' nx=.ok True):(CS Tryz.prog B).fn 188 p [qx (some id) 1 n,.fn 161 (.of 161) []] h nx K=.ok True:=by
 obtain ⟨t,h1,h2,h3⟩:=H.own _ (Zab hk);rw [Zas] at h2;have hsl:(s.map encI).length=n*1:=by rw [Zas,hq.length_eq,h2]
 have hm1:∀ l:List (List Int),(l.map fun a=>(encI a,a)).map (·.1)=l.map encI:=fun l=>by rw [Zca];rfl
 refine cW (zmp (ps:=q.map fun a=>(encI a,a)) (qs:=s.map fun a=>(encI a,a)) (off:=0) (o:=none) h1 (by omega) hn (by rw [hm1];rw [Zcc] at h3;exact h3)
  (fun a ha=>by obtain ⟨x,hx,rfl⟩:=List.mem_map.1 ha;exact ⟨.inl rfl,hw x hx⟩) (fun a ha a' ha' e=>by
   obtain ⟨x,hx,rfl⟩:=List.mem_map.1 ha;obtain ⟨y,hy,rfl⟩:=List.mem_map.1 ha';have:x=y:=e;rw [this]) (hq.map _) (List.pairwise_map.2 hs)) (v:=.tup []) (h2:=T.set .no (.cells true (n*1) (yS ((s.map fun a=>(encI a,a)).map (·.1)) t 0)) id h) (if_pos ⟨rfl,rfl,rfl⟩) (hK _ ?_)
 rw [hm1];refine H.upd hk (by simp [Ob.names]) rfl ⟨_,T.get_set_same ..,hsl,?_⟩;have:=uU t [] (s.map encI) 0 rfl;rw [Zaw,List.nil_append,hsl] at this;exact this
def Kept (s r:List (List Int)) (j:Nat):Prop:=AscT r/\(∀ x,x∈r↔x∈s.take j)/\1<=r.length/\r.length<=j/\r.getLast? = s[j-1]?
theorem Kept.same {s r:List (List Int)} {j:Nat} (hj:1<=j) (h:Kept s r j) (hl:j<s.length) (e:s[j]=s[j-1]):Kept s r (j+1):=by
 obtain ⟨h1,h2,h3,h4,h5⟩:=h;have hp:s[j-1]? = some s[j-1]:=List.getElem?_eq_getElem (by omega);refine ⟨h1,fun x => ?_,h3,by omega,?_⟩
 ·rw [h2,Zan,List.getElem?_eq_getElem hl,Zav];constructor
  ·exact .inl
  ·rintro (q | q)
   ·exact q
   ·have:x=s[j-1]:=by rw [<- e];simpa using q
    rw [this];exact Zab (i:=j-1) (by rw [List.getElem?_take_of_lt (by omega)];exact hp)
 ·rw [h5,hp,Nat.add_sub_cancel,List.getElem?_eq_getElem hl,e]
theorem Kept.new {s r:List (List Int)} {j:Nat} (hj:1<=j) (h:Kept s r j) (hs:s.Pairwise fun a b=>jm a b<=0) (hl:j<s.length) (e:s[j]≠s[j-1]):Kept s (r++[s[j]]) (j+1):=by
 obtain ⟨h1,h2,h3,h4,h5⟩:=h;have hlt:∀ x∈s.take j,jC x s[j]=true:=fun x hx=>by
  have hpw:=List.pairwise_iff_getElem.1 hs;obtain ⟨i,hi⟩:=List.getElem?_of_mem hx;have hil:=(List.getElem?_eq_some_iff.1 hi).1;rw [Zax] at hil;rw [List.getElem?_take_of_lt (by omega),List.getElem?_eq_getElem (by omega)] at hi;obtain rfl:=Option.some.inj hi;have a1:=hpw i j (by omega) hl (by omega);have a2:=hpw (j-1) j (by omega) hl (by omega);have a3:jm s[j-1] s[j]≠0:=fun q=>e (kV q).symm;rw [kH];by_cases q:i=j-1
  ·subst q;exact decide_eq_true (by omega)
  ·have a4:=hpw i (j-1) (by omega) (by omega) (by omega);by_cases z:jm s[i] s[j-1]=0
   ·rw [kV z];exact decide_eq_true (by omega)
   ·exact decide_eq_true (j7 (b:=s[j-1]) (by omega) (by omega))
 refine ⟨List.pairwise_append.2 ⟨h1,by simp,fun x hx y hy => ?_⟩,fun x => ?_,by simp,by simp;omega,?_⟩
 ·rw [List.mem_singleton.1 hy];exact hlt x ((h2 x).1 hx)
 ·rw [Zav,h2,Zan,List.getElem?_eq_getElem hl,Zav];simp
 ·rw [Nat.add_sub_cancel,List.getElem?_eq_getElem hl];simp
theorem zdu {C:Calls Prop} {f:Nat} {p:Pa} {args:List AV} {h:T Blk} {nx:Pa} {K:KW3}:qC C (.fn f p []) args h nx K=C.fn f p args h nx K:=by
 show C.fn f p (args++[]) h nx K=_;rw [Zch]
theorem Hp.zze {h0 h:T Blk} {nx:Pa} {L:List Ob} {k n i:Nat} {id:Pa} {l:List AV} {K:KW3} (H:Hp h0 h nx L) (hk:L[k]? = some (.gro (some id) 1 n l)) (hi:i<n) (hl:l.length=n)
  (hK:∀ h',Hp h0 h' nx (L.set k (.gro (some id) 1 n (l.take i++List.replicate (n-i) .zf)))->K .u h' nx=.ok True):sClr 1 [.zf] (vV (some id) 1 n i) h nx K=.ok True:=by
 obtain ⟨t,h1,h2,h3⟩:=H.own _ (Zab hk);have hd:vV (some id) 1 n i=.sl id (0+i*1) (n-i) none 1:=by
  by_cases c:i=0
  ·subst c;rfl
  ·simp only [vV,ay c,Zac (show i+1<=n by omega),cond_true,cond_false]
 rw [hd]
 show (bif Nat.beq 1 1&&Nat.ble 1 (n-i) then jf (T.get .no id h) (fun op m t=>bif Nat.ble (0+i*1+(n-i)*1) m&&Nat.beq [AV.zf].length 1&&[AV.zf].all jc then
   gT (fK (n-i) [.zf]) t (0+i*1) fun t'=>T.vg .no (.cells op m t') id h fun h'=>K .u h' nx else .no 57) (.no 57) else bif Nat.beq (n-i) 0 then K .u h nx else .no 57)=_
 rw [Zbf,Zac (by omega),h1];show (bif Nat.ble (0+i*1+(n-i)*1) (n*1)&&Nat.beq [AV.zf].length 1&&[AV.zf].all jc then _ else _)=_;rw [Zac (by omega)];show gT (fK (n-i) [.zf]) t (0+i*1) (fun t'=>T.vg .no (.cells true (n*1) t') id h fun h'=>K .u h' nx)=_;rw [jA,T.yt];refine hK _ (H.upd hk (by simp [Ob.names]) rfl ⟨_,T.get_set_same ..,by simp;omega,?_⟩);have e1:fK (n-i) [AV.zf]=List.replicate (n-i) .zf:=zbt _ _;rw [e1];have e2:l.take i=yD t 0 i:=by rw [<- h3,vY _ _ _ _ (by omega)]
 have:=uU t (l.take i) (List.replicate (n-i) .zf) i e2.symm;rw [List.length_replicate] at this;rw [show 0+i*1=i by omega,show n*1=i+(n-i) by omega];exact this
theorem zjh {h0 h:T Blk} {nx p id:Pa} {L:List Ob} {k n:Nat} {K:Kw Prop} {s:List (List Int)} (H:Hp h0 h nx L) (hk:L[k]? = some (.gro (some id) 1 n (s.map encI))) (hsl:s.length=n) (hn0:1<=n) (hn:n<=100000) (hw:∀ a∈s,a.length<=1000000)
  (hs:s.Pairwise fun a b=>jm a b<=0) (hK:∀ (r:List (List Int)) (X:List AV) h',Kept s r n->Hp h0 h' nx (L.set k (.gro (some id) 1 n (r.map encI++X)))->K (qx (some id) 1 r.length) h' nx=.ok True):(CS Tryz.prog B).fn 189 p [qx (some id) 1 n,.fn 190 (.of 190) []] h nx K=.ok True:=by
 refine jB (p:=.of 189) (K:=K) (zP zR yh 10000000 fun hf => ?_) fun _ _ _ _ q=>q;have hkl:=(List.getElem?_eq_some_iff.1 hk).1;have hstart:Kept s (s.take 1) 1:=by
  have h1:s.take 1=[s[0]'(by omega)]:=by
   rw [show (1:Nat)=0+1 from rfl,Zan,List.getElem?_eq_getElem (by omega)];rfl
  refine ⟨by rw [h1];simp,fun x=>.rfl,by rw [h1];simp,by rw [h1];simp,by rw [h1];simp⟩
 have keep:∀ {h' nx'},Hp h0 h' nx' L->Hp h0 h' nx' (L.set k (.gro (some id) 1 n (s.map encI))):=fun {h' nx'} H'=>by
  have:L.set k (.gro (some id) 1 n (s.map encI))=L:=by
   apply Zau;intro j;rw [List.getElem?_set];split
   ·rename_i e;subst e;rw [hk]
   ·rfl
  rw [this];exact H'
 rw [zi.go,zi.t48,zC,zi.rM,zi.t47,zC,zi.t5,zC,zi.rP,H.zbw hk,jl,zi.t4,yA,zi.v6];by_cases c1:n<2
 ·rw [decide_eq_true (by omega),zH,zi.t3,zC,zi.rF];simp only [yB,yO];rw [zi.ret];obtain rfl:n=1:=by omega
  have:=hK (s.take 1) [] _ hstart (by rw [Zal (by omega),Zch];exact keep H);rw [Zax,hsl] at this;exact this
 rw [decide_eq_false (by omega),zJ,yH,zi.t46,zC,zi.t43,zC,zi.aJ,zi.t42,jH];refine zi.zz8 (fun m x3 h' nx'=>∃ i:Nat,x3=I i/\m=n-i/\1<=i/\i<=n/\Kept s (s.take i) i/\h'=h/\nx'=nx) (m:=n-1) (by omega) ⟨1,rfl,rfl,by omega,by omega,hstart,rfl,rfl⟩ ?_;rintro m z2 z3 z4 z5 z7 z8 z9 z10 h1 nx1 R ⟨i,rfl,rfl,hi1,hi,hkp,rfl,rfl⟩ hR;rw [zi.t40,zC,zi.t9,zC,zi.t7_s,H.zbw hk,jl];by_cases hlt:i<n
 case neg =>
  rw [decide_eq_false (by omega),zi.t8,yA,zi.v7,zJ,qG,vP,zi.t45,zC,zi.zz9];simp only [yB,yO];rw [zi.ret];obtain rfl:i=n:=by omega
  have:=hK (s.take i) [] _ hkp (by rw [Zal (by omega),Zch];exact keep H);rw [Zax,hsl,Nat.min_self] at this;exact this
 have hii:i<s.length:=by omega
 have hx:(s.map encI)[i]? = some (encI s[i]):=by rw [List.getElem?_map,List.getElem?_eq_getElem hii];rfl
 have hy:(s.map encI)[i-1]? = some (encI s[i-1]):=by rw [List.getElem?_map,List.getElem?_eq_getElem (by omega)];rfl
 have ix:∀ (j:Nat) (z:Int),z=(j:Int)->j<n->∀ op:AV->OP,zV 1 (qx (some id) 1 n) (I z) op=op (.ptr id j):=fun j z hz hj op=>by
  show zV 1 (.sl id 0 n none 1) (I z) op=_;exact sIx hz hj
 rw [decide_eq_true (by omega),zi.t8,yA,zi.v7,zH,yH,zi.t39,zC,zi.t37,jH,zi.t36,zC,zi.aZ,ix i _ rfl hlt,H.zaj hk hx,sD (by omega),ix (i-1) _ (by omega) (by omega),H.zaj hk hy,zdu];refine zf6 (by have:=hw _ (Zak hii);omega) _ _ _ _ ?_;rintro _ rfl _;rw [zi.t35,yA,zi.v8];by_cases ce:s[i]=s[i-1]
 case neg =>
  rw [decide_eq_false ce,zJ,yH,zi.zz7,jk (by omega)];have:=hkp.new hi1 hs hii ce;have e:s.take i++[s[i]]=s.take (i+1):=by rw [Zan,List.getElem?_eq_getElem hii];rfl
  rw [e] at this;exact hR _ _ _ _ _ _ _ _ _ _ _ (by omega) ⟨i+1,rfl,rfl,by omega,by omega,this,rfl,rfl⟩
 have hsame:=hkp.same hi1 hii ce;have hlo:∀ op:AV->OP,qR 1 (qx (some id) 1 n) (some (I (i:Int))) none none op=op (.sl id (0+i*1) (n-i) none 1):=by
  intro op;rw [H.zwh hk (by omega)];simp only [vV,ay (show i≠0 by omega),Zac (show i+1<=n by omega),cond_true,cond_false]
 rw [decide_eq_true ce,zH,zi.t34,zC,zi.zau,hlo,zi.t33,zC,zi.t28,zC,zi.ze6,zi.t27,jH]
 refine zi.zz6 (fun m x3 x5 h' nx'=>∃ (r:List (List Int)) (j:Nat) (X:List AV),x3=I r.length/\x5=I j/\m=n-i-j/\1<=j/\j<=n-i/\Kept s r (i+j)/\r.length<i+j/\nx'=nx1/\X.length=n-r.length/\(∀ q,i+j-1<=q->q<n->(r.map encI++X)[q]? = (s.map encI)[q]?)/\Hp h0 h' nx' (L.set k (.gro (some id) 1 n (r.map encI++X)))) (m:=n-i-1) (by omega)
  ⟨s.take i,1,(s.drop i).map encI,by rw [Zax,Nat.min_eq_left (by omega)],rfl,rfl,by omega,by omega,hsame,by rw [Zax];omega,rfl,by simp;omega,fun q _ _=>by rw [<- Zbn,List.take_append_drop],by rw [<- Zbn,List.take_append_drop];exact keep H⟩ ?_
 rintro m y3 y5 y9 y10 h6 nx6 R' ⟨r,j,X,rfl,rfl,rfl,hj1,hj,hkr,hrl,rfl,hXl,hX,H6⟩ hR';have hrk:(L.set k (.gro (some id) 1 n (r.map encI++X)))[k]? = some (.gro (some id) 1 n (r.map encI++X)):=List.getElem?_set_self hkl;have hrlen:(r.map encI++X).length=n:=by rw [Zat,Zas,hXl];have:=hkr.2.2.2.1;omega
 rw [zi.t25,zC,zi.t15,zC,zi.zm4,jJ,jl];by_cases hlt2:j<n-i
 case neg =>
  rw [decide_eq_false (by omega),zi.t14,yA,zi.v9,zJ,qG,vP,zi.t32,zC,zi.zm7,H6.zwh hrk (by omega)];refine H6.zze hrk (by omega) hrlen fun h7 H7 => ?_;rw [List.set_set] at H7;have hk7:(L.set k (.gro (some id) 1 n ((r.map encI++X).take r.length++List.replicate (n-r.length) .zf)))[k]? = some (.gro (some id) 1 n ((r.map encI++X).take r.length++List.replicate (n-r.length) .zf)):=List.getElem?_set_self hkl;rw [zi.t31,zC,zi.zm8,H7.qb3 hk7 (by omega)];simp only [yB,xM,yO];rw [zi.ret];have e:(r.map encI++X).take r.length=r.map encI:=by rw [List.take_left' (by simp)]
  rw [e] at H7;obtain rfl:j=n-i:=by omega
  rw [show i+(n-i)=n by omega] at hkr;exact hK r _ _ hkr H7
 have hjj:i+j<s.length:=by omega
 have hrn:r.length<n:=by omega
 have hn0:0<n:=by omega
 have hX0:0<X.length:=by omega
 have hx2:(r.map encI++X)[i+j]? = some (encI s[i+j]):=by rw [hX _ (by omega) (by omega),List.getElem?_map,List.getElem?_eq_getElem hjj];rfl
 have hy2:(r.map encI++X)[i+j-1]? = some (encI s[i+j-1]):=by rw [hX _ (by omega) (by omega),List.getElem?_map,List.getElem?_eq_getElem (by omega)];rfl
 have ix2:∀ (q:Nat) (z:Int),z=(q:Int)->q<n-i->∀ op:AV->OP,zV 1 (.sl id (0+i*1) (n-i) none 1) (I z) op=op (.ptr id (i+q)):=fun q z hz hq op=>by
  subst hz;rw [qH hq];rw [show 0+i*1+q*1=i+q by omega]
 rw [decide_eq_true (by omega),zi.t14,yA,zi.v9,zH,yH,zi.t24,zC,zi.t22,jH,zi.t21,zC,zi.ze9,ix2 j _ rfl hlt2,H6.zaj hrk hx2,sD (by omega),ix2 (j-1) _ (by omega) (by omega),show i+(j-1)=i+j-1 by omega,H6.zaj hrk hy2,zdu];refine zf6 (by have:=hw _ (Zak hjj);omega) _ _ _ _ ?_;rintro _ rfl _;rw [yV,zi.t20,yA,zi.v10];by_cases ce2:s[i+j]=s[i+j-1]
 ·rw [decide_eq_true ce2,Zaf,zJ,yH,zi.zvy,jk (by omega)];exact hR' (n-i-(j+1)) _ _ _ _ _ _ (by omega) ⟨r,j+1,X,rfl,rfl,by omega,by omega,by omega,hkr.same (show 1<=i+j by omega) hjj ce2,by omega,rfl,hXl,fun q h1 h2=>hX q (by omega) h2,H6⟩
 ·rw [decide_eq_false ce2,Zag,zH,zi.t19,zC,zi.oh,ix2 j _ rfl hlt2,H6.zaj hrk hx2,ix r.length _ rfl (by omega)];refine H6.zos hrk (by rw [hrlen];exact hrn) rfl fun h7 H7 => ?_;rw [List.set_set] at H7;rw [zi.ze8,jk (by omega),zi.zvy,jk (by omega)];obtain ⟨x0,X',rfl⟩:∃ x0 X',X=x0::X':=by cases X with
   | nil=>simp at hXl;omega
   | cons a b=>exact ⟨a,b,rfl⟩
  have e:(r.map encI++x0::X').set r.length (encI s[i+j])=(r++[s[i+j]]).map encI++X':=by
   have:=mH (r.map encI) x0 (encI s[i+j]) X';rw [Zas] at this;rw [this,Zbn,Zcg];rfl
  have hX2:∀ q,r.length<q->((r++[s[i+j]]).map encI++X')[q]? = (r.map encI++x0::X')[q]? := fun q hq=>by
   rw [<- e,List.getElem?_set_ne (by omega)]
  rw [e] at H7;refine hR' (n-i-(j+1)) _ _ _ _ _ _ (by omega) ⟨r++[s[i+j]],j+1,X',by simp,rfl,by omega,by omega,by omega,hkr.new (show 1<=i+j by omega) hs hjj ce2,by simp;omega,rfl,?_,fun q h1 h2=>by rw [hX2 q (by omega)];exact hX q (by omega) h2,H7⟩;have:X'.length+1=n-r.length:=by simpa using hXl
  simp;omega
theorem Hp.zu9 {id:Pa} {n:Nat} {l X:List AV} {h0 h:T Blk} {nx:Pa} {L:List Ob} {k:Nat} (H:Hp h0 h nx L) (hk:L[k]? = some (.gro (some id) 1 n (l++X))) (hf:∀ v∈l,rD v=true):rU h0 h (qx (some id) 1 l.length) (.lst 1 l.length l):=by
 have own:=H.own _ (Zab hk);have hoff:=H.off;obtain ⟨t,h1,h2,h3⟩:=own;rw [Zat] at h2;refine .sl _ _ _ _ _ true _ t _ (hoff id (List.mem_flatMap.2 ⟨_,Zab hk,by simp [Ob.names]⟩)) trivial h1 (by omega) (by omega) (List.all_eq_true.2 fun v hv=>rD.jc (hf v hv)) fun i v hi => ?_;have hil:=(List.getElem?_eq_some_iff.1 hi).1;have:=yC t 0 (n*1) i (by omega);rw [h3,List.getElem?_append_left hil,hi] at this;rw [<- Option.some.inj this];exact zL (hf v (Zab hi))
theorem u4 {a b c:List Int} (h1:jm a b<=0) (h2:jm b c<=0):jm a c<=0:=by
 by_cases z1:jm a b=0
 ·rw [kV z1];exact h2
 ·by_cases z2:jm b c=0
  ·rw [<- kV z2];exact h1
  ·have:=j7 (a:=a) (b:=b) (c:=c) (by omega) (by omega);omega
theorem zmq (q:List (List Int)):∃ s:List (List Int),s.Perm q/\s.Pairwise fun a b=>jm a b<=0:=by
 refine ⟨q.mergeSort fun a b=>decide (jm a b<=0),List.mergeSort_perm ..,?_⟩
 have:=List.pairwise_mergeSort (le:=fun a b:List Int=>decide (jm a b<=0)) (fun a b c h1 h2=>by
  exact decide_eq_true (u4 (of_decide_eq_true h1) (of_decide_eq_true h2))) (fun a b=>by
  have n1:=gM a b;simp;omega) q
 exact this.imp fun h=>of_decide_eq_true h
def j9 (G:List Sym) (f:List Int):List (List Int):=G.map fun a=>yG a.2 a.1 f
def imgV (G:List Sym) (f:List Int):AV:=if (j9 G f).any (·.any rE) then .tup [.zf,I 3] else .tup [sW (qB (j9 G f)),I 0]
theorem zmr {s q r:List (List Int)} {n:Nat} (hp:s.Perm q) (hn:s.length=n) (hk:Kept s r n):r=qB q:=by
 refine bX hk.1 (bI q) fun x => ?_;rw [hk.2.1,Zal (by omega),hp.mem_iff,tY]
theorem zms {G:List Sym} {f:List Int} (ok:aN G f.length) (hf:gY f=0):Pure Tryz.prog B 129 [vw G,encI f] (· = imgV G f):=by
 refine yE fun h nx K H0 hK=>zP zR yh 10000000 fun hf' => ?_;have hgl:=ok.len;obtain ⟨hf1,hf2⟩:=zdq hf;rw [zx.go,zx.t23,zC,zx.rM];refine H0.box (l:=[encI f]) rfl fun b2 h1 nx1 H1 => ?_;refine H1.alloc fun b3 h2 nx2 H2 => ?_;refine H2.alloc fun b4 h3 nx3 H3 => ?_;rw [zx.t22,zC,zx.rP];refine H3.alloc fun b5 h4 nx4 H4 => ?_;rw [zx.t21,zC,zx.t16,zC,zx.rF];refine ziy _ _ _ _ ?_;rintro _ rfl _;rw [zx.t15,jH,zx.t14];have H5:=H4.aX 1
 refine qcv H5 zx.zz4 (fun v w k=>zx.zz5 k) (by omega)
  (fun i L'=>(j9 (G.take i) f).any (·.any rE)=false/\∃ o,L'=[.gro o 1 i ((j9 (G.take i) f).map encI),.arr b5 [qx o 1 i],.arr b4 [I 0],.arr b3 [.zf],.arr b2 [encI f]])
  (fun L'=>(j9 G f).any (·.any rE)=true/\∃ o i l,L'=[.gro o 1 i l,.arr b5 [qx o 1 i],.arr b4 [I 3],.arr b3 [.zf],.arr b2 [encI f]]) (fun _ _=>False) ⟨rfl,none,rfl⟩
  (fun i x Rb Rb' h6 nx6 L' M E O1 O2 hx hJ H6 hM hE hR hX => ?_) (fun h6 nx6 L' hJ H6 => ?_) (fun h6 nx6 L' hX H6 => ?_) (fun _ _ _ _ hX _=>hX.elim)
 ·obtain ⟨hfar,o,rfl⟩:=hJ;have hxm:=Zab hx;have hil:=(List.getElem?_eq_some_iff.1 hx).1;have hdp:=ok.dp x hxm;have hal:(yG x.2 x.1 f).length=f.length:=gL ..;have htk:j9 (G.take (i+1)) f=j9 (G.take i) f++[yG x.2 x.1 f]:=by
   unfold j9;rw [Zan,hx,Zbn];rfl
  rw [zx.aF];refine H6.alloc fun b9 h7 nx7 H7 => ?_;refine H7.qy (k:=0) (n:=2) rfl rfl rfl fun h8 H8 => ?_;refine hM _ _ _ [_] H8 fun h9 H9 => ?_;rw [zx.t13,jH,zx.t12,zC,zx.t4_s,H9.zn (k:=0) (n:=2) rfl rfl,H9.load (k:=6) (i:=0) rfl rfl];refine zhc (g:=x.1) (c:=x.2) (by omega) (by rw [hdp.1.1]) hdp.perm (fun y hy=>by have:=hf2 y hy;omega) _ _ _ _ ?_;rintro _ rfl _;rw [zx.t11,zC,zx.t9,zC,zx.t5_s];refine m6 (l:=yG x.2 x.1 f) (by omega) (fun x _ K hK=>zjd x _ _ _ _ fun v hv _=>by rw [hv];exact hK) ?_;rw [zx.t8,yA,zx.v11];by_cases c:(yG x.2 x.1 f).any rE=true
  ·rw [c,zH,zx.t7,zC,zx.aJ];refine H9.store (k:=5) rfl (by simp) rfl fun h10 H10 => ?_;refine H10.store (k:=4) rfl (by simp) rfl fun h11 H11 => ?_;simp only [yB,xM];exact hR _ _ _ [_] _ ⟨List.any_eq_true.2 ⟨_,List.mem_map.2 ⟨x,hxm,rfl⟩,c⟩,o,i,_,rfl⟩ H11
  ·have c:(yG x.2 x.1 f).any rE=false:=by cases q:(yG x.2 x.1 f).any rE <;> simp_all
   rw [c,zJ,yH,zx.aZ,H9.load (k:=3) (i:=0) rfl rfl];refine H9.yj (l:=[encI (yG x.2 x.1 f)]) rfl fun tb h15 nx15 H15 => ?_;refine H15.appN (k:=3) (o:=o) (c:=1) (esz:=1) (new:=[encI (yG x.2 x.1 f)]) rfl (yx.rd (l:=[encI (yG x.2 x.1 f)]) (n:=1) (e:=1) (H15.own _ (Zam ..)) rfl) rfl rfl (by decide) (by decide) (by omega) fun o'' h16 nx16 _ H16 => ?_;refine H16.store (k:=4) rfl (by simp) (uO _ _ _) fun h17 H17 => ?_;refine hE _ _ _ [_,_] _ ⟨by rw [htk,List.any_append,hfar];simpa using c,o'',?_⟩ H17;rw [htk,Zbn]
   rfl
 ·obtain ⟨hfar,o,rfl⟩:=hJ;rw [Zal (Zai _)] at H6 hfar;have hne:0<G.length:=List.length_pos_iff.2 ok.ne;obtain ⟨id,rfl⟩:∃ id,o=some id:=by
   cases o with
   | some id=>exact ⟨id,rfl⟩
   | none=>obtain ⟨h1,h2⟩:=H6.own _ (Zam ..);omega
  obtain ⟨s,hs1,hs2⟩:=zmq (j9 G f);have hil:(j9 G f).length=G.length:=Zas _;have hw:∀ a∈j9 G f,a.length<=1000000:=fun a ha=>by
   obtain ⟨x,_,rfl⟩:=List.mem_map.1 ha;rw [gL];omega
  rw [zx.t20,zC,zx.oh,H6.load (k:=1) (i:=0) rfl rfl];refine zu8 H6 (k:=0) rfl (by omega) hw hs1 hs2 fun h7 H7 => ?_;rw [zx.t19,zC,zx.ze8,H7.load (k:=1) (i:=0) rfl rfl];refine zjh (k:=0) H7 rfl (by rw [hs1.length_eq,hil]) hne (by omega) (fun a ha=>hw a (hs1.mem_iff.1 ha)) hs2 fun r X h8 hkr H8 => ?_;have hr:=zmr hs1 (by rw [hs1.length_eq,hil]) hkr;subst hr;refine H8.store (k:=3) rfl (by simp) (uO _ _ _) fun h9 H9 => ?_;refine H9.store (k:=2) rfl (by simp) rfl fun h10 H10 => ?_;simp only [yB,yO];rw [zx.ret,H10.load (k:=3) (i:=0) rfl rfl,H10.load (k:=2) (i:=0) rfl rfl];have fz:=H10.zu9 (k:=0) (id:=id) (n:=G.length) (l:=(qB (j9 G f)).map encI) (X:=X) rfl fun v hv=>by obtain ⟨a,_,rfl⟩:=List.mem_map.1 hv;exact uH a
  rw [Zas] at fz;exact hK _ _ _ _ _ H10 (uE fz (zL rfl)) (by rw [imgV,hfar];rfl)
 ·obtain ⟨hany,o,i,l,rfl⟩:=hX;simp only [xM,yO];rw [zx.ret,H6.load (k:=3) (i:=0) rfl rfl,H6.load (k:=2) (i:=0) rfl rfl];exact hK _ _ _ _ _ H6 (uE (zL rfl) (zL rfl)) (by rw [imgV,hany];rfl)
def actE (G:List Sym) (f:List Int):Int:=if gY f≠0 then gY f else jI G f.length
theorem zmt {G:List Sym} {f:List Int} (hG:G.length<=100000) (hw:∀ g∈G,g.1.length<=100000) (hfl:f.length<=100000):Pure Tryz.prog B 128 [vw G,encI f] (· = I (actE G f)):=by
 refine yE fun h nx K H0 hK=>zP zR yh 1000 fun hf' => ?_;rw [jg.go,jg.t11,zC,jg.rM,jg.t10,zC,jg.t7,zC,jg.rP]
 (refine zku (by omega) _ _ _ _ ?_;rintro _ rfl _)
 rw [jg.t6,zC,jg.rF,qm,jg.t5,yA,jg.v4];by_cases c:gY f=0
 case neg =>
  rw [decide_eq_false c,Zag,zH,jg.t4,zC,jg.aF];simp only [yB,yO];rw [jg.ret];exact hK _ _ _ _ _ H0 (zL rfl) (by rw [actE,if_pos c])
 rw [decide_eq_true c,Zaf,zJ,yH,jg.t9,zC,jg.t8_s,zO];refine zct hG hw _ _ _ _ ?_;rintro _ rfl _;simp only [yB,yO];rw [jg.ret];exact hK _ _ _ _ _ H0 (zL rfl) (by rw [actE,if_neg (fun q=>q c)])
theorem zkv {G:List Sym} {f:List Int} (h:actE G f=0):gY f=0/\aN G f.length:=by
 unfold actE at h;by_cases c:gY f=0
 ·rw [if_neg (fun q=>q c)] at h;obtain ⟨n,hn,ok⟩:=d6 h;obtain rfl:f.length=n:=by omega
  exact ⟨c,ok⟩
 ·rw [if_pos c] at h;exact absurd h c
def orbV (G:List Sym) (f:List Int):AV:=if actE G f≠0 then .tup [.zf,I (actE G f)] else imgV G f
theorem zva {G:List Sym} {f:List Int} (hG:G.length<=100000) (hw:∀ g∈G,g.1.length<=100000) (hfl:f.length<=100000):Pure Tryz.prog B 68 [vw G,encI f] (· = orbV G f):=by
 refine yE fun h nx K H0 hK=>zP zR yh 1000 fun hf' => ?_;rw [F68.go,F68.t11,zC,F68.rM,F68.t10,zC,F68.t7,zC,F68.rP];refine zmt hG hw hfl _ _ _ _ ?_;rintro _ rfl _;rw [F68.t6,zC,F68.rF,qm,F68.t5,yA,F68.v5];by_cases c:actE G f=0
 case neg =>
  rw [decide_eq_false c,Zag,zH,F68.t4,zC,F68.aF];simp only [yB,yO];rw [F68.ret];exact hK _ _ _ _ _ H0 (uE (zL rfl) (zL rfl)) (by rw [orbV,if_pos c])
 obtain ⟨hf,ok⟩:=zkv c;rw [decide_eq_true c,Zaf,zJ,yH,F68.t9,zC,F68.t8_s];refine zms ok hf _ _ _ _ ?_;rintro _ rfl _;by_cases d:(j9 G f).any (·.any rE)=true
 ·have e:imgV G f=.tup [.zf,I 3]:=by rw [imgV,d];rfl
  rw [e,jK,jL];simp only [yB,yO];rw [F68.ret];exact hK _ _ _ _ _ H0 (uE (zL rfl) (zL rfl)) (by rw [orbV,if_neg (fun q=>q c),e])
 ·have e:imgV G f=.tup [sW (qB (j9 G f)),I 0]:=by rw [imgV,if_neg d]
  rw [e,jK,jL];simp only [yB,yO];rw [F68.ret];exact hK _ _ _ _ _ H0 (uE (zL (zc3 _)) (zL rfl)) (by rw [orbV,if_neg (fun q=>q c),e])
def wK (G:List Sym) (f:List Int):Int:=if actE G f≠0 then actE G f else if (j9 G f).any (·.any rE) then 3 else 0
theorem zq0 {G:List Sym} {f:List Int} (h:wK G f≠0):orbV G f=.tup [.zf,I (wK G f)]:=by
 unfold orbV wK at *
 by_cases c:actE G f=0
 ·rw [if_neg (fun q=>q c)] at h ⊢;rw [if_neg (fun q=>q c),imgV];by_cases d:(j9 G f).any (·.any rE)=true
  ·rw [if_pos d,if_pos d]
  ·rw [if_neg d] at h;exact absurd rfl h
 ·rw [if_pos c,if_pos c]
theorem zvb {G:List Sym} {f:List Int} (h:wK G f=0):orbV G f=.tup [sW (qB (j9 G f)),I 0]:=by
 unfold orbV wK at *
 by_cases c:actE G f=0
 ·rw [if_neg (fun q=>q c)] at h ⊢;rw [imgV];by_cases d:(j9 G f).any (·.any rE)=true
  ·rw [if_pos d] at h;cases h
  ·rw [if_neg d]
 ·rw [if_pos c] at h;exact absurd h c
theorem zvc {G:List Sym} {f:List Int} (ok:aN G f.length):0<(qB (j9 G f)).length:=by
 have hm:yG (idS f.length).2 (idS f.length).1 f∈qB (j9 G f):=tY.2 (List.mem_map.2 ⟨_,ok.one,rfl⟩);exact List.length_pos_of_mem hm
def canV (G:List Sym) (f:List Int):AV:=if wK G f≠0 then .tup [.zf,I (wK G f)] else .tup [encI ((qB (j9 G f)).headD []),I 0]
theorem qcw {l:List (List Int)} (h:0<l.length):l[0]? = some (l.headD []):=by
 cases l with
 | nil=>simp at h
 | cons a l=>rfl
theorem cN {G:List Sym} {f:List Int} (hG:G.length<=100000) (hw:∀ g∈G,g.1.length<=100000) (hfl:f.length<=100000):Pure Tryz.prog B 23 [vw G,encI f] (· = canV G f):=by
 refine yE fun h nx K H0 hK=>zP zR yh 1000 fun hf' => ?_;rw [F23.go,F23.t11,zC,F23.rM,F23.t10,zC,F23.rP];refine zva hG hw hfl _ _ _ _ ?_;rintro _ rfl _;by_cases c:wK G f=0
 case neg =>
  rw [zq0 c,jK,jL,F23.t9,zC,F23.t6,zC,F23.rF,qm,decide_eq_false c,Zag,F23.t5,yA,F23.v6,zH,F23.t4,zC,F23.aF];simp only [yB,yO];rw [F23.ret];exact hK _ _ _ _ _ H0 (uE (zL rfl) (zL rfl)) (by rw [canV,if_pos c])
 have ca:actE G f=0:=Decidable.byContradiction fun q=>by unfold wK at c;rw [if_pos q] at c;exact q c
 obtain ⟨hf,ok⟩:=zkv ca;have hp:=zvc ok;rw [zvb c,jK,jL,F23.t9,zC,F23.t6,zC,F23.rF,qm,decide_eq_true rfl,Zaf,F23.t5,yA,F23.v6,zJ,yH,F23.t8,zC,F23.t7_s,xu (j:=0) (i:=0) rfl hp,ldL (getT (qcw hp))];simp only [yB,yO];rw [F23.ret];exact hK _ _ _ _ _ H0 (uE (zL (uH _)) (zL rfl)) (by rw [canV,if_neg (fun q=>q c)])
def LT (v:AV) (l:List (List Int)):Prop:=(v=.zf/\l=[])\/(v=sW l/\l≠[])
theorem LT.len {v:AV} {l:List (List Int)} (h:LT v l) {op:AV->OP}:sLen v op=op (I l.length):=by
 rcases h with ⟨rfl,rfl⟩ | ⟨rfl,_⟩
 ·exact yU
 ·exact zO ..
theorem LT.frz {v:AV} {l:List (List Int)} (h:LT v l) {N:Pa->Prop} {O:AV->Prop} {hh:T Blk}:Frz True N O hh v (sW l):=by
 rcases h with ⟨rfl,rfl⟩ | ⟨rfl,_⟩
 ·exact .zbr 1
 ·exact zL (zc3 _)
end Go.Ev
namespace Go.Ev
open Go.Proofs
theorem zq1 {G:List Sym} {n:Nat} (ok:aN G n) {f:List Int} (hf:f.length=n) {a:Sym} (ha:a∈G) (z:List Int):z∈j9 G (yG a.2 a.1 f)↔z∈j9 G f:=by
 have hal:(yG a.2 a.1 f).length=n:=by rw [gL,hf]
 constructor
 ·intro h;obtain ⟨b,hb,rfl⟩:=List.mem_map.1 h;exact List.mem_map.2 ⟨jD b a,ok.cl b hb a ha,mB (ok.dp b hb) (ok.dp a ha) hf⟩
 ·intro h;obtain ⟨b,hb,rfl⟩:=List.mem_map.1 h;obtain ⟨c,hc,e⟩:=ok.linv ha;refine List.mem_map.2 ⟨jD b c,ok.cl b hb c hc,?_⟩;rw [mB (ok.dp b hb) (ok.dp c hc) hal,<- mB (ok.dp c hc) (ok.dp a ha) hf,e,zqz hf]
theorem zmu {G:List Sym} {n:Nat} (ok:aN G n) {f:List Int} (hf:f.length=n) {a:Sym} (ha:a∈G):qB (j9 G (yG a.2 a.1 f))=qB (j9 G f) :=
 bX (bI _) (bI _) fun z=>by rw [tY,tY];exact zq1 ok hf ha z
def canL (G:List Sym) (f:List Int):List Int:=(qB (j9 G f)).headD []
theorem zq2 {G:List Sym} {n:Nat} (ok:aN G n) {f:List Int} (hf:f.length=n) {a:Sym} (ha:a∈G):canL G (yG a.2 a.1 f)=canL G f:=by
 unfold canL;rw [zmu ok hf ha]
theorem mE {n:Nat} (hn:n<=256):∀ {G:List Sym},(∀ g∈G,DP n g)->jY n G=0
 | [],_=>rfl
 | a::G,h=>by
  have ha:=h a (by simp);have e:jW a.1 n=0:=by rw [jW,if_neg (by omega),if_neg (by rw [ha.1.1];omega),if_pos ha.perm]
  rw [jY,e,if_neg (by decide)];exact mE hn fun g hg=>h g (by simp [hg])
theorem aN.err {G:List Sym} {n:Nat} (h:aN G n):jI G n=0:=by
 have:=h.n256;have hl:=h.len;rw [jI,if_neg (by omega),if_neg (fun q=>h.ne (Zbe q)),if_neg (by omega),if_neg (by rw [mE h.n256 h.dp];decide),if_neg (by rw [h.ord];decide),if_neg (by rw [zak.2 h.cl];decide)]
section
variable {G S:List Sym} {n:Nat}
end
end Go.Ev
namespace Go.Ev
section
variable {G:List Sym} {n:Nat}
end
end Go.Ev
namespace Go.Ev
open Go Go.Proofs
variable {B:Nat}
set_option maxRecDepth 100000
def imL (p l:List Int):List Int:=l.map fun x=>p.getD x.toNat 0
def zw1 (lines:List (List Int)) (p:List Int):Bool:=lines.all fun l=>decide (srt (imL p l)∈lines)
def zkw (cells:Int) (lines:List (List Int)) (p:List Int):Int:=if zer cells lines≠0 then zer cells lines else jW p cells
def zw2 (cells:Int) (lines:List (List Int)) (p:List Int):AV:=if zkw cells lines p≠0 then .tup [.bool false,I (zkw cells lines p)] else .tup [.bool (zw1 lines p),I 0]
end Go.Ev
namespace Go.Ev
def cst (x:Nat):Nat:=if x=1 then 0 else x
abbrev nxt (p:List Int) (c:Nat):Nat:=(p.getD c 0).toNat
def itN (p:List Int):Nat->Nat->Nat
 | 0,c=>c
 | k+1,c=>nxt p (itN p k c)
theorem zkx (p:List Int):∀ a b c,itN p (a+b) c=itN p a (itN p b c)
 | 0,b,c=>by rw [Zaw];rfl
 | a+1,b,c=>by rw [Nat.succ_add];show nxt p (itN p (a+b) c)=nxt p (itN p a (itN p b c));rw [zkx p a b c]
structure PN (p:List Int):Prop where
 lt:∀ i,i<p.length->nxt p i<p.length
 inj:∀ i j,i<p.length->j<p.length->nxt p i=nxt p j->i=j
structure Cl (p:List Int) (S:List Nat):Prop where
 nd:S.Nodup
 lt:∀ x∈S,x<p.length
 cl:∀ x∈S,nxt p x∈S
theorem Cl.back {p:List Int} (h:PN p) {S:List Nat} (C:Cl p S) {x:Nat} (hx:x<p.length) (hn:nxt p x∈S):x∈S:=by
 have nd:(S.map (nxt p)).Nodup:=by
  rw [List.Nodup,Zbp];refine (List.Pairwise.and_mem.1 C.nd).imp ?_;rintro a b ⟨ha,hb,hab⟩ q;exact hab (h.inj a b (C.lt a ha) (C.lt b hb) q)
 have:=allG nd (fun y hy=>by obtain ⟨z,hz,rfl⟩:=List.mem_map.1 hy;exact C.cl z hz) (by simp) _ hn;obtain ⟨y,hy,e⟩:=List.mem_map.1 this;rw [<- h.inj y x (C.lt y hy) hx e];exact hy
structure zw3 (p:List Int) (r h:Nat):Prop where
 pos:0<r
 back:itN p r h=h
 min:∀ j,0<j->j<r->itN p j h≠h
theorem zw3.mul {p:List Int} {r b:Nat} (c:zw3 p r b):∀ q,itN p (q*r) b=b
 | 0=>by rw [Nat.zero_mul];rfl
 | q+1=>by rw [Nat.succ_mul,zkx,c.back,c.mul q]
end Go.Ev
namespace Go.Ev
open Go Go.Proofs
variable {B:Nat}
set_option maxRecDepth 100000
def fewB (G:List Sym) (n k:Int):Bool:=decide ((G.length:Int)<=k)&&(decide (n<=16)&&decide (jI G n=0))
theorem qcx {G:List Sym} {n k:Int} (hk:k<=100000):Pure Tryz.prog B 21 [vw G,I n,I k] (· = .bool (fewB G n k)):=by
 refine yE fun h nx K H0 hK=>zP zR yh 1000 fun hf' => ?_;rw [F21.go,F21.t3,zC,F21.rM,F21.t2,zC,F21.rP,F21.r1_0,F21.zaa,zO,sO];have last:∀ b:Bool,b=fewB G n k->K (.bool b) h nx=.ok True:=fun v hv=>hK _ _ _ _ _ H0 (.bool _) (by rw [hv]);by_cases c1:(G.length:Int)<=k
 case neg =>
  simp only [c1,decide_false,jU,zW];rw [F21.aI,F21.rQ];simp only [jU,zpu];rw [F21.tZ,F21.fJ];simp only [jU,zW];simp only [yB,yO];rw [F21.ret];exact last _ (by rw [fewB,decide_eq_false c1];rfl)
 simp only [c1,decide_true,jN,sO,zZ];rw [F21.aI,F21.rQ];by_cases c2:n<=16
 case neg =>
  simp only [c2,decide_false,jU,zpu];rw [F21.tZ,F21.fJ];simp only [jU,zW];simp only [yB,yO];rw [F21.ret];exact last _ (by rw [fewB,decide_eq_false c2];simp)
 simp only [c2,decide_true,jN,zka];refine zge (by omega) _ _ _ _ ?_;rintro _ rfl _;rw [F21.tZ,F21.fJ];simp only [jN,rG,zZ];simp only [yB,yO];rw [F21.ret];exact last _ (by rw [fewB,decide_eq_true c1,decide_eq_true c2];rfl)
def appE (a:Sym) (f:List Int):Int:=if gY f≠0 then gY f else if jW a.1 f.length≠0 then jW a.1 f.length else uJ (yG a.2 a.1 f)
def appV (a:Sym) (f:List Int):AV:=if appE a f≠0 then .tup [.zf,I (appE a f)] else .tup [encI (yG a.2 a.1 f),I 0]
theorem zhf {a:Sym} {f:List Int} (ha:a.1.length<=100000) (hl:f.length<=100000):Pure Tryz.prog B 22 [encS a,encI f] (· = appV a f):=by
 refine yE fun h nx K H0 hK=>zP zR yh 10000 fun hf' => ?_;have hal:(yG a.2 a.1 f).length=f.length:=gL ..;rw [F22.go,F22.t27,zC,F22.rM];refine H0.box (l:=[encI a.1,.bool a.2]) rfl fun b2 h1 nx1 H1 => ?_;rw [F22.t26,zC,F22.t7,zC,F22.rP]
 (refine zku (by omega) _ _ _ _ ?_;rintro _ rfl _)
 rw [F22.t6,zC,F22.rF,qm,F22.t5,yA,F22.v8];by_cases z:gY f=0
 case neg =>
  rw [decide_eq_false z,Zag,zH,F22.t4,zC,F22.aF];simp only [yB,yO];rw [F22.ret];have e:appE a f=gY f:=if_pos z;exact hK _ _ _ _ _ H1 (uE (zL rfl) (zL rfl)) (by rw [appV,e,if_pos z])
 obtain ⟨f1,f2⟩:=zdq z;rw [decide_eq_true z,Zaf,zJ,yH,F22.t25,zC,F22.t14,zC,F22.t8_s,H1.zn (k:=0) (n:=2) rfl rfl,zO];refine zp1 ha _ _ _ _ ?_;rintro _ rfl _;rw [F22.t13,zC,F22.t9_s,qm,F22.t12,yA,F22.v9];by_cases y:jW a.1 f.length=0
 case neg =>
  rw [decide_eq_false y,Zag,zH,F22.t11,zC,F22.aZ];simp only [yB,yO];rw [F22.ret];have e:appE a f=jW a.1 f.length:=by rw [appE,if_neg (fun q=>q z),if_pos y]
  exact hK _ _ _ _ _ H1 (uE (zL rfl) (zL rfl)) (by rw [appV,e,if_pos y])
 obtain ⟨_,s2,s3⟩:=kF y;have e:appE a f=uJ (yG a.2 a.1 f):=by rw [appE,if_neg (fun q=>q z),if_neg (fun q=>q y)]
 rw [decide_eq_true y,Zaf,zJ,yH,F22.t24,zC,F22.ze7,H1.zn (k:=0) (n:=2) rfl rfl];refine zhc (g:=a.1) (c:=a.2) (by omega) (by omega) s3 (fun y hy=>by have:=f2 y hy;omega) _ _ _ _ ?_;rintro _ rfl _;rw [F22.t23,zC,F22.t20,zC,F22.ze9];refine m6 (l:=yG a.2 a.1 f) (by omega) (fun x _ K hK=>zjd x _ _ _ _ fun v hv _=>by rw [hv];exact hK) ?_;rw [F22.t19,yA,F22.v10];cases hnf:(yG a.2 a.1 f).any rE with
 | true =>
  have e2:uJ (yG a.2 a.1 f)=3:=by rw [uJ,hnf];rfl
  rw [zH,F22.t18,zC,F22.oh];simp only [yB,yO];rw [F22.ret];exact hK _ _ _ _ _ H1 (uE (zL rfl) (zL rfl)) (by rw [appV,e,e2];rfl)
 | false =>
  have e2:uJ (yG a.2 a.1 f)=0:=by rw [uJ,hnf];rfl
  rw [zJ,yH,F22.t22,zC,F22.zm5];simp only [yB,yO];rw [F22.ret];exact hK _ _ _ _ _ H1 (uE (zL (uH _)) (zL rfl)) (by rw [appV,e,e2];rfl)
theorem QV.at {v:AV} {o:Ob} {q:List Sym} {i:Nat} (h:QV v o q) (hi:i<q.length):∃ id off,(∀ op:AV->OP,zV 2 v (I (i:Int)) op=op (.ptr id off))/\∀ {h0 hh:T Blk} {nx:Pa} {L:List Ob} {k:Nat},Hp h0 hh nx L->L[k]? = some o->∀ op:AV->OP,zS 2 (.ptr id off) hh op=op (encS q[i]):=by
 have hq:∃ a t,q=a::t:=by cases q with
  | nil=>simp at hi
  | cons a t=>exact ⟨a,t,rfl⟩
 obtain ⟨a,t,rfl⟩:=hq;obtain ⟨id,off,cap,l,rfl,g3,g4,g⟩:=h.cells;refine ⟨id,off+i*2,fun op=>qH hi,fun {h0 hh nx L k} H hk op => ?_⟩;obtain ⟨op',t',g1,g2⟩:=g hh (H.own _ (Zab hk));show jf (T.get .no id hh) _ _=_;rw [g1];show (bif Nat.ble (off+i*2+2) l.length then op (.agg (yD t' (off+i*2) 2)) else .no 8)=_;rw [Zac (by omega),cond_true];have e:∀ j,j<l.length->T.get .u (.of j) t'=l.getD j .u:=fun j hj=>by
  have:=yC t' 0 l.length j hj;rw [g2,Zaw] at this;rw [Zaa,this];rfl
 have d:∀ j,j<2->l.getD (off+i*2+j) .u=((jF (a::t)).drop (i*2)).getD j .u:=fun j hj=>by
  rw [<- g4,Zaa,Zaa,List.getElem?_drop,List.getElem?_take_of_lt (by omega),List.getElem?_drop]
  congr 2;omega
 have e2:yD t' (off+i*2) 2=[T.get .u (.of (off+i*2)) t',T.get .u (.of (off+i*2+1)) t']:=rfl;have d0:=d 0 (by omega);rw [Zco] at d0;rw [e2,e _ (by omega),e _ (by omega),d 1 (by omega),d0,j5 hi]
 rfl
theorem QV.frzE {v:AV} {o:Ob} {q:List Sym} (h:QV v o q) (hq:q≠[]) {hh hz:T Blk} (ho:o.holds hh) (hn:∀ id,id∈o.names->T.get .no id hz=.no):rU hz hh v (vw q):=by
 obtain ⟨a,t,rfl⟩:∃ a t,q=a::t:=by cases q with
  | nil=>exact absurd rfl hq
  | cons a t=>exact ⟨a,t,rfl⟩
 have key:∀ (id:Pa) (off:Nat) (cap:Option Nat) (l:List AV),v=.sl id off (a::t).length cap 2->dL (a::t).length cap->id∈o.names->off+(a::t).length*2<=l.length->(l.drop off).take ((a::t).length*2)=jF (a::t)->(∃ op tt,T.get .no id hh=.cells op l.length tt/\yD tt 0 l.length=l)->rU hz hh v (vw (a::t)):=by
  rintro id off cap l rfl hc hid g3 g4 ⟨op,tt,g1,g2⟩;refine .sl _ _ _ _ _ op _ tt _ (hn id hid) hc g1 g3 (uW _) (zjf _) fun i x hx => ?_;have hil:i<(a::t).length*2:=by have:=(List.getElem?_eq_some_iff.1 hx).1;rwa [uW] at this
  have:=yC tt 0 l.length (off+i) (by omega);rw [g2,Zaw] at this;rw [<- g4,List.getElem?_take_of_lt hil,List.getElem?_drop,this] at hx;rw [Option.some.inj hx];exact zL (zcm x (by rw [<- g4];exact Zab (i:=i) (by rw [List.getElem?_take_of_lt hil,List.getElem?_drop,this,Option.some.inj hx])))
 cases h with
 | cap id off l _ h1 h2=>exact key id off _ l rfl (Zai _) (by simp [Ob.names]) h1 h2 ho
 | opn id off m l _ h1 h2 h3 =>
  obtain ⟨tt,g1,g2,g3⟩:=ho;exact key id off _ l rfl trivial (by simp [Ob.names]) (by omega) (by rw [h3,Zal (by rw [uW];exact Zai _)]) ⟨true,tt,by rw [g1,h2],by rw [h2];exact g3⟩
end Go.Ev
namespace Go.Ev
open Go
variable {h0 h:T Blk} {nx:Pa} {L:List Ob}
theorem zky {α:Type} (L:List α):∀ N:Nat,(List.range N).filterMap (fun k=>L[k]?)=L.take N
 | 0=>rfl
 | N+1=>by
  rw [List.range_succ,List.filterMap_append,zky L N,Zan];cases h:L[N]? <;> simp [h]
theorem Hp.zq3:∀ (E:List Ob) {L:List Ob},Hp h0 h nx (E++L)->Hp h0 h nx L
 | [],_,H=>H
 | _::E,_,H=>Hp.zq3 E H.drop
theorem Hp.pick (N:Nat) (ks:List Nat) (H:Hp h0 h nx L) (hk:ks.Nodup) (hl:∀ k∈ks,k<N):Hp h0 h nx (ks.filterMap (fun k=>L[k]?)++L.drop N):=by
 obtain ⟨s,hs⟩:=subG ks (List.range N) hk fun k hk=>List.mem_range.2 (hl k hk);have h1:=hs.filterMap (fun k=>L[k]?);rw [zky,List.filterMap_append] at h1;have h2:L.Perm (s.filterMap (fun k=>L[k]?)++(ks.filterMap (fun k=>L[k]?)++L.drop N)):=by
  have:=(h1.trans List.perm_append_comm).append_right (L.drop N);rw [List.take_append_drop,Zcg] at this;exact this
 exact (H.perm h2).zq3
end Go.Ev
namespace Go.Ev
open Go Go.Proofs
variable {B:Nat}
set_option maxRecDepth 100000
def sqV (n:Nat) (mv:Nat->Nat->Nat×Nat) (c:Nat):Int:=(n:Int)*(((mv (c / n) (c%n)).1:Nat):Int)+(((mv (c / n) (c%n)).2:Nat):Int)
def sqM (n:Nat) (mv:Nat->Nat->Nat×Nat):List Int:=(List.range (n*n)).map (sqV n mv)
def mvD (n k i j:Nat):Nat×Nat:=if k / 4%2=1 then (if k / 2%2=1 then n-1-j else j,if k%2=1 then n-1-i else i) else (if k%2=1 then n-1-i else i,if k / 2%2=1 then n-1-j else j)
def dS (n k:Nat):Sym:=(sqM n (mvD n k),false)
section
variable {h0:T Blk} {n:Nat} {nb gb qb ub zb gm qa ua:Pa}
end
end Go.Ev
namespace Go.Ev
open Go Go.Proofs
variable {B:Nat}
set_option maxRecDepth 100000
def zji (L:List Ob) (p:AV×Sym):Prop:=∃ rid cap,p.1=.sl rid 0 p.2.1.length cap 1/\dL p.2.1.length cap/\Ob.arr rid (p.2.1.map I)∈L
theorem zji.mono {L L':List Ob} {p:AV×Sym} (h:zji L p) (hl:∀ x∈L,x∈L'):zji L' p:=by
 obtain ⟨r,c,e,hc,m⟩:=h;exact ⟨r,c,e,hc,hl _ m⟩
section
variable {h0:T Blk} {n:Nat} {lines:List (List Int)} {b1 bo bc bu bd bk bz kb gm cb ub dn:Pa} {o:Nat->Option Pa}
end
end Go.Ev
namespace Go.Ev
open Go Go.Proofs
variable {B:Nat}
set_option maxRecDepth 100000
theorem qcy {l:List (List UInt8)} {s:List UInt8} (hl:l.length<=1000):Pure Tryz.prog B 28 [cM l,.str s] (· = .bool (decide (s∈l))):=by
 refine yE fun h nx K H0 hK=>zP zR yh 10000 fun hf => ?_;rw [F28.go,F28.t22,zC,F28.rM,F28.t21,zC,F28.t18,zC,F28.rP,zO,F28.t17,jH];refine F28.qaa (fun m x5 h' nx'=>∃ i:Nat,x5=I i/\m=l.length-i/\i<=l.length/\h'=h/\nx'=nx/\s∉l.take i) (m:=l.length) (by omega) ⟨0,rfl,by omega,by omega,rfl,rfl,by simp⟩ ?_;rintro m z2 z3 z5 z6 z7 h nx R ⟨i,rfl,rfl,hi,rfl,rfl,hn⟩ hR;rw [F28.t15,zC,F28.rF,jl];by_cases hlt:i<l.length
 case neg =>
  rw [decide_eq_false (by omega),F28.t14,zC,F28.t3,yA,F28.v6,zJ,qG,vP,F28.t20,zC,F28.zm9];rw [Zal (by omega)] at hn;simp only [yB,yO];rw [F28.ret];exact hK _ _ _ _ _ H0 (zL rfl) (by rw [decide_eq_false hn])
 rw [decide_eq_true (by omega),F28.t14,zC,F28.t3,yA,F28.v6,zH,yH,F28.t13,zC,F28.t11,jH,F28.t10,zC,F28.t4_s,F28.t9,zC,F28.t5_s,xu rfl hlt,ldL (getS hlt),qcp];by_cases c:l[i]=s
 ·rw [decide_eq_true c,F28.t8,yA,F28.v7,zH,F28.t7,zC,F28.aJ];simp only [yB,xM,yO];rw [F28.ret];exact hK _ _ _ _ _ H0 (zL rfl) (by rw [decide_eq_true (by rw [<- c];exact Zak hlt)])
 ·rw [decide_eq_false c,F28.t8,yA,F28.v7,zJ,yH,F28.ze6,jk (by omega)];refine hR (l.length-(i+1)) _ _ _ _ _ _ _ (by omega) ⟨i+1,rfl,rfl,by omega,rfl,rfl,?_⟩;rw [Zan,List.getElem?_eq_getElem hlt,Option.toList_some,Zav,Zbl];exact fun q=>q.elim hn fun e=>c e.symm
theorem zf4 {n k:Nat} (h1:1<=n) (h2:n<=6) (hk:k<3):Pure Tryz.prog B 26 [.str (gE k),I (n:Int)] (· = sqVZ k n):=by
 match k,hk with
 | 0,_=>exact bN qcs ⟨h1,h2⟩
 | 1,_=>exact bN qct ⟨h1,h2⟩
 | 2,_=>exact bN qcu ⟨h1,h2⟩
def sQ (p:List Int) (i:Nat):Nat:=p.idxOf (i:Int)
def dstP (p:List Int) (i:Nat):Nat:=(p.getD i 0).toNat
def vU (N:Nat) (p:List Int):Bool:=decide (p.length=N)&&p.all (fun x=>decide (0<=x)&&decide (x<(N:Int)))&&(List.range N).all fun i=>decide (sQ p i<N)&&decide (dstP p i<N)&&decide (sQ p (dstP p i)=i)&&decide (dstP p (sQ p i)=i)
theorem mA {N:Nat} {p f:List Int} (hp:vU N p=true) (hd:DP N (p,false)) (hf:f.length=N):yG false p f=pull N (sQ p) f:=by
 simp only [vU,Zad,decide_eq_true_eq,Zae,Zao] at hp;obtain ⟨⟨p1,p2⟩,p3⟩:=hp;have hal:(yG false p f).length=f.length:=gL ..;refine Zau fun i => ?_;by_cases hi:i<N
 ·obtain ⟨⟨⟨q1,q2⟩,q3⟩,q4⟩:=p3 i hi;have e:=wD (a:=(p,false)) hd hf q1;have e2:(p,false).1.getD (sQ p i) 0=(i:Int):=by
   have:(p.getD (sQ p i) 0).toNat=i:=q4;have hm:p.getD (sQ p i) 0∈p:=by
    rw [Zaa,List.getElem?_eq_getElem (by omega)];exact Zak _
   have:=p2 _ hm;show p.getD (sQ p i) 0=_;omega
  rw [e2,Int.toNat_natCast] at e;rw [List.getElem?_eq_getElem (by omega),pull,List.getElem?_map,List.getElem?_range hi];show _=some (f.getD (sQ p i) 0);rw [<- List.getElem?_eq_getElem (by omega:i<(yG false p f).length)];simpa [xOf] using e
 ·rw [List.getElem?_eq_none (by omega),List.getElem?_eq_none (by rw [kT];omega)]
theorem zmv {N:Nat} {p f:List Int} (hp:vU N p=true) (hf:f.length=N):pull N (dstP p) (pull N (sQ p) f)=f:=by
 simp only [vU,Zad,decide_eq_true_eq,Zae,Zao] at hp;refine Zau fun i => ?_;by_cases hi:i<N
 ·obtain ⟨⟨⟨q1,q2⟩,q3⟩,q4⟩:=hp.2 i hi;rw [pull,List.getElem?_map,List.getElem?_range hi];show some ((pull N (sQ p) f).getD (dstP p i) 0)=_;rw [zck q2,q3,Zaa,List.getElem?_eq_getElem (by omega)];rfl
 ·rw [List.getElem?_eq_none (by rw [kT];omega),List.getElem?_eq_none (by omega)]
def wP (L:List (List Int)) (N:Nat) (p:List Int):Bool:=cloB L N (sQ p)&&cloB L N (dstP p)
theorem wV {L:List (List Int)} {N:Nat} {p f:List Int} (hp:vU N p=true) (hk:wP L N p=true) (hf:f.length=N):Cst L (pull N (sQ p) f)↔Cst L f:=by
 rw [wP,Zad] at hk;exact ⟨fun h=>by have:=zha hk.2 h;rwa [zmv hp hf] at this,zha hk.1⟩
def linB (L:List (List Int)) (p:List Int):Bool:=L.all fun l=>L.any fun m=>(imL p l).isPerm m&&ascB m
 where ascB:List Int->Bool
 | []=>true
 | [_]=>true
 | a::b::l=>decide (a<b)&&ascB (b::l)
theorem zq4:∀ l:List Int,linB.ascB l=true->l.Pairwise (· < ·)
 | [],_=>.nil
 | [_],_=>by simp
 | a::b::l,h=>by
  rw [linB.ascB,Zad,decide_eq_true_eq] at h;have ih:=zq4 (b::l) h.2;refine List.pairwise_cons.2 ⟨fun x hx => ?_,ih⟩;rcases List.mem_cons.1 hx with rfl | hx
  ·exact h.1
  ·have:=(List.pairwise_cons.1 ih).1 x hx;omega
theorem zvd {L:List (List Int)} {p:List Int} (h:linB L p=true):zw1 L p=true:=by
 refine List.all_eq_true.2 fun l hl=>decide_eq_true ?_;obtain ⟨m,hm,e⟩:=List.any_eq_true.1 (List.all_eq_true.1 h l hl);rw [Zad] at e;rw [<- pM (List.isPerm_iff.1 e.1).symm ((zq4 m e.2).imp fun h=>by omega)];exact hm
def moveB (n:Nat) (ks:List Nat) (p:List Int):Bool:=vU (n*n) p&&ks.all fun k=>wP (sqL k n) (n*n) p&&linB (sqL k n) p
theorem zzf:((List.range 5).all fun n=>(List.range 3).all fun k=>decide (zer ((((n+1)*(n+1):Nat):Int)) (sqL k (n+1))=0))=true:=by decide +kernel
theorem zzg:((List.range 5).all fun n=>(List.range 3).all fun k=>(sqL k (n+1)).all fun l=>decide (l.length<=5))=true:=by decide +kernel
theorem qcz {a b:Nat} {K:AV->OP} (hb:0<b):zh .rem .int (I (a:Int)) (I (b:Int)) K=K (I ((a%b:Nat):Int)):=by
 have e:zh .rem .int (I (a:Int)) (I (b:Int)) K=(bif ieq (b:Int) 0 then Out.no 5 else xg ((a:Int).tmod b) fun z=>K (.int .i64 z)):=rfl;have h0:ieq (b:Int) 0=false:=by rw [vK,beq_eq_false_iff_ne];omega
 rw [e,h0,cond_false,gU];rfl
theorem zve {z:Int} {K:AV->OP} (h:0<=z/\z<256):vT .i64 (.int .u8 z) K=K (I z):=by
 show xg (kO .i64 z) (fun z=>K (.int .i64 z))=_;rw [gU,wF,kE (by omega)]
theorem zzh {a b:AV} {l:List AV} {h:T Blk} {K:AV->OP}:zS 2 (.fp (a::b::l)) h K=K (.agg [a,b]):=nr rfl
theorem zhg {n:Nat} {f:List Int} {K:AV->OP}:jO [(I 0),(I 0),.zf] [(0,1,I (n:Int)),(1,1,I (n:Int)),(2,1,encI f)] K=K (.agg [I (n:Int),I (n:Int),encI f]):=nr rfl
structure Moved (n:Nat) (ks:List Nat) (s:Sym) (f:List Int):Prop where
 app:appV s f=.tup [encI (yG false s.1 f),I 0]
 len:(yG false s.1 f).length=n*n
 err:jT n n (yG false s.1 f)=0
 cst:∀ k∈ks,mg k n (yG false s.1 f)=mg k n f
 kp:∀ k∈ks,zw2 ((n*n:Nat):Int) (sqL k n) s.1=.tup [.bool true,I 0]
theorem zhh {n k:Nat} (h1:1<=n) (h5:n<=5) (hk:k<3):zer ((n*n:Nat):Int) (sqL k n)=0/\∀ l∈sqL k n,l.length<=5:=by
 have a:=List.all_eq_true.1 (List.all_eq_true.1 zzf (n-1) (List.mem_range.2 (by omega))) k (List.mem_range.2 hk);have b:=List.all_eq_true.1 (List.all_eq_true.1 zzg (n-1) (List.mem_range.2 (by omega))) k (List.mem_range.2 hk);rw [show n-1+1=n by omega] at a b;exact ⟨of_decide_eq_true a,fun l hl=>of_decide_eq_true (List.all_eq_true.1 b l hl)⟩
theorem moved {n:Nat} {ks:List Nat} {s:Sym} {f:List Int} (h1:1<=n) (h5:n<=5) (hks:∀ k∈ks,k<3) (hm:(moveB n ks s.1 && !s.2)=true) (hd:DS (n*n) s) (hnd:s.1.Nodup) (hf:f.length=n*n) (hfe:gY f=0) (he:jT n n f=0):Moved n ks s f:=by
 rw [Zad,moveB,Zad] at hm;obtain ⟨⟨hp,hk⟩,hs2⟩:=hm;have hs2:s.2=false:=by simpa using hs2
 have hdp:DP (n*n) (s.1,false):=⟨hd,hnd⟩;have hsy:jW s.1 ((n*n:Nat):Int)=0:=by
  have h25:n*n<=25:=Zbg h5 h5;have hl:s.1.length=n*n:=hd.1;rw [jW,if_neg (by omega),if_neg (by omega),if_pos (DP.perm (a:=(s.1,false)) hdp)]
 have hpl:=mA hp hdp hf;have hlen:(yG false s.1 f).length=n*n:=by rw [hpl,kT]
 have hmem:∀ x∈yG false s.1 f,x∈f:=fun x hx=>by
  rw [hpl] at hx;obtain ⟨i,hi,rfl⟩:=List.mem_map.1 hx;have hi:=List.mem_range.1 hi;simp only [vU,Zad,decide_eq_true_eq,Zae,Zao] at hp;have:=(hp.2 i hi).1.1.1;exact Zab (show f[sQ s.1 i]? = some (f.getD (sQ s.1 i) 0) by rw [Zaa,List.getElem?_eq_getElem (by omega)];rfl)
 have hfar:f.any rE=false:=by
  rw [gY] at hfe;by_cases c:256<f.length
  ·rw [if_pos c] at hfe;cases hfe
  ·rw [if_neg c,uJ] at hfe;cases q:f.any rE with
   | false=>rfl
   | true=>rw [q] at hfe;cases hfe
 have qc0:(yG false s.1 f).any rE=false:=List.any_eq_false.2 fun x hx q=>List.any_eq_false.1 hfar x (hmem x hx) q;have hfl:f.any aP=false:=by
  unfold jT at he;by_cases c1:(n:Int)≠n\/(n:Int)<0\/1000<(n:Int)\/(f.length:Int)≠n*n
  ·rw [if_pos c1] at he;cases he
  ·rw [if_neg c1,if_neg (by omega)] at he;cases q:f.any aP with
   | false=>rfl
   | true=>rw [q] at he;cases he
 have hfl2:(yG false s.1 f).any aP=false:=List.any_eq_false.2 fun x hx q=>List.any_eq_false.1 hfl x (hmem x hx) q;refine ⟨?_,hlen,?_,fun k hk' => ?_,fun k hk' => ?_⟩
 ·have e0:appE s f=0:=by
   rw [appE,if_neg (fun q=>q hfe),hf,if_neg (fun q=>q hsy),hs2,uJ,qc0];rfl
  rw [appV,if_neg (fun q=>q e0),hs2]
 ·rw [jT,if_neg (by rw [hlen];simp;omega),if_neg (by omega),hfl2];rfl
 ·have hq:=List.all_eq_true.1 hk k hk';rw [Zad] at hq;rw [hpl];exact fP (by rw [qS,qS];exact wV hp hq.1 hf)
 ·have hq:=List.all_eq_true.1 hk k hk';rw [Zad] at hq;have:=(zhh h1 h5 (hks k hk')).1;have e0:zkw ((n*n:Nat):Int) (sqL k n) s.1=0:=by rw [zkw,if_neg (fun q=>q this),hsy]
  rw [zw2,if_neg (fun q=>q e0),zvd hq.2]
theorem kinL (n:Nat) (f:List Int):(aW n f).length<=1000:=Zbt (zi7 knm _) (by decide)
theorem zq5 {r c:Int} {f:List Int} (h:jT r c f=0):r=c/\1<=r/\r<=16/\(f.length:Int)=r*r:=by
 unfold jT at h;by_cases c1:r≠c\/r<0\/1000<r\/(f.length:Int)≠r*r
 ·rw [if_pos c1] at h;cases h
 ·rw [if_neg c1] at h;by_cases c2:r<1\/16<r
  ·rw [if_pos c2] at h;cases h
  ·omega
end Go.Ev
