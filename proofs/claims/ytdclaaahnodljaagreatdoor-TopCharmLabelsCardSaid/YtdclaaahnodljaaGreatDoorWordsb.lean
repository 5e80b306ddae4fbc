import Derived.Test.YtdclaaahnodljaaGreatDoorWordsa
import Derived.Test.YtdclaaahnodljaaGreatDoorLaws
import Derived.Shelf.SlSortCmp.Whole1
import Derived.Deep.Slices
import Derived.Shelf.SlSortCmp.InsertionK
import Derived.Test.YtdclaaahnodljaaGreatDoorEvD
import Derived.Sort.Grow
import Derived.Sort.Row
import Derived.Shelf.SlSortCmp.WholeK
import Derived.Test.YtdclaaahnodljaaGreatDoorCodea
import Derived.IntWalk
import Derived.KernelRfl
set_option linter.unusedSimpArgs false
set_option linter.unusedVariables false
namespace Go.Ev
open Go Go.Proofs Go.RowKit Go.Sort
def aU (h:T Blk) (id0:Pa) (a:AV) (l:List Int):Prop :=
 a=encI l\/∃ id off o op m t,id≠id0/\a=.sl id off l.length o 1/\T.get .no id h=.cells op m t/\off+l.length<=m/\zX t off l.length=l.map I
theorem aU.jf {h:T Blk} {id0:Pa} {a:AV} {l:List Int} (R:aU h id0 a l):jf a=true:=by
 rcases R with rfl | ⟨_,_,_,_,_,_,_,rfl,_⟩ <;> rfl
theorem aU.set {h:T Blk} {id0:Pa} {a:AV} {l:List Int} {b:Blk} (R:aU h id0 a l):aU (T.set .no b id0 h) id0 a l:=by
 rcases R with rfl | ⟨id,off,o,op,m,t,h1,h2,h3,h4,h5⟩
 ·exact .inl rfl
 ·exact .inr ⟨id,off,o,op,m,t,h1,h2,by rw [T.zy (h:=h1)];exact h3,h4,h5⟩
theorem aU.cells {P:Program} {B:Nat} {E:Env} {h:T Blk} {nx:Pa} {w:World} {id0:Pa} {a:AV} {l:List Int} {v:Value} (H:HR P B E h nx w) (R:aU h id0 a l) (hv:VR E a v) :
  ∃ p c,v=.slice p l.length c/\(l.length=0\/∃ b o,p=some ⟨b,o,none⟩/\∀ j,j<l.length->w.cell? ⟨b,o+j,none⟩=some (.int .i64 l[j]!)):=by
 rcases R with rfl | ⟨id,off,o,op,m,t,h1,rfl,h3,h4,h5⟩
 ·obtain ⟨_,_,p,c,rfl,hh⟩:=hv.aW;refine ⟨p,c,rfl,?_⟩;rcases hh with h0 | ⟨b,off,rfl,_,hf⟩
  ·exact .inl h0
  ·refine .inr ⟨b,off,rfl,fun j hj => ?_⟩;obtain ⟨v,hv1,hv2⟩:=VRF.get hf (i:=j) (a:=I l[j]) (by rw [List.getElem?_map,List.getElem?_eq_getElem hj];rfl);simp only [VR] at hv2;subst hv2;obtain ⟨⟨c,ty,fr,q1,q2⟩,_⟩:=H.frz _ _ _ hv1;rw [getElem!_pos l j hj];simp [World.cell?,q1,q2]
 ·obtain ⟨b,n,c,hE,rfl,hcap⟩:=hv.rX;refine ⟨_,c,rfl,.inr ⟨b,off,rfl,fun j hj => ?_⟩⟩;obtain ⟨b',n',ob,q1,q2,q3⟩:=H.blk id (by rw [h3];intro e;cases e);rw [hE] at q1;cases q1;rw [h3] at q3;obtain ⟨cs,ty,fr,rfl,g1,g2,g3,g4,hc⟩:=q3;obtain ⟨_,v',k1,k2⟩:=hc (off+j) (by omega);have he:T.get .undef (.of (off+j)) t=I l[j]:=by
   have e1:=zV t off l.length j (by omega);rw [h5,List.getElem?_map,List.getElem?_eq_getElem hj] at e1;exact (Option.some.inj e1).symm
  rw [he] at k2;simp only [VR] at k2;subst k2;rw [getElem!_pos l j hj];simp [World.cell?,q2,k1]
theorem qC {β γ:Type} {f:β->γ}:∀ {l:List β},(l.map f).Nodup->∀ {a b:β},a∈l->b∈l->f a=f b->a=b
 | [],_,_,_,h,_,_=>by cases h
 | x::l,hn,a,b,ha,hb,e=>by
  rw [Zay,Zcj] at hn;rcases List.mem_cons.1 ha with ea | ha'
  ·rcases List.mem_cons.1 hb with eb | hb'
   ·exact ea.trans eb.symm
   ·exact (hn.1 (List.mem_map.2 ⟨b,hb',(ea ▸ e).symm⟩)).elim
  ·rcases List.mem_cons.1 hb with eb | hb'
   ·exact (hn.1 (List.mem_map.2 ⟨a,ha',(eb ▸ e)⟩)).elim
   ·exact qC hn.2 ha' hb' e
end Go.Ev
namespace Go.Proofs
open Go.Shelf Go.Lib Go.RowKit Go.Sort
def rJ (a b:List Int×Bool):Int:=if wo a.1 b.1≠0\/a.2=b.2 then wo a.1 b.1 else if a.2 then 1 else -1
theorem drew_grow (w:World) (X Y:Obj) (q:Nat):((w.alloc X).alloc Y).drewN q=grow (w.drewN q) #[X,Y]:=by
 have e:(w.heap.push X).push Y=w.heap ++ #[X,Y]:=by apply Array.ext';simp
 unfold World.drewN World.alloc grow
 dsimp only
 rw [e]
theorem xV {w:World} {X:Obj} {a:Addr} {v:Value} (h:w.cell? a=some v):(w.alloc X).cell? a=some v:=by
 unfold World.cell? World.alloc at *
 cases e:w.heap[a.block]? with
 | none=>rw [e] at h;cases h
 | some o =>
  have hl:a.block<w.heap.size:=(Array.getElem?_eq_some_iff.1 e).1;have:(w.heap.push X)[a.block]? = w.heap[a.block]? := by rw [Array.getElem?_push,if_neg (by omega)]
  simp only [this,e] at *
  exact h
set_option maxHeartbeats 2000000 in
set_option maxRecDepth 100000 in
theorem zgs (p1 p2:Option Addr) (n c m d:Nat) (xs ys:List Int) (a b:Bool) (w:World) (hn:n=xs.length) (hm:m=ys.length) (hbig:n<=1000000) (hbig2:m<=1000000)
  (hc1:n=0\/∃ b1 o1,p1=some ⟨b1,o1,none⟩/\∀ j,j<n->w.cell? ⟨b1,o1+j,none⟩=some (.int .i64 xs[j]!)) (hc2:m=0\/∃ b2 o2,p2=some ⟨b2,o2,none⟩/\∀ j,j<m->w.cell? ⟨b2,o2+j,none⟩=some (.int .i64 ys[j]!)) :
  Calls Tryz.prog 114 #[.agg #[.slice p1 n c,.bool a],.agg #[.slice p2 m d,.bool b]] w fun e w'=>e=.returned (.int .i64 (rJ (xs,a) (ys,b)))/\∃ q os',w'=grow (w.drewN q) os':=by
 have H1:Aside (n=0\/∃ b1 o1,p1=some ⟨b1,o1,none⟩/\∀ j,j<n->w.cell? ⟨b1,o1+j,none⟩=some (.int .i64 xs[j]!)):=hc1;have H2:Aside (m=0\/∃ b2 o2,p2=some ⟨b2,o2,none⟩/\∀ j,j<m->w.cell? ⟨b2,o2+j,none⟩=some (.int .i64 ys[j]!)):=hc2
 clear hc1 hc2
 have mixed:Tryz.prog.follows .mixedOrders=true:=by kernel_rfl
 have t0:=Tryz.underlying0;have a0:=Tryz.isAgg0;have z0:=Tryz.sizeOf0;have v0:=Tryz.zeroValue0;have t3:=Tryz.underlying3;have a3:=Tryz.isAgg3;have z3:=Tryz.sizeOf3;have v3:=Tryz.zeroValue3;have t4:=Tryz.underlying4;have a4:=Tryz.isAgg4;have z4:=Tryz.sizeOf4;have v4:=Tryz.zeroValue4;have t35:=Tryz.underlying38;have a35:=Tryz.isAgg38;have z35:=Tryz.sizeOf38;have v35:=Tryz.zeroValue38;have t112:=Tryz.underlying115;have a112:=Tryz.isAgg115;have z112:=Tryz.sizeOf115;have v112:=Tryz.zeroValue115;have S0:Aside (n=xs.length/\m=ys.length):=⟨hn,hm⟩
 have hcall:∃ r,Aside (wo xs ys=r)/\∀ X Y,Calls Tryz.prog 161 #[.slice p1 n c,.slice p2 m d] ((w.alloc X).alloc Y) fun e w'=>e=.returned (.int .i64 r)/\∃ q,w'=((w.alloc X).alloc Y).drewN q :=
  ⟨wo xs ys,rfl,fun X Y=>zi2 p1 p2 n c m d xs ys _ hn hm hbig hbig2
   (H1.out.imp id fun ⟨b1,o1,e,f⟩=>⟨b1,o1,e,fun j hj=>xV (xV (f j hj))⟩)
   (H2.out.imp id fun ⟨b1,o1,e,f⟩=>⟨b1,o1,e,fun j hj=>xV (xV (f j hj))⟩)⟩
 obtain ⟨r,hr,hcall⟩:=hcall
 clear H1 H2
 have fin:∀ v:Int,Aside (v=if r≠0\/a=b then r else if a then 1 else -1)->Aside (v=rJ (xs,a) (ys,b)):=fun v e=>by
  unfold Aside at *
  rw [e,<- hr];rfl
 clear hn hm hr
 by_cases h0:r=0
 ·subst h0;have h0:(0:Int)=0:=rfl;cases a <;> cases b
  all_goals
   go_enter Tryz.func114,Tryz.ntmps114
   go_wp2_with (go_at_call 161;refine (hcall _ _).mono ?_;rintro e w' ⟨rfl,q,rfl⟩)
   all_goals (go_ret;exact ⟨congrArg (fun v=>Ending.returned (.int .i64 v)) (fin _ (by unfold Aside;simp [h0])).out,q,_,drew_grow _ _ _ _⟩)
 ·cases a <;> cases b
  all_goals
   go_enter Tryz.func114,Tryz.ntmps114
   go_wp2_with (go_at_call 161;refine (hcall _ _).mono ?_;rintro e w' ⟨rfl,q,rfl⟩)
   all_goals (go_ret;exact ⟨congrArg (fun v=>Ending.returned (.int .i64 v)) (fin _ (by unfold Aside;simp [h0])).out,q,_,drew_grow _ _ _ _⟩)
end Go.Proofs
namespace Go.Proofs
theorem zc8 {a b:List Int} (h:a≠b):wo a b≠0:=fun e=>h (cT e)
theorem vK (a b:List Int×Bool):rJ a b=if a.1=b.1 then (if a.2=b.2 then 0 else if a.2 then 1 else -1) else wo a.1 b.1:=by
 unfold rJ;by_cases h:a.1=b.1
 ·rw [if_pos h,h,wV];by_cases g:a.2=b.2
  ·rw [if_pos (.inr g),if_pos g]
  ·rw [if_neg (by simp [g]),if_neg g]
 ·rw [if_neg h,if_pos (.inl (zc8 h))]
theorem kC (a b:List Int×Bool):rJ b a = - rJ a b:=by
 rw [vK,vK];by_cases h:a.1=b.1
 ·rw [if_pos h,if_pos h.symm];cases a.2 <;> cases b.2 <;> rfl
 ·rw [if_neg h,if_neg (fun e=>h e.symm)];exact vL _ _
theorem zmm (a:List Int×Bool):rJ a a=0:=by rw [vK,if_pos rfl,if_pos rfl]
theorem zeq {a b:List Int×Bool} (e:rJ a b=0):a=b:=by
 rw [vK] at e;by_cases h:a.1=b.1
 ·rw [if_pos h] at e;refine Prod.ext h ?_;by_cases g:a.2=b.2
  ·exact g
  ·rw [if_neg g] at e
   revert e;cases a.2 <;> simp
 ·rw [if_neg h] at e;exact absurd e (zc8 h)
theorem dZ {a b c:List Int×Bool} (h1:rJ a b<0) (h2:rJ b c<0):rJ a c<0:=by
 rw [vK] at h1 h2 ⊢;by_cases e1:a.1=b.1
 ·rw [if_pos e1] at h1;by_cases e2:b.1=c.1
  ·rw [if_pos e2] at h2;rw [if_pos (e1.trans e2)]
   revert h1 h2
   cases a.2 <;> cases b.2 <;> cases c.2 <;> simp
  ·rw [if_neg e2] at h2;rw [if_neg (fun e=>e2 (e1.symm.trans e)),e1];exact h2
 ·rw [if_neg e1] at h1;by_cases e2:b.1=c.1
  ·rw [if_neg (fun e=>e1 (e.trans e2.symm)),<- e2];exact h1
  ·rw [if_neg e2] at h2;have:=wN h1 h2;rw [if_neg (fun e=>by rw [e,wV] at this;omega)];exact this
theorem d6 {a b c:List Int×Bool} (h1:0<=rJ a b) (h2:0<=rJ b c):0<=rJ a c:=by
 by_cases e1:rJ a b=0
 ·rw [zeq e1];exact h2
 by_cases e2:rJ b c=0
 ·rw [<- zeq e2];exact h1
 have n1:=kC a b;have n2:=kC b c;have n3:=kC a c;have:=dZ (a:=c) (b:=b) (c:=a) (by omega) (by omega);omega
end Go.Proofs
namespace Go.Ev
open Go Go.Proofs Go.RowKit Go.Sort
theorem HR.zs6 {P:Program} {B:Nat} {E:Env} {h:T Blk} {nx:Pa} {w:World} {A:List AV} {F:Array Value} (hA:A.length=F.size) (hva:∀ i,i<F.size->jf (A.getD i .undef)=true/\VR E (A.getD i .undef) F[i]!)
  (H:HR P B E h nx w) {id:Pa} {op:Bool} {m off b n k:Nat} {t:T AV} {os:Array Obj} (hb:T.get .no id h=.cells op m t) (hE:E id=some (b,n)) (hm:off+F.size<=m) :
  HR P B (E) (T.set .no (.cells op m (yU A t off)) id h) nx (grow (putRow (fun v:Value=>v) (Sort.ahead w k) b off F) os)/\Ex E E w (grow (putRow (fun v:Value=>v) (Sort.ahead w k) b off F) os):=by
 have hid:T.get .no id h≠.no:=by rw [hb];intro e;cases e
 obtain ⟨b',n',o,h1,h2,h3⟩:=H.blk id hid;rw [hE] at h1;cases h1;rw [hb] at h3;obtain ⟨c,ty,fr,rfl,q1,q2,q3,q4,q5⟩:=h3;have hcs:(putCells (fun v:Value=>v) off F c).size=c.size:=by simp [putCells]
 have hbr:BR P E n (.cells op m (yU A t off)) (.cells (putCells (fun v:Value=>v) off F c) ty fr):=by
  refine ⟨_,ty,fr,rfl,by rw [hcs];exact q1,by rw [hcs];exact q2,q3,q4,fun i hi => ?_⟩;rw [uD];have hic:i<c.size:=by omega
  have hce:(putCells (fun v:Value=>v) off F c)[i]? = some (if off<=i/\i<off+F.size then F[i-off]! else c[i]):=by
   simp [putCells,Array.getElem?_eq_getElem hic]
  rw [hA];by_cases hr:off<=i/\i<off+F.size
  ·rw [if_pos hr];rw [if_pos hr] at hce;obtain ⟨r1,r2⟩:=hva (i-off) (by omega);exact ⟨r1,_,hce,r2⟩
  ·rw [if_neg hr];rw [if_neg hr] at hce;obtain ⟨r1,v,r2,r3⟩:=q5 i hi;rw [Array.getElem?_eq_getElem hic] at r2;exact ⟨r1,_,hce,by rw [Option.some.inj r2];exact r3⟩
 have H1:=H.put hid hE hbr;have X1:Ex E E w (w.putObj b (.cells (putCells (fun v:Value=>v) off F c) ty fr)):=Ex.put hE h2 fun L hL=>by cases hL
 have hbl:b<w.heap.size:=(Array.getElem?_eq_some_iff.1 h2).1;have hBel:Below (w.putObj b (.cells (putCells (fun v:Value=>v) off F c) ty fr)).heap.size (w.putObj b (.cells (putCells (fun v:Value=>v) off F c) ty fr)) (grow (putRow (fun v:Value=>v) (Sort.ahead w k) b off F) os):=by
  refine ⟨rfl,rfl,rfl,?_,fun j hj => ?_⟩
  ·rw [World.putObj_size];simp [grow,putRow,mapBlock,Sort.ahead]
  ·rw [World.putObj_size] at hj;have e1:(grow (putRow (fun v:Value=>v) (Sort.ahead w k) b off F) os).heap[j]? = (w.heap.modify b (onCells (putCells (fun v:Value=>v) off F)))[j]? := by
    show (w.heap.modify b (onCells (putCells (fun v:Value=>v) off F))++os)[j]? = _;rw [Array.getElem?_append_left (by simpa using hj)]
   rw [e1,Array.getElem?_modify];by_cases e:b=j
   ·subst e;rw [if_pos rfl,h2,gY _ hbl];rfl
   ·rw [if_neg e,yI _ (fun q=>e q.symm)]
 obtain ⟨r1,r2⟩:=H1.below hBel;exact ⟨r1,X1.trans r2⟩
def jO (ps:List (AV×Sym)):List AV:=ps.flatMap fun p=>[p.1,.bool p.2.2]
theorem dO:∀ (ps:List (AV×Sym)) (i:Nat),(jO ps)[i]? = (ps[i / 2]?).map fun p=>if i%2=0 then p.1 else .bool p.2.2
 | [],i=>by simp [jO]
 | p::ps,0=>rfl
 | p::ps,1=>rfl
 | p::ps,i+2=>by
  rw [show (i+2) / 2=i / 2+1 by omega,show (i+2)%2=i%2 by omega,List.getElem?_cons_succ,<- dO ps i]
  rfl
theorem xD:∀ (ps:List (AV×Sym)),(jO ps).length=ps.length*2
 | []=>rfl
 | p::ps=>by
  show (jO ps).length+2=_;rw [xD ps,Zav];omega
theorem zmn {B:Nat} {h:T Blk} {id:Pa} {op:Bool} {m off n:Nat} {o:Option Nat} {t:T AV} {ps qs:List (AV×Sym)} (hb:T.get .no id h=.cells op m t) (hm:off+n*2<=m) (hn:n<=1000000) (hl:ps.length=n) (hp:zX t off (n*2)=jO ps)
  (hr:∀ p∈ps,aU h id p.1 p.2.1/\p.2.1.length<=1000000) (hnd:(ps.map (·.2)).Nodup) (hq:qs.Perm ps) (hqs:qs.Pairwise fun a b=>rJ a.2 b.2<=0) :
  JOk Tryz.prog B (fun f a h'=>open Classical in if f=113/\a=[.sl id off n o 2,.fn 114 (.of 114) []]/\h'=h then some (.tup [],T.set .no (.cells op m (yU (jO qs) t off)) id h) else none):=by
 intro E h' nx w f args vs v h2 H hv hj
 dsimp only at hj
 by_cases hc:f=113/\args=[AV.sl id off n o 2,.fn 114 (.of 114) []]/\h'=h
 case neg=>rw [if_neg hc] at hj;cases hj
 rw [if_pos hc] at hj;obtain ⟨rfl,rfl,rfl⟩:=hc;simp only [Option.some.injEq,Prod.mk.injEq] at hj;obtain ⟨rfl,rfl⟩:=hj;refine ⟨_,Tryz.func113,by kernel_rfl,by kernel_rfl,fun nn=>callsIn_wide.2 ?_⟩;obtain ⟨l⟩:=vs;simp only [VRL] at hv;obtain ⟨u,_,rfl,hu,u2,_,rfl,hu2,rfl⟩:=hv;simp only [VR,VRL] at hu2;obtain ⟨_,vs2,rfl,hvs2⟩:=hu2;obtain rfl:vs2 = #[]:=by cases vs2;simpa using hvs2
 obtain ⟨b,bn,c,hE,rfl,hcap⟩:=hu.rX;obtain ⟨b',n',ob,h1,h2,h3⟩:=H.blk id (by rw [hb];intro e;cases e);rw [hE] at h1;cases h1;have h3':=h3;rw [hb] at h3;obtain ⟨cs,ty,fr,rfl,g1,g2,g3,g4,hc⟩:=h3
 let α:={x:(AV×Sym)×Value // aU h' id x.1.1 x.1.2.1/\x.1.2.1.length<=1000000/\VR E x.1.1 x.2}
 haveI:Inhabited α:=⟨⟨((encI [],([],false)),.slice none 0 0),.inl rfl,by simp,by simp only [VR];exact ⟨rfl,rfl,none,0,rfl,.inl ⟨rfl,fun _=>rfl⟩⟩⟩⟩
 let enc:α->List Value:=fun x=>[x.1.2,.bool x.1.1.2.2]
 let cf:α->α->Int:=fun x y=>rJ x.1.1.2 y.1.1.2
 have hk:∀ x,(enc x).length=2:=fun _=>rfl;have hone:∀ x,∀ v∈enc x,v.oneCell'=true:=fun x v hv=>by
  obtain ⟨p,c,e,_⟩:=x.2.1.cells H x.2.2.2;simp only [enc,Zad,Zcb,or_false] at hv;rcases hv with rfl | rfl
  ·rw [e];rfl
  ·rfl
 have hO:SWO (ltOf cf):={
  irrefl:=fun x=>by show decide (rJ _ _<0)=false;rw [zmm];rfl
  trans:=fun x y z p q=>by
   have p:=of_decide_eq_true p;have q:=of_decide_eq_true q;exact decide_eq_true (dZ p q)
  ntrans:=fun x y z p q=>by
   have p:=of_decide_eq_false p;have q:=of_decide_eq_false q;exact decide_eq_false (Int.not_lt.2 (d6 (Int.not_lt.1 p) (Int.not_lt.1 q))) }
 have rd:∀ i,i<n*2->∃ p,ps[i / 2]? = some p/\T.get .undef (.of (off+i)) t=(if i%2=0 then p.1 else .bool p.2.2)/\∃ v',cs[off+i]? = some v'/\VR E (if i%2=0 then p.1 else .bool p.2.2) v'/\w.frozen? ⟨b,off+i,none⟩=false:=by
  intro i hi;have hjp:i / 2<ps.length:=by omega
  have e1:=zV t off (n*2) i hi;rw [hp,dO,List.getElem?_eq_getElem hjp] at e1;have he:=(Option.some.inj e1).symm;obtain ⟨_,v',k1,k2⟩:=hc (off+i) (by omega);rw [he] at k2;refine ⟨_,List.getElem?_eq_getElem hjp,he,v',k1,k2,?_⟩;have:=g1 (off+i) (Array.getElem?_eq_some_iff.1 k1).1;simp only [World.frozen?,h2];obtain ⟨lo,hi⟩:=fr;simp only [Bool.and_eq_false_iff,decide_eq_false_iff_not];simp only at this;omega
 have each:∀ j,j<n->∃ x:α,ps[j]? = some x.1.1/\w.cell? ⟨b,off+j*2,none⟩=some x.1.2/\w.cell? ⟨b,off+(j*2+1),none⟩=some (.bool x.1.1.2.2):=by
  intro j hj;obtain ⟨p,a1,a2,v1,a3,a4,a5⟩:=rd (j*2) (by omega);obtain ⟨p',b1,b2,v2,b3,b4,b5⟩:=rd (j*2+1) (by omega);rw [show j*2 / 2=j by omega] at a1;rw [show (j*2+1) / 2=j by omega,a1] at b1;cases b1
  rw [if_pos (by omega)] at a4;rw [if_neg (by omega)] at b4;simp only [VR] at b4;subst b4;obtain ⟨r1,r2⟩:=hr _ (Zaa a1);exact ⟨⟨(p,v1),r1,r2,a4⟩,a1,by simp [World.cell?,h2,a3],by simp [World.cell?,h2,b3]⟩
 obtain ⟨D,hD⟩:=Go.Deep.choose_lt each;have hsz:((List.range n).map D).toArray.size=n:=by simp
 have hget:∀ j,j<n->((List.range n).map D).toArray[j]! = D j:=fun j hj=>by simp [getElem!_pos,hj]
 have hH:HoldsK enc 2 w b off ((List.range n).map D).toArray:=by
  intro i hi;rw [size_flatK,hsz] at hi;rw [get_flatK _ _ _ _ (by rw [hsz];exact hi),hget _ (by omega)];obtain ⟨_,d1,d2⟩:=hD (i / 2) (by omega);obtain ⟨_,_,_,_,_,_,fz⟩:=rd i hi;refine ⟨?_,fz⟩;rcases Nat.mod_two_eq_zero_or_one i with e | e
  ·rw [e];rw [show i / 2*2=i by omega] at d1;exact d1
  ·rw [e];rw [show i / 2*2+1=i by omega] at d2;exact d2
 have hsort:∀ (k:Nat) (os:Array Obj) (dk:Array α),dk.size=n->HR Tryz.prog B E (T.set .no (.cells op m (yU (jO (dk.toList.map fun x=>x.1.1)) t off)) id h') nx (sortWorldK enc 2 w b off k dk os)/\Ex E E w (sortWorldK enc 2 w b off k dk os):=by
  intro k os dk hs;have hfs:(flatK enc 2 dk).size=n*2:=by rw [size_flatK,hs]
  refine H.zs6 (F:=flatK enc 2 dk) (by rw [xD,hfs,Zaq,Array.length_toList,hs]) (fun i hi => ?_) hb hE (by rw [hfs];exact hm);rw [hfs] at hi;have hlt:i / 2<dk.size:=by omega
  rw [get_flatK _ _ _ _ (by rw [hs];exact hi),Zab,dO,List.getElem?_map,Array.getElem?_toList,Array.getElem?_eq_getElem hlt,getElem!_pos dk _ hlt];simp only [Zbx,Option.getD_some];rcases Nat.mod_two_eq_zero_or_one i with e | e
  ·rw [e,if_pos rfl];exact ⟨dk[i / 2].2.1.jf,dk[i / 2].2.2.2⟩
  ·rw [e,if_neg (by decide)];exact ⟨rfl,by show VR E (.bool _) (.bool _);simp only [VR]⟩
 have hcmp:CmpLays Tryz.prog 114 #[] enc 2 cf b off ((List.range n).map D).toArray.size w:=by
  intro k os dk hs x y;rw [hsz] at hs;obtain ⟨H',_⟩:=hsort k os dk hs;obtain ⟨p1,c1,e1,m1⟩:=(x.2.1.set (b:=.cells op m (yU (jO (dk.toList.map fun x=>x.1.1)) t off))).cells H' x.2.2.2;obtain ⟨p2,c2,e2,m2⟩:=(y.2.1.set (b:=.cells op m (yU (jO (dk.toList.map fun x=>x.1.1)) t off))).cells H' y.2.2.2;have:=zgs p1 p2 _ c1 _ c2 x.1.1.2.1 y.1.1.2.1 x.1.1.2.2 y.1.1.2.2 (sortWorldK enc 2 w b off k dk os) rfl rfl x.2.2.1 y.2.2.1 m1 m2;show Go.Calls Tryz.prog 114 #[.agg #[x.1.2,.bool x.1.1.2.2],.agg #[y.1.2,.bool y.1.1.2.2]] _ _;rw [e1,e2];exact this
 have key:=AnyQ.slices_SortFunc Tryz.sortS 2 Tryz.isAgg115 Tryz.sizeOf115 enc hk hone cf hO 114 #[] b off c ((List.range n).map D).toArray w (enters_of Tryz.func114 (by kernel_rfl) rfl) hcmp hH (H.lt _ _ _ hE).2 (by rw [hsz];omega);rw [hsz] at key;refine key.mono ?_;rintro e w' ⟨rfl,d',k,os,hP,hS,rfl⟩;obtain ⟨hd1,_,hperm⟩:=hP;rw [hsz] at hd1;have e1:d'.extract 0 n=d':=by rw [<- hd1];exact Array.extract_size
 have e2:((List.range n).map D).toArray.extract 0 n=((List.range n).map D).toArray:=by
  have := @Array.extract_size _ ((List.range n).map D).toArray
  rwa [hsz] at this
 rw [e1,e2] at hperm;have hps:((List.range n).map D).map (fun x:α=>x.1.1)=ps:=by
  refine Zba fun j => ?_;rw [List.getElem?_map,List.getElem?_map];by_cases hj:j<n
  ·rw [List.getElem?_range hj,(hD j hj).1];rfl
  ·rw [List.getElem?_eq_none (by simp;omega),List.getElem?_eq_none (by omega)];rfl
 have hpm:(d'.toList.map fun x:α=>x.1.1).Perm ps:=by rw [<- hps];exact hperm.map _
 have hqe:(d'.toList.map fun x:α=>x.1.1)=qs:=by
  refine List.Perm.eq_of_pairwise (le:=fun a b=>rJ a.2 b.2<=0) ?_ ?_ hqs (hpm.trans hq.symm)
  ·intro a a' ha ha' p q;have e:a.2=a'.2:=zeq (by have:=kC a.2 a'.2;omega);have ma:=hpm.mem_iff.1 ha;have ma':=hq.mem_iff.1 ha';exact qC hnd ma ma' e
  ·rw [Zbj,List.pairwise_iff_getElem];intro i j hi hj hij;have hi':i<d'.size:=by simpa using hi
   have hj':j<d'.size:=by simpa using hj
   have:=hS i j (Nat.zero_le _) hij (by omega);rw [getElem!_pos d' j hj',getElem!_pos d' i hi'] at this;have:=of_decide_eq_false this;have e:rJ d'[j].1.1.2 d'[i].1.1.2 = - rJ d'[i].1.1.2 d'[j].1.1.2:=kC _ _;have f:¬ rJ d'[j].1.1.2 d'[i].1.1.2<0:=this;simp only [Array.getElem_toList];omega
 obtain ⟨r1,r2⟩:=hsort k os d' hd1;rw [hqe] at r1;exact ⟨_,E,rfl,by simp only [VR,VRL];exact ⟨_,rfl,rfl⟩,r1,r2⟩
end Go.Ev
namespace Go.Ev
open Go Go.Proofs
variable {B:Nat}
theorem Hp.zwm {h0 h:T Blk} {nx:Pa} {L:List Ob} {j k:Nat} {x y:Ob} {a b:Pa} (H:Hp h0 h nx L) (hk:L[k]? = some x) (hj:L[j]? = some y) (hjk:j≠k) (ha:a∈x.names) (hb:b∈y.names):b≠a:=by
 have hnd:=(H.front hk).nd;rw [Zbc] at hnd;have hy:y∈L.take k++L.drop (k+1):=by
  rcases Nat.lt_or_gt_of_ne hjk with c | c
  ·exact Zbv _ (Zaa (i:=j) (by rw [List.getElem?_take_of_lt c];exact hj))
  ·exact Zck _ (Zaa (i:=j-(k+1)) (by rw [List.getElem?_drop,show k+1+(j-(k+1))=j by omega];exact hj))
 rintro rfl;exact (List.nodup_append.1 hnd).2.2 b ha b (List.mem_flatMap.2 ⟨y,hy,hb⟩) rfl
def zaj (L:List Ob) (p:AV×Sym):Prop:=p.1=encI p.2.1\/∃ rid,p.1=.sl rid 0 p.2.1.length (some p.2.1.length) 1/\Ob.arr rid (p.2.1.map I)∈L
theorem zaj.jf {L:List Ob} {p:AV×Sym} (h:zaj L p):jf p.1=true:=by rcases h with e | ⟨_,e,_⟩ <;> rw [e] <;> rfl
theorem zaj.mono {L L':List Ob} {p:AV×Sym} (h:zaj L p) (hl:∀ x∈L,x∈L'):zaj L' p:=h.imp id fun ⟨r,e,m⟩=>⟨r,e,hl _ m⟩
theorem zaj.at {h0 h:T Blk} {nx id:Pa} {L:List Ob} {n:Nat} {z:List AV} {p:AV×Sym} (H:Hp h0 h nx (.gro (some id) 2 n z::L)) (hp:zaj L p):aU h id p.1 p.2.1:=by
 rcases hp with e | ⟨rid,e,hj⟩
 ·exact .inl e
 ·obtain ⟨op,t,h1,h2⟩:=H.own _ (Zam _ hj);rw [Zaq] at h1 h2;obtain ⟨j,hj⟩:=List.getElem?_of_mem hj;exact .inr ⟨rid,0,some p.2.1.length,op,p.2.1.length,t,H.zwm (k:=0) (j:=j+1) rfl hj (by omega) (by simp [Ob.names]) (by simp [Ob.names]),e,h1,by omega,h2⟩
abbrev agP (p:AV×Sym):AV:=.agg [p.1,.bool p.2.2]
def oQ (ps:List (AV×Sym)):List (AV×AV):=ps.map fun p=>(.str (rV p.2),agP p)
theorem pP:∀ (q:List (AV×Sym)) (i:Nat),(jO q).drop (i*2)=jO (q.drop i)
 | q,0=>by simp
 | [],i+1=>by simp [jO]
 | p::q,i+1=>by
  rw [Zcu,<- pP q i,show (i+1)*2=i*2+1+1 by omega]
  rfl
theorem zi9 {q:List (AV×Sym)} {i:Nat} (h:i<q.length):(jO q).drop (i*2)=q[i].1::.bool q[i].2.2::(jO q).drop ((i+1)*2):=by
 rw [pP,pP,Zap h];rfl
theorem zwn {h0 h:T Blk} {nx:Pa} {L:List Ob} {k j n:Nat} {o:Option Pa} {u:List (AV×Sym)} {c:AV×Sym} (H:Hp h0 h nx L) (hk:L[k]? = some (.gro o 2 n (jO u))) (hj:u[j]? = some c):∃ id off,(∀ op:AV->OP,zO 2 (qp o 2 n) (I (j:Int)) op=op (.ptr id off))/\∀ op:AV->OP,zK 2 (.ptr id off) h op=op (agP c):=by
 have own:=H.own _ (Zaa hk);have hjl:=(List.getElem?_eq_some_iff.1 hj).1;have hlen:=xD u;cases o with
 | none =>
  obtain ⟨q,_⟩:=own;rw [q] at hlen;simp at hlen;omega
 | some id =>
  obtain ⟨t,h1,h2,h3⟩:=own;have hn:n=u.length:=by omega
  subst hn;refine ⟨id,j*2,fun op=>by rw [qp,dF hjl,Zaz],fun op => ?_⟩;show jk (T.get .no id h) _ _=_;rw [h1];show (bif Nat.ble (j*2+2) (u.length*2) then op (.agg (zX t (j*2) 2)) else .no 8)=_;rw [Zac (by omega),cond_true];have e:∀ i,i<u.length*2->T.get .undef (.of i) t=(jO u).getD i .undef:=fun i hi=>by
   have:=zV t 0 (u.length*2) i hi;rw [h3,Zaz] at this;rw [Zab,this];rfl
  have d:∀ i,(jO u).getD (j*2+i) .undef=((jO u).drop (j*2)).getD i .undef:=fun i=>by
   rw [Zab,Zab,List.getElem?_drop]
  have e2:zX t (j*2) 2=[T.get .undef (.of (j*2)) t,T.get .undef (.of (j*2+1)) t]:=rfl;have d0:=d 0;rw [Nat.add_zero] at d0;obtain rfl:u[j]=c:=by rw [List.getElem?_eq_getElem hjl] at hj;exact Option.some.inj hj
  rw [e2,e _ (by omega),e _ (by omega),d 1,d0,zi9 hjl]
  rfl
theorem zer {h0 h:T Blk} {nx p id:Pa} {L:List Ob} {k n:Nat} {K:Kw Prop} {q s:List (AV×Sym)} (H:Hp h0 h nx L) (hk:L[k]? = some (.gro (some id) 2 n (jO q))) (hql:q.length=n) (hn:n<=1000000) (hw:∀ a∈q,aU h id a.1 a.2.1/\a.2.1.length<=1000000)
  (hnd:(q.map (·.2)).Nodup) (hq:s.Perm q) (hs:s.Pairwise fun a b=>rJ a.2 b.2<=0) (hK:∀ h',Hp h0 h' nx (L.set k (.gro (some id) 2 n (jO s)))->K (.tup []) h' nx=.ok True):(CS Tryz.prog B).fn 113 p [qp (some id) 2 n,.fn 114 (.of 114) []] h nx K=.ok True:=by
 obtain ⟨t,h1,h2,h3⟩:=H.own _ (Zaa hk);have hsl:(jO s).length=n*2:=by rw [xD,hq.length_eq,hql]
 refine c7 (zmn (ps:=q) (qs:=s) (off:=0) (o:=none) h1 (by omega) hn hql h3 hw hnd hq hs)
  (v:=.tup []) (h2:=T.set .no (.cells true (n*2) (yU (jO s) t 0)) id h) (if_pos ⟨rfl,rfl,rfl⟩) (hK _ ?_)
 refine H.upd hk (by simp [Ob.names]) rfl ⟨_,T.get_set_same ..,hsl,?_⟩;have:=kL t [] (jO s) 0 rfl;rw [Zaz,Zbu,hsl] at this;exact this
theorem zs7 {h0 h:T Blk} {nx p g:Pa} {L:List Ob} {k:Nat} {K:Kw Prop} {q s:List (AV×Sym)} (H:Hp h0 h nx L) (hg:L[k]? = some (.map g (oQ q))) (hq0:0<q.length) (hql:q.length<=2000) (hw:∀ a∈q,zaj L a/\a.2.1.length<=1000000)
  (hnd:(q.map (·.2)).Nodup) (hq:s.Perm q) (hs:s.Pairwise fun a b=>rJ a.2 b.2<=0) (hK:∀ o h' nx' A,Hp h0 h' nx' (.gro o 2 s.length (jO s)::(A++L))->K (qp o 2 s.length) h' nx'=.ok True):(CS Tryz.prog B).fn 60 p [.map g] h nx K=.ok True:=by
 refine yQ (p:=.of 60) (K:=K) (zL zP yj 10000000 fun hf => ?_) fun _ _ _ _ q=>q;rw [F60.go];refine H.range (k:=k) hg fun it h1 nx1 H1 => ?_;have hel:(oQ q).length=q.length:=by simp [oQ]
 refine F60.L1 (fun m' x2 h' nx'=>∃ (seen:List Nat) (o:Option Pa),x2=qp o 2 seen.length/\(uR q.length seen).length=m'/\seen.length+m'=q.length/\seen.Nodup/\(∀ i∈seen,i<q.length) /\
  Hp h0 h' nx' (.gro o 2 seen.length (jO (seen.reverse.map fun i=>q.getD i (.undef,([],false))))::.iter it g (oQ q).length seen (oQ q).length::L)) (m:=q.length) (by omega)
  ⟨[],none,rfl,by (have e:uR q.length []=List.range q.length:=List.filter_eq_self.2 (by simp));rw [e];simp,by simp,by simp,by simp,H1.tN 2⟩ ?_
 rintro m' z2 z3 z7 h2 nx2 R ⟨seen,o,rfl,rfl,hsl,hns,hse,H2⟩ hR;refine H2.next (k:=1) (j:=k+2) rfl (by simpa using hg) (fun hall => ?_) fun i a b h3 hi hnin hab H3 => ?_
 ·simp only [yL,zD];have hsp:=zl9 hns hse fun i hi=>hall i (by rw [hel];exact hi);have hup:(seen.reverse.map fun i=>q.getD i (.undef,([],false))).Perm q:=by
   have e:=zln q (.undef,([],false))
   conv=>rhs;rw [e]
   exact ((List.reverse_perm seen).trans hsp).map _
  have hul:=hup.length_eq;rw [Zaq,List.length_reverse] at hul;rw [hul] at H2 ⊢;rw [F60.k6];cases o with
  | none =>
   obtain ⟨e,_⟩:=H2.own _ (Zai ..);omega
  | some id =>
   refine zer (k:=0) (s:=s) H2 rfl (by rw [hup.length_eq]) (by omega) (fun a ha=>⟨((hw a (hup.mem_iff.1 ha)).1.mono fun x hx=>Zam _ hx).at H2,(hw a (hup.mem_iff.1 ha)).2⟩) ((hup.map _).nodup_iff.2 hnd) (hq.trans hup.symm) hs fun h4 H4 => ?_;rw [H4.zef (k:=0) rfl,<- hq.length_eq];rw [<- hq.length_eq] at H4
   refine F60.L7 (fun m x4 x10 h' nx'=>∃ (i:Nat) (o':Option Pa),x10=I i/\x4=qp o' 2 i/\m=s.length-i/\i<=s.length/\Hp h0 h' nx' (.gro o' 2 i (jO (s.take i))::.gro (some id) 2 s.length (jO s)::.iter it g (oQ q).length seen (oQ q).length::L)) (m:=s.length) (by rw [hq.length_eq];omega)
    ⟨0,none,rfl,rfl,by omega,by omega,H4.tN 2⟩ ?_
   rintro m z4 z5 z10 z11 h5 nx5 R' ⟨i,o',rfl,rfl,rfl,hi,H5⟩ hR';by_cases hlt:i<s.length
   case neg =>
    have ei:i=s.length:=by omega
    subst ei;simp only [jm,show ¬ (s.length:Int)<(s.length:Int) by omega,decide_false,zD];rw [F60.k14];rw [Zal (Zah _)] at H5;exact hK _ _ _ [.gro (some id) 2 s.length (jO s),.iter it g (oQ q).length seen (oQ q).length] H5
   simp only [jm,show (i:Int)<(s.length:Int) by omega,decide_true,zC];have hx:s[i]? = some s[i]:=List.getElem?_eq_getElem hlt;obtain ⟨iu,ou,e1,e2⟩:=zwn (k:=1) H5 rfl hx;rw [e1,e2];refine H5.alloc fun b5 h6 nx6 H6 => ?_;refine H6.qy (k:=0) (n:=2) rfl rfl rfl fun h7 H7 => ?_;rw [H7.zi (k:=0) (n:=2) rfl rfl];refine H7.zu (l:=[s[i].1,.bool s[i].2.2]) rfl fun tb h8 nx8 H8 => ?_;rw [zae];refine H8.oN (k:=2) (o:=o') (c:=1) (esz:=2) (new:=[s[i].1,.bool s[i].2.2]) rfl (yu.rd (l:=[s[i].1,.bool s[i].2.2]) (n:=1) (e:=2) (H8.own _ (Zai ..)) rfl) rfl (by rw [Zct,(hw _ (hq.mem_iff.1 (Zao hlt))).1.jf];rfl) (by decide) (by decide) (by rw [hq.length_eq] at hlt;omega) fun o'' h9 nx9 _ H9 => ?_;rw [jd (by rw [hq.length_eq] at hlt;omega)];refine hR' (s.length-(i+1)) _ _ _ _ _ _ (by omega) ⟨i+1,o'',by rfl,rfl,rfl,by omega,?_⟩;have ef:jO (s.take i)++[s[i].1,.bool s[i].2.2]=jO (s.take (i+1)):=by rw [Zan,hx];unfold jO;rw [Zch];rfl
   rw [ef] at H9;exact H9.drop.drop
 ·have hi':i<q.length:=by rw [<- hel];exact hi
  have hx:q[i]? = some q[i]:=List.getElem?_eq_getElem hi';have hent:(oQ q)[i]? = some (.str (rV q[i].2),agP q[i]):=by rw [oQ,List.getElem?_map,hx];rfl
  rw [hent] at hab;cases hab
  simp only [yL,zC];rw [H3.entry (k:=1) (j:=k+2) rfl (by simpa using hg) hent];simp only [yN];refine H3.alloc fun b5 h6 nx6 H6 => ?_;refine H6.qy (k:=0) (n:=2) rfl rfl rfl fun h7 H7 => ?_;rw [H7.zi (k:=0) (n:=2) rfl rfl];refine H7.zu (l:=[q[i].1,.bool q[i].2.2]) rfl fun tb h8 nx8 H8 => ?_;rw [zae];refine H8.oN (k:=2) (o:=o) (c:=1) (esz:=2) (new:=[q[i].1,.bool q[i].2.2]) rfl (yu.rd (l:=[q[i].1,.bool q[i].2.2]) (n:=1) (e:=2) (H8.own _ (Zai ..)) rfl) rfl (by rw [Zct,(hw _ (Zao hi')).1.jf];rfl) (by decide) (by decide) (by omega) fun o'' h9 nx9 _ H9 => ?_;have hst:=zil hi' hnin;refine hR (uR q.length (i::seen)).length _ _ _ _ _ (by omega) ⟨i::seen,o'',rfl,rfl,by simp;omega,List.nodup_cons.2 ⟨hnin,hns⟩,fun j hj => ?_,?_⟩
  ·rcases List.mem_cons.1 hj with rfl | r
   ·exact hi'
   ·exact hse j r
  ·have ef:jO (seen.reverse.map fun i=>q.getD i (.undef,([],false)))++[q[i].1,.bool q[i].2.2]=jO ((i::seen).reverse.map fun i=>q.getD i (.undef,([],false))):=by
    rw [List.reverse_cons,Zbq];simp [jO,hx]
   rw [ef] at H9;exact H9.drop.drop
end Go.Ev
namespace Go.Ev
open Go Go.Proofs
theorem zs8 {P:Program} {B:Nat} {f:Nat} {args:List AV} {h h0:T Blk} {nx:Pa} {r:AV} (hk0:uU h0 h) (hc:∀ K:Kw Prop,(∀ v h' nx',Fr h' nx'->uU h0 h'->ru h0 h' v r->K v h' nx'=.ok True)->(CS P B).fn f (.of f) args h nx K=.ok True)
  {E:Env} {w:World} {vs:Array Value} (H:HR P B E h nx w) (hv:VRL E args vs.toList) :
  ∃ fn:Func,P.funcs[f]? = some fn/\fn.body.isNone=false/\(fn.name == "runtime.NumGoroutine")=false/\∀ n,CallsIn Fence.wide n P f vs w fun e w'=>∃ u E',e=.returned u/\VR E' r u/\HR P B E' h0 nx w'/\Ex E E' w w':=by
 have hk:=hc (fun v h' nx'=>open Classical in if uU h0 h'/\ru h0 h' v r then .ok True else .no 0) (fun v h' nx' _ h1 h2=>if_pos ⟨h1,h2⟩);rw [sW] at hk;obtain ⟨fn,h1,h2,h3,h4⟩:=hk.1 E w vs H hv;refine ⟨fn,h1,h2,h3,fun n=>(h4 n).mono fun e w' he => ?_⟩
 cases e <;> first
  | exact he.elim
  |(obtain ⟨av,h',nx',E',k1,k2,k3,k4⟩:=he
    have k1':(open Classical in if uU h0 h'/\ru h0 h' av r then (Out.ok True:Out Prop) else .no 0)=.ok True:=k1;split at k1'
    ·rename_i hh;obtain ⟨hkp,hF⟩:=hh;have H0:=H.zfk hk0;obtain ⟨r1,r2,_⟩:=dX H0 k3 k4 hkp;exact ⟨_,_,rfl,zed H0 k3 k4 hkp hF k2,r1,r2⟩
    ·cases k1')
theorem zs9 {h0 h:T Blk} {nx:Pa} {L:List Ob} {o:Option Pa} {n k e:Nat} {l l':List AV} (H:Hp h0 h nx L) (hk:L[k]? = some (.gro o e n l)) (hl:l'.length=l.length) (hs:l'.all jf=true) (hf:∀ (i:Nat) (v v':AV),l[i]? = some v->l'[i]? = some v'->ru h0 h v v'):ru h0 h (qp o e n) (.lst e n l'):=by
 have own:=H.own _ (Zaa hk);have hoff:=H.off;cases o with
 | none =>
  obtain ⟨rfl,rfl⟩:=own;obtain rfl:l'=[]:=by simpa using hl
  exact .zcp e
 | some id =>
  obtain ⟨t,h1,h2,h3⟩:=own;refine .sl _ _ _ _ _ true _ t _ (hoff id (List.mem_flatMap.2 ⟨_,Zaa hk,by simp [Ob.names]⟩)) trivial h1 (by omega) (by rw [hl];exact h2) hs fun i v hi => ?_;have hil:i<l.length:=by rw [<- hl];exact (List.getElem?_eq_some_iff.1 hi).1
  have:=zV t 0 (n*e) i (by rw [<- h2];exact hil);rw [h3,List.getElem?_eq_getElem hil] at this;rw [<- Option.some.inj this];exact hf i _ _ (List.getElem?_eq_getElem hil) hi
end Go.Ev
namespace Go.Ev
open Go Go.Proofs
variable {B:Nat}
def insP (x:AV×Sym):List (AV×Sym)->List (AV×Sym)
 | []=>[x]
 | y::l=>if rJ x.2 y.2<=0 then x::y::l else y::insP x l
def srtP:List (AV×Sym)->List (AV×Sym)
 | []=>[]
 | x::l=>insP x (srtP l)
theorem bN (x:AV×Sym):∀ l,(insP x l).Perm (x::l)
 | []=>.refl _
 | y::l=>by
  rw [insP];split
  ·exact .refl _
  ·exact ((bN x l).cons y).trans (.swap x y l)
theorem zc9:∀ l,(srtP l).Perm l
 | []=>.refl _
 | x::l=>(bN x _).trans ((zc9 l).cons x)
theorem zcf {a b c:Sym} (h1:rJ a b<=0) (h2:rJ b c<=0):rJ a c<=0:=by
 have n1:=kC a b;have n2:=kC b c;have n3:=kC a c;have:=d6 (a:=c) (b:=b) (c:=a) (by omega) (by omega);omega
theorem zgt {x:AV×Sym}:∀ {l:List (AV×Sym)},l.Pairwise (fun a b=>rJ a.2 b.2<=0)->(insP x l).Pairwise (fun a b=>rJ a.2 b.2<=0)
 | [],_=>by simp [insP]
 | y::l,h=>by
  have h':=List.pairwise_cons.1 h;rw [insP];split
  ·rename_i c;refine List.pairwise_cons.2 ⟨fun z hz => ?_,h⟩;rcases List.mem_cons.1 hz with rfl | r
   ·exact c
   ·exact zcf c (h'.1 z r)
  ·rename_i c;refine List.pairwise_cons.2 ⟨fun z hz => ?_,zgt h'.2⟩;rcases List.mem_cons.1 ((bN x l).mem_iff.1 hz) with rfl | r
   ·have:=kC z.2 y.2;omega
   ·exact h'.1 z r
theorem zgu:∀ l,(srtP l).Pairwise (fun a b=>rJ a.2 b.2<=0)
 | []=>.nil
 | _::l=>zgt (zgu l)
noncomputable def zgv:List AV->Option (List Int)
 | []=>some []
 | .int .i64 v::l=>match zgv l with
  | some r=>some (v::r)
  | none=>none
 | _=>none
theorem zgw:∀ {l:List AV} {xs:List Int},zgv l=some xs->l=xs.map I
 | [],xs,h=>by rw [zgv] at h;cases h;rfl
 | a::l,xs,h=>by
  unfold zgv at h;split at h
  ·rename_i he;cases he
  ·rename_i v l' he;cases he
   split at h
   ·rename_i r hr;cases h
    rw [zgw hr];rfl
   ·cases h
  ·cases h
noncomputable def zja (h:T Blk) (a:AV):Option (Pa×List Int):=match a with
 | .sl rid off n (some c) e=>match T.get .no rid h with
  | .cells _ m t=>if off=0/\e=1/\m=n/\c=n then (match zgv (zX t 0 n) with
   | some l=>some (rid,l)
   | none=>none) else none
  | _=>none
 | _=>none
theorem zmo {h:T Blk} {a:AV} {rid:Pa} {l:List Int} (e:zja h a=some (rid,l)):a=.sl rid 0 l.length (some l.length) 1/\yu h rid (l.map I):=by
 unfold zja at e;split at e
 case h_2=>cases e
 rename_i r off n c ee he0;split at e
 case h_2=>cases e
 rename_i op m t ht;split at e
 case isFalse=>cases e
 rename_i hc;obtain ⟨rfl,rfl,rfl,rfl⟩:=hc;split at e
 case h_2=>cases e
 rename_i l' hl;cases e
 have e1:=zgw hl;have e2:l.length=ee:=by
  have:=congrArg List.length e1;rw [Zaq,uW] at this;exact this.symm
 subst e2;exact ⟨rfl,op,t,by rw [Zaq];exact ht,by rw [Zaq];exact e1⟩
noncomputable def zb2 (h:T Blk):List (AV×AV)->Option (List (Pa×(AV×Sym)))
 | []=>some []
 |(.str k,.agg [a,.bool c])::es=>match zja h a,zb2 h es with
  | some (rid,l),some r=>if rV (l,c)=k then some ((rid,(a,(l,c)))::r) else none
  | _,_=>none
 | _=>none
theorem zda {h:T Blk}:∀ {es:List (AV×AV)} {r:List (Pa×(AV×Sym))},zb2 h es=some r->es=oQ (r.map (·.2))/\∀ x∈r,x.2.1=.sl x.1 0 x.2.2.1.length (some x.2.2.1.length) 1/\yu h x.1 (x.2.2.1.map I)
 | [],r,e=>by rw [zb2] at e;cases e;exact ⟨rfl,fun x hx=>by cases hx⟩
 | p::es,r,e=>by
  unfold zb2 at e;split at e
  ·rename_i he;cases he
  ·rename_i k a c es' he;cases he
   split at e
   ·rename_i rid l r' h1 h2;split at e
    ·rename_i hk;cases e
     obtain ⟨i1,i2⟩:=zda h2;obtain ⟨j1,j2⟩:=zmo h1;refine ⟨by rw [i1,<- hk];rfl,fun x hx => ?_⟩;rcases List.mem_cons.1 hx with rfl | q
     ·exact ⟨j1,j2⟩
     ·exact i2 x q
    ·cases e
   ·cases e
  ·cases e
noncomputable def zpd (f:Nat) (a:List AV) (h:T Blk):Option (AV×T Blk):=if f=60 then (match a with
 | [.map g]=>match T.get .no g h with
  | .map n es=>match zb2 h es with
   | some r=>if n=es.length/\0<r.length/\r.length<=2000/\((g::r.map (·.1)).map Pa.toNat).Nodup/\(r.map (·.2.2)).Nodup/\(∀ x∈r,x.2.2.1.length<=1000000) then some (rH ((srtP (r.map (·.2))).map (·.2)),mI (g::r.map (·.1)) h) else none
   | none=>none
  | _=>none
 | _=>none) else none
theorem zb3:∀ (qs:List Sym),(jC qs).all jf=true
 | []=>rfl
 | _::qs=>zb3 qs
theorem zdb:∀ (ps:List Sym) (i:Nat),(jC ps)[i]? = (ps[i / 2]?).map fun p=>if i%2=0 then encI p.1 else .bool p.2
 | [],i=>by simp [jC]
 | p::ps,0=>rfl
 | p::ps,1=>rfl
 | p::ps,i+2=>by
  rw [show (i+2) / 2=i / 2+1 by omega,show (i+2)%2=i%2 by omega,List.getElem?_cons_succ,<- zdb ps i]
  rfl
theorem mC {α β:Type} {f:α->β}:∀ {l:List α},(l.map f).Nodup->l.Nodup
 | [],_=>.nil
 | a::l,h=>by
  rw [Zay,Zcj] at h;exact List.nodup_cons.2 ⟨fun m=>h.1 (List.mem_map.2 ⟨a,m,rfl⟩),mC h.2⟩
theorem zpe:JOk Tryz.prog B zpd:=by
 intro E h nx w f args vs v h2 H hv hj;unfold zpd at hj;split at hj
 case isFalse=>cases hj
 rename_i hf;subst hf;split at hj
 case h_2=>cases hj
 rename_i g;split at hj
 case h_2=>cases hj
 rename_i n es hg;split at hj
 case h_2=>cases hj
 rename_i r hr;split at hj
 case isFalse=>cases hj
 rename_i hc;obtain ⟨rfl,hr0,hrl,hnd1,hnd2,hlen⟩:=hc;cases hj
 have hnd1:=mC hnd1;obtain ⟨rfl,hrow⟩:=zda hr;have names:(Ob.map g (oQ (r.map (·.2)))::r.map fun x=>Ob.arr x.1 (x.2.2.1.map I)).flatMap Ob.names=g::r.map (·.1):=by
  have e:∀ r:List (Pa×(AV×Sym)),(r.map fun x=>Ob.arr x.1 (x.2.2.1.map I)).flatMap Ob.names=r.map (·.1):=by
   intro r
   induction r with
   | nil=>rfl
   | cons x r ih=>show x.1::_=x.1::_;rw [<- ih];rfl
  show g::_=_;rw [<- e];rfl
 have H0:Hp (mI (g::r.map (·.1)) h) h nx (.map g (oQ (r.map (·.2)))::r.map fun x=>.arr x.1 (x.2.2.1.map I)):=⟨fun j hj=>by
   by_cases q:j∈g::r.map (·.1)
   ·exact absurd (wZ _ h j (.inl q)) hj
   ·exact (wY _ h j q).symm,fun y hy=>by
   rcases List.mem_cons.1 hy with rfl | q
   ·exact hg
   ·obtain ⟨x,hx,rfl⟩:=List.mem_map.1 q;exact (hrow x hx).2,fun m hm=>wZ _ h m (.inl (by rw [names] at hm;exact hm)),by rw [names];exact hnd1,H.fr⟩
 refine zs8 (h0:=mI (g::r.map (·.1)) h) H0.keep (fun K hK => ?_) H hv;have hp:=zc9 (r.map (·.2));refine zs7 (k:=0) (q:=r.map (·.2)) (s:=srtP (r.map (·.2))) H0 rfl (by rw [Zaq];exact hr0) (by rw [Zaq];exact hrl) (fun p hq => ?_) (by rw [Zcl];exact hnd2) hp (zgu _) fun o h' nx' A H'=>hK _ _ _ H'.fr H'.keep ?_
 ·obtain ⟨x,hx,rfl⟩:=List.mem_map.1 hq;exact ⟨.inr ⟨x.1,(hrow x hx).1,Zam _ (List.mem_map.2 ⟨x,hx,rfl⟩)⟩,hlen x hx⟩
 ·have:=zs9 (k:=0) (l':=jC ((srtP (r.map (·.2))).map (·.2))) H' rfl (by rw [qL,xD,Zaq]) (zb3 _) fun i a b h1 h2 => ?_
  ·show ru _ _ (qp o 2 _) (.lst 2 ((srtP (r.map (·.2))).map (·.2)).length _);rw [Zaq];exact this
  rw [dO] at h1;rw [zdb,List.getElem?_map] at h2;cases hx:(srtP (r.map (·.2)))[i / 2]? with
  | none=>rw [hx] at h1;cases h1
  | some p =>
   rw [hx] at h1 h2;simp only [Zbx,Option.some.injEq] at h1 h2;subst h1;subst h2;by_cases c:i%2=0
   ·rw [if_pos c,if_pos c];obtain ⟨x,hxm,rfl⟩:=List.mem_map.1 (hp.mem_iff.1 (Zaa hx));rw [(hrow x hxm).1];have hin:Ob.arr x.1 (x.2.2.1.map I)∈(.gro o 2 (srtP (r.map (·.2))).length (jO (srtP (r.map (·.2))))::(A++(.map g (oQ (r.map (·.2)))::r.map fun x=>Ob.arr x.1 (x.2.2.1.map I)))):=by
     refine Zam _ (Zck _ (Zam _ (List.mem_map.2 ⟨x,hxm,rfl⟩)))
    obtain ⟨k,hk⟩:=List.getElem?_of_mem hin;exact H'.ay hk (by show mU _ (some _);simp [mU]) (by simp) (fun v hv=>by obtain ⟨z,_,rfl⟩:=List.mem_map.1 hv;rfl)
   ·rw [if_neg c,if_neg c];exact zH rfl
end Go.Ev
namespace Go.Ev
def jB (l f:List Int):Int:=(l.map fun c=>f.getD c.toNat 0).sum
def okAt (lines:List (List Int)) (s:Int) (k:Nat) (f:List Int):Bool:=(lines.filter fun l=>decide (l.getLastD 0=(k:Int))).all fun l=>decide (jB l f=s)
def jD (lines:List (List Int)) (s:Int) (n:Nat):Nat->List Int->List (List Int)
 | 0,pre=>[pre]
 | r+1,pre=>(upTo n).flatMap fun x=>if x∈pre then [] else if okAt lines s pre.length (pre++[x]) then jD lines s n r (pre++[x]) else []
theorem bJ:∀ {l f:List Int} {m:Nat},(∀ c∈l,c.toNat<m)->jB l (f.take m)=jB l f
 | [],_,_,_=>rfl
 | c::l,f,m,h=>by
  have ih:=bJ (f:=f) (m:=m) (l:=l) fun x hx=>h x (by simp [hx]);unfold jB at ih ⊢;rw [Zay,Zay,Zbi,Zbi,ih];have hc:=h c (by simp);rw [Zab,Zab,List.getElem?_take,if_pos hc]
theorem zdc (l:List Int) (c:Int) (f:List Int):jB (l++[c]) f=jB l f+f.getD c.toNat 0:=by simp [jB]
theorem zks {f:List Int} {M:Nat} (h:∀ v∈f,0<=v/\v<=(M:Int)):∀ l:List Int,0<=jB l f/\jB l f<=((l.length*M:Nat):Int)
 | []=>by simp [jB]
 | c::l=>by
  have ih:=zks h l;unfold jB at ih ⊢;rw [Zay,Zbi,Zav,Zbg];have:0<=f.getD c.toNat 0/\f.getD c.toNat 0<=(M:Int):=by
   rw [Zab];cases e:f[c.toNat]? with
   | none=>simp
   | some v=>exact h v (Zaa e)
  omega
theorem mH:∀ {l:List Int},l.Pairwise (· < ·)->∀ c∈l,c<=l.getLastD 0
 | [],_,c,h=>by simp at h
 | [a],_,c,h=>by simp at h;subst h;simp
 | a::b::l,hp,c,h=>by
  have ih:=mH (l:=b::l) (List.pairwise_cons.1 hp).2;have e:(a::b::l).getLastD 0=(b::l).getLastD 0:=by simp [List.getLastD]
  rw [e];rcases List.mem_cons.1 h with q | q
  ·subst q;have:=(List.pairwise_cons.1 hp).1 b (by simp);have:=ih b (by simp);omega
  ·exact ih c q
section
variable {σ α:Type}
def gM (stp:σ->α->σ×Bool):σ->List α->σ×Bool
 | s,[]=>(s,true)
 | s,x::l=>if (stp s x).2 then gM stp (stp s x).1 l else ((stp s x).1,false)
theorem zdd (stp:σ->α->σ×Bool):∀ (a b:List α) (s:σ),gM stp s (a++b)=if (gM stp s a).2 then gM stp (gM stp s a).1 b else gM stp s a
 | [],b,s=>rfl
 | x::a,b,s=>by
  rw [Zbr,gM,gM];cases c:(stp s x).2 with
  | true=>rw [if_pos rfl,if_pos rfl];exact zdd stp a b _
  | false=>simp
end
theorem zmp {n x:Nat} (h1:1<=x) (h2:x<=n):(upTo n).drop (x-1)=(x:Int)::(upTo n).drop x:=by
 have hl:(upTo n).length=n:=by simp
 rw [Zap (by omega),show x-1+1=x by omega]
 congr 1
 simp [upTo];omega
end Go.Ev
namespace Go.Ev
def oU (lines:List (List Int)) (s:Int) (f:List Int):Bool:=lines.all fun l=>decide ((f.length:Int)<=l.getLastD 0)||decide (jB l f=s)
def zgx (lines:List (List Int)) (s:Int) (n:Nat):Nat->List Int->List (List Int)
 | 0,pre=>if oU lines s pre then [pre] else []
 | r+1,pre=>if oU lines s pre then (upTo n).flatMap fun x=>if x∈pre then [] else zgx lines s n r (pre++[x]) else []
theorem zgy {n:Nat} {lines:List (List Int)} {s:Int} {pre:List Int} {x:Int} (hl:∀ l∈lines,rP n l):oU lines s (pre++[x])=(oU lines s pre&&okAt lines s pre.length (pre++[x])):=by
 rw [Bool.eq_iff_iff];simp only [oU,okAt,Zaf,Zak,Zby,decide_eq_true_eq,Zbz];have key:∀ l∈lines,l.getLastD 0<(pre.length:Int)->jB l (pre++[x])=jB l pre:=fun l hm hlt=>by
  have:(pre++[x]).take pre.length=pre:=by simp
  rw [<- bJ (f:=pre++[x]) (m:=pre.length),this];intro c hc;have:=mH (hl l hm).2.1 c hc;have:=((hl l hm).2.2 c hc).1;omega
 constructor
 ·intro h;refine ⟨fun l hm => ?_,fun l ⟨hm,he⟩ => ?_⟩
  ·by_cases c:(pre.length:Int)<=l.getLastD 0
   ·exact .inl c
   ·refine .inr ?_;rw [<- key l hm (by omega)];rcases h l hm with q | q
    ·simp only [Zas,Zav,Zcs] at q;omega
    ·exact q
  ·rcases h l hm with q | q
   ·simp only [Zas,Zav,Zcs] at q;omega
   ·exact q
 ·rintro ⟨h1,h2⟩ l hm;by_cases c:((pre++[x]).length:Int)<=l.getLastD 0
  ·exact .inl c
  ·refine .inr ?_;simp only [Zas,Zav,Zcs] at c;by_cases e:l.getLastD 0=(pre.length:Int)
   ·exact h2 l ⟨hm,e⟩
   ·rw [key l hm (by omega)];rcases h1 l hm with q | q
    ·omega
    ·exact q
theorem qH {α β:Type} {f g:α->List β}:∀ {l:List α},(∀ x∈l,f x=g x)->l.flatMap f=l.flatMap g
 | [],_=>rfl
 | a::l,h=>by rw [Zbc,Zbc,h a (by simp),qH fun x hx=>h x (by simp [hx])]
theorem zkt {n:Nat} {lines:List (List Int)} {s:Int} (hl:∀ l∈lines,rP n l):∀ (r:Nat) (pre:List Int),zgx lines s n r pre=if oU lines s pre then jD lines s n r pre else []
 | 0,pre=>rfl
 | r+1,pre=>by
  rw [zgx];cases c:oU lines s pre with
  | false=>rfl
  | true =>
   rw [if_pos rfl,if_pos rfl,jD];refine qH fun x _ => ?_;by_cases h:x∈pre
   ·rw [if_pos h,if_pos h]
   ·rw [if_neg h,if_neg h,zkt hl r (pre++[x]),zgy hl,c,Bool.true_and]
theorem zta {n:Nat} {lines:List (List Int)} {s:Int} (hl:∀ l∈lines,rP n l):oU lines s []=true:=by
 simp only [oU,Zak,Zby,decide_eq_true_eq];intro l hm;refine .inl ?_;obtain ⟨h1,h2,h3⟩:=hl l hm;obtain ⟨a,q⟩:=List.exists_mem_of_ne_nil l h1;have:=mH h2 a q;have:=(h3 a q).1;simp only [Zcs];omega
theorem zgz {lines:List (List Int)} {s:Int} {n:Nat}:∀ (r:Nat) (pre:List Int),(jD lines s n r pre).length<=n ^ r
 | 0,pre=>by simp [jD]
 | r+1,pre=>by
  rw [jD,List.length_flatMap];have:∀ l:List Int,(l.map fun x=>(if x∈pre then [] else if okAt lines s pre.length (pre++[x]) then jD lines s n r (pre++[x]) else []).length).sum<=l.length*n ^ r:=by
   intro l
   induction l with
   | nil=>simp
   | cons a l ih =>
    rw [Zay,Zbi,Zav,Zbg];have h1:(if a∈pre then [] else if okAt lines s pre.length (pre++[a]) then jD lines s n r (pre++[a]) else []).length<=n ^ r:=by
     split
     ·simp
     ·split
      ·exact zgz r _
      ·simp
    omega
  have h2:=this (upTo n);rw [Zaq,List.length_range] at h2;rw [Nat.pow_succ,Nat.mul_comm];exact h2
def insS (x:Int):List (Int×Int)->List (Int×Int)
 | []=>[(x,1)]
 |(y,c)::q=>if y<x then (y,c)::insS x q else if y=x then (y,IntKind.wrap .i64 (c+1))::q else (x,1)::(y,c)::q
def zuj (lines:List (List Int)) (D:List (List Int)):List (Int×Int):=match lines with
 | []=>[]
 | l::_=>D.foldl (fun q f=>insS (jB l f) q) []
def kW (ag:List Int->Bool) (n:Nat):Nat->List Int->List (List Int)
 | 0,pre=>if ag pre then [pre] else []
 | r+1,pre=>if ag pre then (upTo n).flatMap fun x=>if x∈pre then [] else kW ag n r (pre++[x]) else []
def SpOK (M:Int) (q:List (Int×Int)):Prop:=q.Pairwise (fun a b=>a.1<b.1)/\∀ p∈q,0<=p.1/\p.1<=M
theorem SpOK.len {q:List (Int×Int)} (h:SpOK 9000 q):q.length<=9001:=by
 obtain ⟨t,ht⟩:=vF (q.map (·.1)) ((List.range 9001).map fun (i:Nat)=>(i:Int)) (by
  rw [List.nodup_iff_pairwise_ne,Zbj];exact h.1.imp fun {a b} q e=>by omega) fun x hx=>by
  obtain ⟨p,hp,rfl⟩:=List.mem_map.1 hx;have:=h.2 p hp;exact List.mem_map.2 ⟨p.1.toNat,List.mem_range.2 (by omega),by omega⟩
 have:=ht.length_eq;rw [Zaq,List.length_range,Zas,Zaq] at this;omega
abbrev aB (lines:List (List Int)) (n:Nat) (s:Int):Nat:=(jD lines s n n []).length
def spF (lines:List (List Int)) (n:Nat) (s:Int):Option (Int×Int):=if 0<aB lines n s then some (s,(aB lines n s:Int)) else none
def spV (lines:List (List Int)) (n:Nat) (lo:Int) (m:Nat):List (Int×Int):=((List.range m).map fun (i:Nat)=>lo+(i:Int)).filterMap (spF lines n)
theorem zg0 (lines:List (List Int)) (n:Nat) (lo:Int) (m:Nat):spV lines n lo (m+1)=spV lines n lo m++(spF lines n (lo+(m:Int))).toList:=by
 rw [spV,List.range_succ,Zbq,List.filterMap_append]
 congr 1
theorem zku (lines:List (List Int)) (n:Nat) (lo:Int) (m:Nat):(spV lines n lo m).length<=m:=by
 refine Zbf (List.length_filterMap_le _ _) (by simp)
def zde:Nat->Nat
 | 0=>1
 | n+1=>(n+1)*zde n
def Here (ag:List Int->Bool):Prop:=∀ pre x,ag (pre++[x])=true->ag pre=true
theorem Here.down {ag q:List Int->Bool} {n:Nat} (hh:Here ag):∀ {r:Nat} {pre f:List Int},f∈kW q n r pre->ag f=true->ag pre=true
 | 0,pre,f,h,ha=>by
  rw [kW] at h;split at h
  ·simp at h;subst h;exact ha
  ·simp at h
 | r+1,pre,f,h,ha=>by
  rw [kW] at h;split at h
  ·obtain ⟨x,_,hx⟩:=List.mem_flatMap.1 h;split at hx
   ·simp at hx
   ·exact hh _ _ (Here.down hh hx ha)
  ·simp at h
abbrev wU (n r:Nat) (pre:List Int):List (List Int):=kW (fun _=>true) n r pre
theorem kM (n r:Nat) (pre:List Int):wU n (r+1) pre=(upTo n).flatMap fun x=>if x∈pre then [] else wU n r (pre++[x]):=by rw [wU,kW,if_pos rfl]
theorem mP {ag:List Int->Bool} {n:Nat} (hh:Here ag):∀ (r:Nat) (pre:List Int),kW ag n r pre=(wU n r pre).filter ag
 | 0,pre=>by
  cases c:ag pre <;> simp [kW,c]
 | r+1,pre=>by
  cases c:ag pre with
  | false =>
   rw [kW,c];refine (List.filter_eq_nil_iff.2 fun f hf ha => ?_).symm;rw [hh.down hf ha] at c;cases c
  | true =>
   rw [kW,c,if_pos rfl];rw [kM,List.filter_flatMap];refine qH fun x _ => ?_;by_cases h:x∈pre
   ·simp [h]
   ·simp only [h,if_false];exact mP hh r _
theorem zkv {lines:List (List Int)} {s:Int} {n:Nat}:∀ (r:Nat) (pre:List Int),zgx lines s n r pre=kW (oU lines s) n r pre
 | 0,_=>rfl
 | r+1,pre=>by
  rw [zgx,kW];cases oU lines s pre with
  | false=>rfl
  | true =>
   rw [if_pos rfl,if_pos rfl];refine qH fun x _ => ?_;rw [zkv r]
theorem zp9 {n:Nat} {lines:List (List Int)} {s:Int} (hl:∀ l∈lines,rP n l):Here (oU lines s):=fun pre x h=>by
 rw [zgy hl,Zaf] at h;exact h.1
theorem vT {n:Nat} {lines:List (List Int)} {s:Int} (hl:∀ l∈lines,rP n l):jD lines s n n []=(wU n n []).filter (oU lines s):=by
 have:=zkt (s:=s) hl n [];rw [zta hl,if_pos rfl,zkv,mP (zp9 hl)] at this;exact this.symm
theorem zdf {n:Nat}:∀ {r:Nat} {pre f:List Int},f∈wU n r pre->pre.Nodup->(∀ x∈pre,1<=x/\x<=(n:Int))->f.length=pre.length+r/\f.Nodup/\∀ x∈f,1<=x/\x<=(n:Int)
 | 0,pre,f,h,h1,h2=>by
  simp [kW] at h;subst h;exact ⟨rfl,h1,h2⟩
 | r+1,pre,f,h,h1,h2=>by
  rw [kM] at h;obtain ⟨x,hx,hx2⟩:=List.mem_flatMap.1 h;by_cases c:x∈pre
  ·simp [c] at hx2
  ·rw [if_neg c] at hx2;obtain ⟨i,hi,rfl⟩:=List.mem_map.1 hx;have:=List.mem_range.1 hi;obtain ⟨q1,q2⟩:=zdf hx2 (List.nodup_append.2 ⟨h1,by simp,fun a ha b hb e=>by simp at hb;subst hb;subst e;exact c ha⟩) fun y hy=>by
    rcases List.mem_append.1 hy with q | q
    ·exact h2 y q
    ·simp at q;omega
   exact ⟨by simp at q1;omega,q2⟩
theorem zmq {n:Nat} {f:List Int} (h:f∈wU n n []):f.length=n/\Nrm f:=by
 obtain ⟨h1,h2,h3⟩:=zdf h (by simp) (by simp);simp at h1;exact ⟨h1,h2,fun x hx=>by rw [h1];exact h3 x hx⟩
theorem zmr {l:List Int} (h:l≠[]):l.getLastD 0∈l:=by
 obtain ⟨a,q,rfl⟩:∃ a q,l=q++[a]:=⟨l.getLast h,l.dropLast,(List.dropLast_concat_getLast h).symm⟩;rw [List.getLastD_eq_getLast?,List.getLast?_concat];simp
theorem zdg {n:Nat}:∀ {r:Nat} {pre:List Int},pre.Nodup->(∀ x∈pre,1<=x/\x<=(n:Int))->pre.length+r=n->(wU n r pre).length=zde r
 | 0,pre,_,_,_=>by simp [kW,zde]
 | r+1,pre,h1,h2,h3=>by
  rw [kM,List.length_flatMap];have key:∀ l:List Int,(∀ x∈l,1<=x/\x<=(n:Int))->(l.map fun x=>(if x∈pre then [] else wU n r (pre++[x])).length).sum=(l.filter fun x=>decide (x∉pre)).length*zde r:=by
   intro l
   induction l with
   | nil=>intro _;simp
   | cons a l ih =>
    intro hl;rw [Zay,Zbi,ih fun x hx=>hl x (by simp [hx])];by_cases c:a∈pre
    ·simp [c]
    ·rw [if_neg c,zdg (List.nodup_append.2 ⟨h1,by simp,fun x hx b hb e=>by simp at hb;subst hb;subst e;exact c hx⟩) (fun y hy=>by
      rcases List.mem_append.1 hy with q | q
      ·exact h2 y q
      ·simp at q;subst q;exact hl y (by simp)) (by simp;omega)]
     simp only [Zbk,c,not_false_eq_true,decide_true,if_true,Zav,Zbg];omega
  rw [key _ fun x hx=>by
   obtain ⟨i,hi,rfl⟩:=List.mem_map.1 hx;have:=List.mem_range.1 hi;omega]
  have hc:((upTo n).filter fun x=>decide (x∉pre)).length=r+1:=by
   obtain ⟨t,ht⟩:=vF pre (upTo n) h1 fun x hx=>by
    have:=h2 x hx;exact List.mem_map.2 ⟨(x-1).toNat,List.mem_range.2 (by omega),by omega⟩
   have hn:=ht.nodup_iff.1 (zbx n);have hp:=ht.filter fun x=>decide (x∉pre);rw [hp.length_eq,List.filter_append];have e1:pre.filter (fun x=>decide (x∉pre))=[]:=List.filter_eq_nil_iff.2 fun x hx=>by simp [hx]
   have e2:t.filter (fun x=>decide (x∉pre))=t:=List.filter_eq_self.2 fun x hx=>by
    simp only [decide_eq_true_eq];intro q;exact (List.nodup_append.1 hn).2.2 x q x hx rfl
   rw [e1,e2,Zbu];have:=ht.length_eq;simp at this;omega
  rw [hc,zde]
theorem zab {lines:List (List Int)} {n:Nat} {lo:Int} {m:Nat} {p:Int×Int}:p∈spV lines n lo m↔(lo<=p.1/\p.1<lo+m)/\0<aB lines n p.1/\p.2=(aB lines n p.1:Int):=by
 rw [spV,List.mem_filterMap];constructor
 ·rintro ⟨a,ha,h⟩;obtain ⟨i,hi,rfl⟩:=List.mem_map.1 ha;have:=List.mem_range.1 hi;rw [spF] at h;split at h
  ·rename_i c;have:=Option.some.inj h;subst this;exact ⟨by simp;omega,c,rfl⟩
  ·cases h
 ·rintro ⟨h1,h2,h3⟩;refine ⟨p.1,List.mem_map.2 ⟨(p.1-lo).toNat,List.mem_range.2 (by omega),by omega⟩,?_⟩;rw [spF,if_pos h2,<- h3]
def wL (s:List Int) (v x:Int):List Int:=s.set v.toNat (s.getD v.toNat 0+x)
def vs1 (s:List Int) (e:Int×Int) (x:Int):List Int:=wL (wL s e.1 x) e.2 x
def vsG (s:List Int) (E:List (Int×Int)) (ls:List Int):List Int:=(E.zip ls).foldl (fun s p=>vs1 s p.1 p.2) s
def vsF (V:Nat) (E:List (Int×Int)) (ls:List Int):List Int:=vsG (List.replicate V 0) E ls
theorem cA (s:List Int) (v x:Int):(wL s v x).length=s.length:=by simp [wL]
theorem zkw (s:List Int) (e:Int×Int) (x:Int):(vs1 s e x).length=s.length:=by simp [vs1,cA]
theorem zkx:∀ (E:List (Int×Int)) (ls s:List Int),(vsG s E ls).length=s.length
 | [],ls,s=>rfl
 | e::E,[],s=>rfl
 | e::E,x::ls,s=>by
  show (vsG (vs1 s e x) E ls).length=_;rw [zkx E ls,zkw]
theorem dD (V:Nat) (E:List (Int×Int)) (ls:List Int):(vsF V E ls).length=V:=by rw [vsF,zkx];simp
theorem zg1:∀ (E:List (Int×Int)) (ls:List Int) (s:List Int) (x:Int) (e:Int×Int),E[ls.length]? = some e->vsG s E (ls++[x])=vs1 (vsG s E ls) e x
 | [],ls,s,x,e,h=>by simp at h
 | a::E,[],s,x,e,h=>by
  simp at h;subst h;cases E <;> rfl
 | a::E,y::ls,s,x,e,h=>by
  show vsG (vs1 s a y) E (ls++[x])=vs1 (vsG (vs1 s a y) E ls) e x;exact zg1 E ls _ x e (by simpa using h)
theorem zqa {V:Nat} {E:List (Int×Int)} {ls:List Int} {x:Int} {e:Int×Int} (h:E[ls.length]? = some e):vsF V E (ls++[x])=vs1 (vsF V E ls) e x:=zg1 E ls _ x e h
def Sm (s:List Int) (M:Nat):Prop:=∀ v∈s,0<=v/\v<=(M:Int)
theorem Sm.get {s:List Int} {M:Nat} (h:Sm s M) (i:Nat):0<=s.getD i 0/\s.getD i 0<=(M:Int):=by
 rw [Zab];cases e:s[i]? with
 | none=>simp
 | some v=>exact h v (Zaa e)
theorem Sm.mono {s:List Int} {M N:Nat} (h:Sm s M) (hm:M<=N):Sm s N:=fun v hv=>by have:=h v hv;omega
theorem Sm.add {s:List Int} {M X:Nat} {v x:Int} (h:Sm s M) (hx:0<=x/\x<=(X:Int)):Sm (wL s v x) (M+X):=by
 intro u hu;have g:=h.get v.toNat;rcases List.mem_or_eq_of_mem_set hu with q | rfl
 ·have:=h u q;omega
 ·omega
theorem Sm.vs1 {s:List Int} {M X:Nat} {e:Int×Int} {x:Int} (h:Sm s M) (hx:0<=x/\x<=(X:Int)):Sm (Ev.vs1 s e x) (M+2*X):=by
 have:=(h.add (v:=e.1) hx).add (v:=e.2) hx;exact this.mono (by omega)
theorem zqb {X:Nat}:∀ (E:List (Int×Int)) (ls s:List Int) (M:Nat),Sm s M->(∀ x∈ls,0<=x/\x<=(X:Int))->Sm (vsG s E ls) (M+ls.length*(2*X))
 | [],ls,s,M,h,_=>h.mono (by omega)
 | e::E,[],s,M,h,_=>h.mono (by omega)
 | e::E,x::ls,s,M,h,hl=>by
  have:=zqb E ls (vs1 s e x) (M+2*X) (h.vs1 (hl x (by simp))) fun y hy=>hl y (by simp [hy]);refine Sm.mono this ?_;rw [Zav,Zbg];omega
theorem zwo {V X:Nat} {E:List (Int×Int)} {ls:List Int} (hl:∀ x∈ls,0<=x/\x<=(X:Int)):Sm (vsF V E ls) (ls.length*(2*X)):=by
 have:=zqb E ls (List.replicate V 0) 0 (by intro v hv;simp at hv;omega) hl
 rwa [Zaz] at this
theorem bG {n:Nat}:∀ {r:Nat} {pre f:List Int},f∈wU n r pre->∃ t,f=pre++t
 | 0,pre,f,h=>by
  simp [kW] at h;exact ⟨[],by simp [h]⟩
 | r+1,pre,f,h=>by
  rw [kM] at h;obtain ⟨x,_,hx⟩:=List.mem_flatMap.1 h;by_cases c:x∈pre
  ·simp [c] at hx
  ·rw [if_neg c] at hx;obtain ⟨t,ht⟩:=bG hx;exact ⟨x::t,by simp [ht]⟩
theorem zb4 {n:Nat}:∀ {t pre:List Int},(pre++t).Nodup->(∀ x∈t,1<=x/\x<=(n:Int))->pre++t∈wU n t.length pre
 | [],pre,_,_=>by simp [kW]
 | x::t,pre,h,hb=>by
  rw [Zav,kM];have hx:=hb x (by simp);refine List.mem_flatMap.2 ⟨x,List.mem_map.2 ⟨(x-1).toNat,List.mem_range.2 (by omega),by omega⟩,?_⟩;have hx2:x∉pre:=fun q=>(List.nodup_append.1 h).2.2 x q x (by simp) rfl;rw [if_neg hx2];have e:pre++x::t=(pre++[x])++t:=by simp
  rw [e] at h ⊢;exact zb4 h fun y hy=>hb y (by simp [hy])
theorem zms {n:Nat} {f:List Int}:f∈wU n n []↔f.length=n/\Nrm f:=by
 constructor
 ·exact zmq
 ·rintro ⟨rfl,h1,h2⟩;have:=zb4 (n:=f.length) (t:=f) (pre:=[]) (by simpa using h1) h2;simpa using this
theorem zmt (pre:List Int) {x y:Int} {s t:List Int} (h:x<y):j7 (pre++x::s) (pre++y::t)=true:=by
 induction pre with
 | nil=>rw [Zbu,Zbu,j7,if_neg (by omega)];simpa using h
 | cons a p ih=>rw [Zbr,Zbr,j7,if_pos rfl,ih]
theorem ztb (n:Nat):(upTo n).Pairwise (· < ·):=by
 rw [Zbj];exact List.pairwise_lt_range.imp (by intro a b h;omega)
theorem zdh {n:Nat}:∀ (r:Nat) (pre:List Int),(wU n r pre).Pairwise fun a b=>j7 a b=true
 | 0,pre=>by simp [kW]
 | r+1,pre=>by
  rw [kM,List.pairwise_flatMap];refine ⟨fun x _ => ?_,(ztb n).imp fun {x y} hxy a ha b hb => ?_⟩
  ·by_cases c:x∈pre
   ·simp [c]
   ·rw [if_neg c];exact zdh r _
  ·by_cases c:x∈pre
   ·simp [c] at ha
   ·by_cases d:y∈pre
    ·simp [d] at hb
    ·rw [if_neg c] at ha;rw [if_neg d] at hb;obtain ⟨s,rfl⟩:=bG ha;obtain ⟨t,rfl⟩:=bG hb;have:=zmt pre (s:=s) (t:=t) hxy;simpa using this
theorem zdi:∀ a:List Int,j7 a a=false
 | []=>rfl
 | x::a=>by rw [j7,if_pos rfl];exact zdi a
theorem zmu {n:Nat} {lines:List (List Int)} {s:Int} (hl:∀ l∈lines,rP n l):(jD lines s n n []).Pairwise fun a b=>j7 a b=true:=by
 rw [vT hl];exact (zdh n []).filter _
theorem cO {n:Nat} {lines:List (List Int)} {s:Int} (hl:∀ l∈lines,rP n l):(jD lines s n n []).Nodup:=(zmu hl).imp fun {a b} h e=>by
 subst e;rw [zdi] at h;cases h
theorem zdj {n:Nat} {lines:List (List Int)} {s:Int} {f:List Int} (hl:∀ l∈lines,rP n l) (hf:f.length=n):oU lines s f=true↔∀ l∈lines,jB l f=s:=by
 simp only [oU,Zak,Zby,decide_eq_true_eq];constructor
 ·intro h l hm;rcases h l hm with q | q
  ·have:=(hl l hm).2.2 _ (zmr (hl l hm).1);omega
  ·exact q
 ·intro h l hm;exact .inr (h l hm)
theorem xE {n:Nat} {lines:List (List Int)} {s:Int} {f:List Int} (hl:∀ l∈lines,rP n l):f∈jD lines s n n []↔(f.length=n/\Nrm f)/\∀ l∈lines,jB l f=s:=by
 rw [vT hl,Zbz,zms];constructor
 ·rintro ⟨h1,h2⟩;exact ⟨h1,(zdj hl h1.1).1 h2⟩
 ·rintro ⟨h1,h2⟩;exact ⟨h1,(zdj hl h1.1).2 h2⟩
abbrev cplZ (n:Nat) (f:List Int):List Int:=f.map fun x=>(n:Int)+1-x
theorem ztc {n:Nat} {f:List Int} (hf:f.length=n) (hn:Nrm f):(cplZ n f).length=n/\Nrm (cplZ n f):=by
 refine ⟨by simp [hf],List.pairwise_map.2 (hn.1.imp fun {a b} q e=>q (by omega)),fun x hx => ?_⟩;obtain ⟨y,hy,rfl⟩:=List.mem_map.1 hx;have:=hn.2 y hy;rw [Zaq];omega
theorem zes (n:Nat) (f:List Int):cplZ n (cplZ n f)=f:=by
 rw [cplZ,cplZ,Zcl];have:((fun x:Int=>(n:Int)+1-x) ∘ fun x=>(n:Int)+1-x)=id:=by funext x;simp;omega
 rw [this,List.map_id]
theorem zg2 {n:Nat} {f:List Int} (hf:f.length=n):∀ {l:List Int},(∀ c∈l,0<=c/\c<(n:Int))->jB l (cplZ n f)=l.length*((n:Int)+1)-jB l f
 | [],_=>by simp [jB]
 | c::l,h=>by
  have ih:=zg2 hf (l:=l) fun x hx=>h x (by simp [hx]);have hc:=h c (by simp);have hx:f[c.toNat]? = some f[c.toNat]:=List.getElem?_eq_getElem (by omega);unfold jB at ih ⊢;rw [Zay,Zbi,ih,Zay,Zbi,Zav,Zab,Zab,List.getElem?_map,hx];simp only [Zbx,Option.getD_some,Int.natCast_add,Int.add_mul,Int.natCast_one,Int.one_mul];omega
theorem zqc {n k:Nat} {lines:List (List Int)} (s:Int) (hl:∀ l∈lines,rP n l) (hk:∀ l∈lines,l.length=k):((jD lines s n n []).map (cplZ n)).Perm (jD lines ((k:Int)*((n:Int)+1)-s) n n []):=by
 have go:∀ (s:Int) f,f∈jD lines s n n []->cplZ n f∈jD lines ((k:Int)*((n:Int)+1)-s) n n []:=fun s f hf=>by
  obtain ⟨⟨h1,h2⟩,h3⟩:=(xE hl).1 hf;refine (xE hl).2 ⟨ztc h1 h2,fun l hm => ?_⟩;rw [zg2 h1 (hl l hm).2.2,h3 l hm,hk l hm]
 have inj:∀ a b:List Int,cplZ n a=cplZ n b->a=b:=fun a b e=>by
  have:=congrArg (cplZ n) e
  rwa [zes,zes] at this
 have hnd:((jD lines s n n []).map (cplZ n)).Nodup:=List.pairwise_map.2 ((cO hl).imp fun {a b} h e=>h (inj _ _ e));refine (List.perm_ext_iff_of_nodup hnd (cO hl)).2 fun f => ?_;rw [Zaj];constructor
 ·rintro ⟨g,hg,rfl⟩;exact go s g hg
 ·intro hf;refine ⟨cplZ n f,?_,zes n f⟩;have:=go _ f hf
  rwa [show (k:Int)*((n:Int)+1)-((k:Int)*((n:Int)+1)-s)=s by omega] at this
theorem ztd {n k:Nat} {lines:List (List Int)} (s:Int) (hl:∀ l∈lines,rP n l) (hk:∀ l∈lines,l.length=k):aB lines n ((k:Int)*((n:Int)+1)-s)=aB lines n s:=by
 have:=(zqc s hl hk).length_eq;rw [Zaq] at this;exact this.symm
end Go.Ev
namespace Go.Ev
open Go Go.Proofs
variable {B:Nat}
def j5 (V:Int) (seen:List (Int×Int)) (e:Int×Int):Int:=if ¬ (0<=e.1/\e.1<V/\0<=e.2/\e.2<V) then 10 else if e.2<=e.1 then 11 else if e∈seen then 9 else 0
def uG (V:Int):List (Int×Int)->List (Int×Int)->Int
 | _,[]=>0
 | seen,e::es=>if j5 V seen e≠0 then j5 V seen e else uG V (seen++[e]) es
def yD (V:Int) (E:List (Int×Int)):Int:=if V<1\/16<V then 3 else if 32<E.length then 5 else uG V [] E
theorem zb5 {V:Int} {E:List (Int×Int)} {i:Nat} (h:i<E.length):uG V (E.take i) (E.drop i)=if j5 V (E.take i) E[i]≠0 then j5 V (E.take i) E[i] else uG V (E.take (i+1)) (E.drop (i+1)):=by
 rw [Zap h,uG,Zan,List.getElem?_eq_getElem h];rfl
theorem zg3 {V:Int}:∀ {es seen:List (Int×Int)},uG V seen es=0->∀ e∈es,(0<=e.1/\e.1<V/\0<=e.2/\e.2<V)/\e.1<e.2
 | [],_,_,e,h=>by simp at h
 | a::es,seen,h,e,he=>by
  rw [uG] at h;by_cases c:j5 V seen a=0
  ·rw [if_neg (by simp [c])] at h;rcases List.mem_cons.1 he with rfl | he
   ·rw [j5] at c;by_cases c1:0<=e.1/\e.1<V/\0<=e.2/\e.2<V
    ·rw [if_neg (by simp [c1])] at c;by_cases c2:e.2<=e.1
     ·rw [if_pos c2] at c;cases c
     ·exact ⟨c1,by omega⟩
    ·rw [if_pos c1] at c;cases c
   ·exact zg3 h e he
  ·rw [if_pos c] at h;exact absurd h c
theorem vP {V:Int} {E:List (Int×Int)} (h:yD V E=0):(1<=V/\V<=16)/\E.length<=32/\∀ e∈E,(0<=e.1/\e.1<V/\0<=e.2/\e.2<V)/\e.1<e.2:=by
 rw [yD] at h;by_cases c:V<1\/16<V
 ·rw [if_pos c] at h;cases h
 rw [if_neg c] at h;by_cases c2:32<E.length
 ·rw [if_pos c2] at h;cases h
 rw [if_neg c2] at h;exact ⟨by omega,by omega,zg3 h⟩
theorem zjb {V:Int} {E:List (Int×Int)} (hE:E.length<=1000000):Pure Tryz.prog B 36 [.agg [I V,ql E]] (· = I (yD V E)):=by
 refine yF fun h nx K H0 hK=>zL zP yj 10000000 fun hf => ?_;rw [F36.go];refine H0.box (l:=[I V,ql E]) rfl fun bx h1 nx1 H1 => ?_;have ret:∀ (v:Int) h' nx' L,v=yD V E->Hp h h' nx' L->K (I v) h' nx'=.ok True:=fun v h' nx' L hv H'=>by rw [hv];exact hK _ _ _ _ _ H' (zH rfl) rfl
 rw [sFx,H1.load (k:=0) (i:=0) rfl rfl];simp only [jm];by_cases c1:V<1
 ·simp only [c1,decide_true,yW,zT,zC];exact ret 3 _ _ _ (by rw [yD,if_pos (.inl c1)]) H1
 simp only [c1,decide_false,yH,sFx];rw [H1.load (k:=0) (i:=0) rfl rfl];simp only [vk,zR];by_cases c2:16<V
 ·simp only [c2,decide_true,zC];exact ret 3 _ _ _ (by rw [yD,if_pos (.inr c2)]) H1
 simp only [c2,decide_false,zD,sFx];rw [H1.load (k:=0) (i:=0+1) rfl rfl];simp only [zE,vk];by_cases c3:32<E.length
 ·simp only [show (32:Int)<(E.length:Int) by omega,decide_true,zC];exact ret 5 _ _ _ (by rw [yD,if_neg (by omega),if_pos c3]) H1
 simp only [show ¬ (32:Int)<(E.length:Int) by omega,decide_false,zD];have hg:yD V E=uG V (E.take 0) (E.drop 0):=by rw [yD,if_neg (by omega),if_neg c3];rfl
 refine F36.L3 (fun m x3 h' nx'=>∃ (i:Nat) (X:List Ob),x3=I i/\E.length-i=m/\i<=E.length/\yD V E=uG V (E.take i) (E.drop i)/\Hp h h' nx' (.arr bx [I V,ql E]::X)) (m:=E.length) (by omega) ⟨0,_,rfl,rfl,by omega,hg,H1⟩ ?_;rintro m z2 z3 z4 z5 z8 z9 z10 z11 z12 h2 nx2 R ⟨i,X,rfl,rfl,hi,hg,H2⟩ hR;rw [sFx,H2.load (k:=0) (i:=0+1) rfl rfl];simp only [zE,jm];by_cases hlt:i<E.length
 case neg =>
  simp only [show ¬ (i:Int)<(E.length:Int) by omega,decide_false,zD];rw [F36.k19];exact ret 0 _ _ _ (by rw [hg,Zbn (by omega)];rfl) H2
 simp only [show (i:Int)<(E.length:Int) by omega,decide_true,zC];rw [zb5 hlt] at hg;rw [sFx,H2.load (k:=0) (i:=0+1) rfl rfl,dw rfl hlt,jR hlt,qD];refine H2.alloc fun b3 h3 nx3 H3 => ?_;refine H3.qy (k:=0) (n:=2) rfl rfl rfl fun h4 H4 => ?_;have bad:∀ (v:Int),v≠0->j5 V (E.take i) E[i]=v->K (I v) h4 nx3=.ok True:=fun v h0 he=>ret v _ _ _ (by rw [hg,he,if_pos h0]) H4;have out:¬ (0<=E[i].1/\E[i].1<V/\0<=E[i].2/\E[i].2<V)->K (I 10) h4 nx3=.ok True:=fun c=>bad 10 (by omega) (by rw [j5,if_pos c]);rw [aS,H4.load (k:=0) (i:=0) rfl rfl];simp only [jm];by_cases d1:E[i].1<0
 ·simp only [d1,decide_true,yW,zT,zC];exact out (by omega)
 simp only [d1,decide_false,yH];rw [aS,H4.load (k:=0) (i:=0) rfl rfl,sFx,H4.load (k:=1) (i:=0) rfl rfl];simp only [vw,zR];by_cases d2:V<=E[i].1
 ·simp only [d2,decide_true,yW,zT,zC];exact out (by omega)
 simp only [d2,decide_false,yH];rw [sAx1,H4.load (k:=0) (i:=0+1) rfl rfl];simp only [jm,zR];by_cases d3:E[i].2<0
 ·simp only [d3,decide_true,yW,zT,zC];exact out (by omega)
 simp only [d3,decide_false,yH];rw [sAx1,H4.load (k:=0) (i:=0+1) rfl rfl,sFx,H4.load (k:=1) (i:=0) rfl rfl];simp only [vw,zR];by_cases d4:V<=E[i].2
 ·simp only [d4,decide_true,zC];exact out (by omega)
 simp only [d4,decide_false,zD];rw [F36.k9,aS,H4.load (k:=0) (i:=0) rfl rfl,sAx1,H4.load (k:=0) (i:=0+1) rfl rfl];simp only [vw];by_cases d5:E[i].2<=E[i].1
 ·simp only [d5,decide_true,zC];exact bad 11 (by omega) (by rw [j5,if_neg (by omega),if_pos d5])
 simp only [d5,decide_false,zD];refine F36.L11 (fun m x5 h' nx'=>∃ k:Nat,x5=I k/\i-k=m/\k<=i/\h'=h4/\nx'=nx3/\∀ j p,j<k->E[j]? = some p->p≠E[i]) (m:=i) (by omega) ⟨0,rfl,rfl,by omega,rfl,rfl,fun j p hj=>by omega⟩ ?_;rintro m y2 y5 y11 y12 h4 nx3 R2 ⟨k,rfl,rfl,hk,rfl,rfl,hne⟩ hR2;simp only [jm];by_cases hkt:k<i
 ·simp only [show (k:Int)<(i:Int) by omega,decide_true,zC];have hkE:k<E.length:=by omega
  rw [sFx,H4.load (k:=1) (i:=0+1) rfl rfl,dw rfl hkE,jR hkE,qD,H4.zi (k:=0) (n:=2) rfl rfl,zue];by_cases e:E[k]=E[i]
  ·rw [e];simp only [decide_true,Bool.and_self,zC];refine bad 9 (by omega) ?_;rw [j5,if_neg (by omega),if_neg d5,if_pos];exact Zaa (i:=k) (by rw [List.getElem?_take_of_lt hkt,List.getElem?_eq_getElem hkE,e])
  ·have hb:(decide (E[k].1=E[i].1)&&decide (E[k].2=E[i].2))=false:=by
    rw [Bool.eq_false_iff];intro q;simp only [Zaf,decide_eq_true_eq] at q;exact e (Prod.ext q.1 q.2)
   rw [hb,zD,jd (by omega)];refine hR2 _ _ _ _ _ _ _ (by omega) ⟨k+1,rfl,rfl,by omega,rfl,rfl,fun j p hj hp => ?_⟩;by_cases ej:j=k
   ·subst ej;rw [List.getElem?_eq_getElem hkE] at hp;exact (Option.some.inj hp) ▸ e
   ·exact hne j p (by omega) hp
 ·simp only [show ¬ (k:Int)<(i:Int) by omega,decide_false,zD];obtain rfl:k=i:=by omega
  rw [F36.k18,jd (by omega)];have hz:j5 V (E.take k) E[k]=0:=by
   rw [j5,if_neg (by omega),if_neg d5,if_neg];intro q;obtain ⟨j,hj⟩:=List.mem_iff_getElem?.1 q;rw [List.getElem?_take] at hj;split at hj
   ·exact hne j _ (by assumption) hj rfl
   ·cases hj
  rw [hz,if_neg (by simp)] at hg;exact hR _ _ _ _ _ _ _ _ _ _ _ _ (by omega) ⟨k+1,X,rfl,rfl,by omega,hg,H4.drop⟩
theorem zqd {q:List (Int×Int)} {e:Int×Int} (hq:q.length<=1000000):Pure Tryz.prog B 167 [ql q,.agg [I e.1,I e.2]] (fun v=>∃ r:Int,v=I r/\(0<=r↔e∈q)):=by
 refine yF fun h nx K H0 hK=>zL zP yj 10000000 fun hf => ?_;rw [uz.go];refine H0.box (l:=[I e.1,I e.2]) rfl fun bx h1 nx1 H1 => ?_;simp only [zE];refine uz.L1 (fun m z6 h' nx'=>∃ i:Nat,z6=I i/\q.length-i=m/\i<=q.length/\h'=h1/\nx'=nx1/\e∉q.take i) (m:=q.length) (by omega) ⟨0,rfl,rfl,by omega,rfl,rfl,by simp⟩ ?_;rintro m z3 z4 z6 z7 z8 h1 nx1 R ⟨i,rfl,rfl,hi,rfl,rfl,hn⟩ hR;simp only [jm];by_cases hlt:i<q.length
 ·simp only [show (i:Int)<(q.length:Int) by omega,decide_true,zC];rw [H1.zi (k:=0) (n:=2) rfl rfl,dw rfl hlt,jR hlt,qD,zue];by_cases c:e=q[i]
  ·rw [c];simp only [decide_true,Bool.and_self,zC];refine hK _ _ _ _ _ H1 (zH rfl) ⟨_,rfl,?_⟩;exact ⟨fun _=>by rw [c];exact Zao hlt,fun _=>by omega⟩
  ·have hb:(decide (e.1=q[i].1)&&decide (e.2=q[i].2))=false:=by
    rw [Bool.eq_false_iff];intro q;simp only [Zaf,decide_eq_true_eq] at q;exact c (Prod.ext q.1 q.2)
   rw [hb,zD,jd (by omega)];refine hR _ _ _ _ _ _ _ _ (by omega) ⟨i+1,rfl,rfl,by omega,rfl,rfl,?_⟩;rw [Zan,List.getElem?_eq_getElem hlt,Option.toList_some];intro h;rcases List.mem_append.1 h with q1 | q1
   ·exact hn q1
   ·simp at q1;exact c q1
 ·simp only [show ¬ (i:Int)<(q.length:Int) by omega,decide_false,zD];rw [uz.k8];rw [Zal (by omega)] at hn;refine hK _ _ _ _ _ H1 (zH rfl) ⟨_,rfl,?_⟩;exact ⟨fun h=>by omega,fun h=>absurd h hn⟩
theorem zg4 {q:List (Int×Int)} {e:Int×Int} (hq:q.length<=1000000):Pure Tryz.prog B 100 [ql q,.agg [I e.1,I e.2]] (· = .bool (decide (e∈q))):=by
 refine yF fun h nx K H0 hK=>zL zP yj 1000 fun hf => ?_;rw [oG.go];refine H0.box (l:=[I e.1,I e.2]) rfl fun bx h1 nx1 H1 => ?_;rw [H1.zi (k:=0) (n:=2) rfl rfl];refine zqd hq _ _ _ _ ?_;rintro _ ⟨r,rfl,hr⟩ _;simp only [vw];refine hK _ _ _ _ _ H1 (zH rfl) ?_;exact congrArg AV.bool (decide_eq_decide.2 hr)
theorem pB {V:Int} {E:List (Int×Int)} (hE:E.length<=1000000):Pure Tryz.prog B 43 [.agg [I V,ql E]] (· = I (yD V E)):=by
 refine yF fun h nx K H0 hK=>zL zP yj 10000000 fun hf => ?_;rw [F43.go];refine H0.box (l:=[I V,ql E]) rfl fun bx h1 nx1 H1 => ?_;rw [sFx,H1.load (k:=0) (i:=0) rfl rfl,sFx,H1.load (k:=0) (i:=0+1) rfl rfl];simp only [zE,vk];refine H1.zu (l:=[I V]) rfl fun id h2 nx2 H2 => ?_;simp only [zA,zE];rw [H2.load (k:=1) (i:=0+1) rfl rfl];simp only [zA,sFx];refine m7 (args':=[I 1,I 16,encI [V]]) (.cons (.int _ _) (.cons (.int _ _) (.cons (yu.frz (H2.own (.arr id [I V]) (by simp)) (T.fB _ id) (Zah _) rfl (fun v hv=>by simp at hv;subst hv;rfl)) .nil))) rfl (fun B=>zel (l:=[V]) (by simp)) (fun v hv=>by rw [hv];exact .int _ _) ?_;rintro _ rfl _;rw [H2.load (k:=1) (i:=0+1) rfl rfl];simp only [zA,zE];refine uJ _ _ _ _ _ _ ?_;rintro _ rfl _;refine H2.zu (l:=[I (if [V].any (fun x=>decide (x<1)||decide (16<x)) then 3 else 0),I (if decide (32<(E.length:Int)) then 5 else 0)]) rfl fun id3 h3 nx3 H3 => ?_;refine gI (l:=[if [V].any (fun x=>decide (x<1)||decide (16<x)) then 3 else 0,if decide (32<(E.length:Int)) then 5 else 0]) H3 (k:=0) rfl (fun B=>wD (by simp)) (fun v hv=>by rw [hv];exact .int _ _) ?_;rintro _ rfl;have ret:∀ (v:Int) h' nx' L,v=yD V E->Hp h h' nx' L->K (I v) h' nx'=.ok True:=fun v h' nx' L hv H'=>by rw [hv];exact hK _ _ _ _ _ H' (zH rfl) rfl
 have ef:yX [if [V].any (fun x=>decide (x<1)||decide (16<x)) then 3 else 0,if decide (32<(E.length:Int)) then 5 else 0]=if V<1\/16<V then 3 else if 32<E.length then 5 else 0:=by
  by_cases c:V<1\/16<V
  ·simp [yX,c]
  ·by_cases c2:32<E.length
   ·have:(32:Int)<(E.length:Int):=by omega
    simp [yX,c,c2,this]
   ·have:¬ (32:Int)<(E.length:Int):=by omega
    simp [yX,c,c2,this]
 rw [ef];simp only [qg];by_cases c1:V<1\/16<V
 ·simp only [c1,if_true,show ¬ (3:Int)=0 by omega,decide_false,Zag,zC];exact ret 3 _ _ _ (by rw [yD,if_pos c1]) H3
 simp only [c1,if_false];by_cases c3:32<E.length
 ·simp only [c3,if_true,show ¬ (5:Int)=0 by omega,decide_false,Zag,zC];exact ret 5 _ _ _ (by rw [yD,if_neg c1,if_pos c3]) H3
 simp only [c3,if_false,decide_true,Zae,zD,sFx];rw [H3.load (k:=2) (i:=0+1) rfl rfl];simp only [zE];have hg:yD V E=uG V (E.take 0) (E.drop 0):=by rw [yD,if_neg c1,if_neg c3];rfl
 have H3':Hp h h3 nx3 (.arr bx [I V,ql E]::[]):=H3.drop.drop
 clear H3
 refine F43.L2 (fun m x11 h' nx'=>∃ (i:Nat),x11=I i/\E.length-i=m/\i<=E.length/\yD V E=uG V (E.take i) (E.drop i)/\Hp h h' nx' (.arr bx [I V,ql E]::[])) (m:=E.length) (by omega) ⟨0,rfl,rfl,by omega,hg,H3'⟩ ?_;rintro m z2 z4 z5 z6 z7 z11 z12 z13 h4 nx4 R ⟨i,rfl,rfl,hi,hg,H4⟩ hR;simp only [jm];by_cases hlt:i<E.length
 case neg =>
  simp only [show ¬ (i:Int)<(E.length:Int) by omega,decide_false,zD];rw [F43.k10];exact ret 0 _ _ _ (by rw [hg,Zbn (by omega)];rfl) H4
 simp only [show (i:Int)<(E.length:Int) by omega,decide_true,zC];rw [zb5 hlt] at hg;rw [dw rfl hlt,jR hlt,qD];refine H4.alloc fun b5 h5 nx5 H5 => ?_;refine H5.qy (k:=0) (n:=2) rfl rfl rfl fun h6 H6 => ?_;have H6:Hp h h6 nx5 (.arr b5 [I E[i].1,I E[i].2]::.arr bx [I V,ql E]::[]):=H6;have tail:∀ (kn:Bool) (z13:AV),kn=decide (0<=E[i].1/\E[i].1<V/\0<=E[i].2/\E[i].2<V)->IR.run F43.b8 (CS Tryz.prog B) 10000000 (((fnO F43.res K).blk 0 (IR.run F43.b10 (CS Tryz.prog B) 10000000 (fnO F43.res K) (xu F43.res K))).blk 1 (IR.run F43.b9 (CS Tryz.prog B) 10000000 ((fnO F43.res K).blk 0 (IR.run F43.b10 (CS Tryz.prog B) 10000000 (fnO F43.res K) (xu F43.res K))) R)) (IR.run F43.b9 (CS Tryz.prog B) 10000000 ((fnO F43.res K).blk 0 (IR.run F43.b10 (CS Tryz.prog B) 10000000 (fnO F43.res K) (xu F43.res K))) R) (F43.fr (.agg [I V,ql E]) (.ptr bx 0) z2 (I 0) (I i) (.ptr b5 0) (.bool kn) z7 (.bool false) (ql E) (I E.length) (I i) (.bool true) z13) h6 nx5=.ok True:=by
  intro kn z13 hkn;rw [F43.k8];simp only [yK];rw [aS,H6.load (k:=0) (i:=0) rfl rfl,sAx1,H6.load (k:=0) (i:=0+1) rfl rfl];simp only [vw,sFx];rw [H6.load (k:=1) (i:=0+1) rfl rfl,zek (by omega) (by omega),bU hi,H6.zi (k:=0) (n:=2) rfl rfl];refine uJ _ _ _ _ _ _ ?_;rintro _ rfl _;rw [H6.zi (k:=0) (n:=2) rfl rfl,zA,zek (by omega) (by omega),bU hi];simp only [zA];rw [H6.load (k:=1) (i:=0+1) rfl rfl];simp only [zA,sFx,vw];rw [H6.load (k:=0) (i:=0+1) rfl rfl,zA,sAx1,zA,H6.load (k:=0) (i:=0) rfl rfl,zA,aS,zA];refine uJ _ _ _ _ _ _ ?_;rintro _ rfl _;rw [H6.zi (k:=0) (n:=2) rfl rfl,zA,zek (by omega) (by omega),bU hi];simp only [zA];rw [H6.load (k:=1) (i:=0+1) rfl rfl];simp only [zA,sFx];refine zg4 (e:=E[i]) (by rw [Zbb];omega) _ _ _ _ ?_;rintro _ rfl _;refine uJ _ _ _ _ _ _ ?_;rintro _ rfl _;refine H6.zu (l:=[I (if (!kn) then 10 else 0),I (if decide (E[i].2<=E[i].1) then 11 else 0),I (if decide (E[i]∈E.take i) then 9 else 0)]) rfl fun id7 h7 nx7 H7 => ?_;refine gI (l:=[if (!kn) then 10 else 0,if decide (E[i].2<=E[i].1) then 11 else 0,if decide (E[i]∈E.take i) then 9 else 0]) H7 (k:=0) rfl (fun B=>wD (by simp)) (fun v hv=>by rw [hv];exact .int _ _) ?_;rintro _ rfl;have ee:yX [if (!kn) then 10 else 0,if decide (E[i].2<=E[i].1) then 11 else 0,if decide (E[i]∈E.take i) then 9 else 0]=j5 V (E.take i) E[i]:=by
   by_cases d1:0<=E[i].1/\E[i].1<V/\0<=E[i].2/\E[i].2<V
   ·have e0:j5 V (E.take i) E[i]=if E[i].2<=E[i].1 then 11 else if E[i]∈E.take i then 9 else 0:=by rw [j5,if_neg (fun q=>q d1)]
    rw [hkn,decide_eq_true d1,e0];by_cases d2:E[i].2<=E[i].1
    ·rw [if_pos d2,decide_eq_true d2];rfl
    ·rw [if_neg d2,decide_eq_false d2];by_cases d3:E[i]∈E.take i
     ·rw [if_pos d3,decide_eq_true d3];rfl
     ·rw [if_neg d3,decide_eq_false d3];rfl
   ·have e0:j5 V (E.take i) E[i]=10:=by rw [j5,if_pos d1]
    rw [hkn,decide_eq_false d1,e0];rfl
  rw [ee];simp only [qg];by_cases c:j5 V (E.take i) E[i]=0
  ·simp only [c,decide_true,Zae,zD];rw [F43.k9,jd (by omega)];rw [c,if_neg (by simp)] at hg;exact hR _ _ _ _ _ _ _ _ _ _ _ (by omega) ⟨i+1,rfl,rfl,by omega,hg,H7.drop.drop⟩
  ·simp only [c,decide_false,Zag,zC];rw [if_pos c] at hg;exact ret _ _ _ _ hg.symm H7
 rw [aS,H6.load (k:=0) (i:=0) rfl rfl];simp only [vw];by_cases d1:0<=E[i].1
 case neg =>
  simp only [d1,decide_false,jA,zR];exact tail false _ (decide_eq_false (by omega)).symm
 simp only [d1,decide_true,y9];rw [aS,H6.load (k:=0) (i:=0) rfl rfl,sFx,H6.load (k:=1) (i:=0) rfl rfl];simp only [jm,zT];by_cases d2:E[i].1<V
 case neg =>
  simp only [d2,decide_false,jA,zR];exact tail false _ (decide_eq_false (by omega)).symm
 simp only [d2,decide_true,y9];rw [sAx1,H6.load (k:=0) (i:=0+1) rfl rfl];simp only [vw,zT];by_cases d3:0<=E[i].2
 case neg =>
  simp only [d3,decide_false,jA,zR];exact tail false _ (decide_eq_false (by omega)).symm
 simp only [d3,decide_true,y9];rw [sAx1,H6.load (k:=0) (i:=0+1) rfl rfl,sFx,H6.load (k:=1) (i:=0) rfl rfl];simp only [jm,zT];exact tail _ _ (decide_eq_decide.2 (by omega))
abbrev eAt (E:List (Int×Int)) (j:Nat):Int×Int:=E.getD j (0,0)
def jJ (V:Int) (E:List (Int×Int)) (i:Nat):List (List Int):=(List.range i).map fun j=>[(eAt E j).1,(eAt E j).2,V+(j:Int)]
def u6 (V:Int) (E:List (Int×Int)) (v:Int) (k:Nat):List Int:=v::((List.range k).filter fun j=>decide ((eAt E j).1=v\/(eAt E j).2=v)).map fun j:Nat=>V+(j:Int)
def jW (V:Int) (E:List (Int×Int)) (k:Nat):List (List Int):=(List.range k).map fun v:Nat=>u6 V E (v:Int) E.length
theorem zjc (V:Int) (E:List (Int×Int)) (i:Nat):jJ V E (i+1)=jJ V E i++[[(eAt E i).1,(eAt E i).2,V+(i:Int)]]:=by simp [jJ,List.range_succ]
theorem zjd (V:Int) (E:List (Int×Int)) (k:Nat):jW V E (k+1)=jW V E k++[u6 V E (k:Int) E.length]:=by simp [jW,List.range_succ]
theorem zb6 (V:Int) (E:List (Int×Int)) (v:Int) (k:Nat):u6 V E v (k+1)=if (eAt E k).1=v\/(eAt E k).2=v then u6 V E v k++[V+(k:Int)] else u6 V E v k:=by
 rw [u6,List.range_succ,List.filter_append,Zbq];by_cases c:(eAt E k).1=v\/(eAt E k).2=v
 ·rw [if_pos c,Zbk,if_pos (decide_eq_true c)];rfl
 ·rw [if_neg c,Zbk,if_neg (by simpa using c)];simp [u6]
theorem zdk (V:Int) (E:List (Int×Int)) (v:Int) (k:Nat):(u6 V E v k).length<=k+1:=by
 rw [u6,Zav,Zaq];have:=List.length_filter_le (fun j=>decide ((eAt E j).1=v\/(eAt E j).2=v)) (List.range k);rw [List.length_range] at this;omega
theorem xT {E:List (Int×Int)} {j:Nat} (h:j<E.length):eAt E j=E[j]:=by
 rw [eAt,Zab,List.getElem?_eq_getElem h];rfl
theorem pS {V:Int} {E:List (Int×Int)} (h:yD V E=0):zak (jJ V E E.length)/\∀ l∈jJ V E E.length,rP (V.toNat+E.length) l/\l.length=3:=by
 obtain ⟨g1,g2,g3⟩:=vP h;have key:∀ l∈jJ V E E.length,rP (V.toNat+E.length) l/\l.length=3/\Sml l:=by
  intro l hl;obtain ⟨j,hj,rfl⟩:=List.mem_map.1 hl;have hj:=List.mem_range.1 hj;have hm:eAt E j∈E:=by rw [xT hj];exact Zao hj
  obtain ⟨⟨a1,a2,a3,a4⟩,a5⟩:=g3 _ hm;refine ⟨⟨by simp,?_,fun c hc => ?_⟩,rfl,fun x hx => ?_⟩
  ·simp only [Zaw,Zad,Zcb,or_false,forall_eq_or_imp,forall_eq,List.Pairwise.nil,and_true,false_implies,implies_true];omega
  ·simp only [Zad,Zcb,or_false] at hc;omega
  ·simp only [Zad,Zcb,or_false] at hx;omega
 refine ⟨⟨fun l hl => ?_,?_,by simp [jJ];omega⟩,fun l hl=>⟨(key l hl).1,(key l hl).2.1⟩⟩
 ·obtain ⟨k1,k2,k3⟩:=key l hl;exact ⟨k1.1,k1.2.1,k3,by omega⟩
 ·rw [jJ,List.Nodup,Zbj];refine List.pairwise_lt_range.imp fun {a b} hab e => ?_;simp only [List.cons.injEq,and_true] at e;omega
theorem pH {V:Int} {E:List (Int×Int)} (h:yD V E=0):zak (jW V E V.toNat)/\∀ l∈jW V E V.toNat,rP (V.toNat+E.length) l/\l.length<=33:=by
 obtain ⟨g1,g2,g3⟩:=vP h;have key:∀ l∈jW V E V.toNat,rP (V.toNat+E.length) l/\l.length<=33/\Sml l:=by
  intro l hl;obtain ⟨v,hv,rfl⟩:=List.mem_map.1 hl;have hv:=List.mem_range.1 hv;have hmem:∀ x∈u6 V E (v:Int) E.length,x=(v:Int)\/∃ j:Nat,j<E.length/\x=V+(j:Int):=by
   intro x hx;rcases List.mem_cons.1 hx with q | q
   ·exact .inl q
   ·obtain ⟨j,hj,rfl⟩:=List.mem_map.1 q;exact .inr ⟨j,List.mem_range.1 (List.mem_filter.1 hj).1,rfl⟩
  have hlen:=zdk V E (v:Int) E.length;refine ⟨⟨by simp [u6],?_,fun c hc => ?_⟩,by omega,fun x hx => ?_⟩
  ·rw [u6,Zaw];refine ⟨fun x hx => ?_,?_⟩
   ·obtain ⟨j,hj,rfl⟩:=List.mem_map.1 hx;omega
   ·rw [Zbj];refine List.Pairwise.filter _ ?_;exact List.pairwise_lt_range.imp fun h=>by omega
  ·rcases hmem c hc with q | ⟨j,hj,q⟩ <;> omega
  ·rcases hmem x hx with q | ⟨j,hj,q⟩ <;> omega
 refine ⟨⟨fun l hl => ?_,?_,by simp [jW];omega⟩,fun l hl=>⟨(key l hl).1,(key l hl).2.1⟩⟩
 ·obtain ⟨k1,k2,k3⟩:=key l hl;exact ⟨k1.1,k1.2.1,k3,by omega⟩
 ·rw [jW,List.Nodup,Zbj];refine List.pairwise_lt_range.imp ?_;intro a b hab e;simp only [u6,List.cons.injEq] at e;omega
theorem zky {K:AV->OP}:kK [(I 0),.zh] [] K=K (.agg [I 0,.zh]):=nr rfl
abbrev vU (V:Int) (E:List (Int×Int)):Int:=yX [yD V E,if decide (E.length=0)=true then 12 else 0]
abbrev sysV (V:Int) (E:List (Int×Int)) (ls:List (List Int)):AV:=.agg [I (V+(E.length:Int)),ji ls]
theorem zqe {x:AV} (h:x.cells=some [x]):gJ (ni 1 [AV.zh]) [(0,1,x)]=some [x]:=by simp only [gJ,h];rfl
theorem zg5 {h0 h:T Blk} {nx p:Pa} {o:Option Pa} {T:List TRow} {L:List Ob} {cells:Int} {K:Kw Prop} (hj:∀ B,JOk Tryz.prog B kD) (hl:zak (T.map (·.2.2))) (hT:∀ t∈T,sZ t)
  (H:Hp h0 h nx ((.gro o 1 T.length (T.map (·.1))::T.map (·.2.1))++L))
  (hK:∀ h',Hp h0 h' nx L->K (.agg [I cells,ji (T.map (·.2.2))]) h' nx=.ok True):(CS Tryz.prog B).fn 45 p [I cells,qp o 1 T.length] h nx K=.ok True:=by
 obtain ⟨h',hkeep,H1,HA⟩:=H.zwf;have hF:=zwg HA (k:=0) rfl fun t ht=>⟨hT t ht,Zam _ (List.mem_map_of_mem ht)⟩;refine zvx hkeep (.cons (.int _ _) (.cons hF .nil)) ?_;refine zi4 hj hl _ _ _ _ ?_;rintro _ rfl _;exact hK h' H1
theorem mQ {V:Int} {E:List (Int×Int)} (hj:∀ B,JOk Tryz.prog B kD) (hE:E.length<=1000000):Pure Tryz.prog B 11 [.agg [I V,ql E]] (· = if vU V E≠0 then .tup [.agg [I 0,.zh],I (vU V E)] else .tup [sysV V E (jJ V E E.length),I 0]):=by
 refine yF fun h nx K H0 hK=>zL zP yj 10000 fun hf => ?_;rw [F11.go];refine H0.box (l:=[I V,ql E]) rfl fun bx h1 nx1 H1 => ?_;refine H1.alloc fun r h2 nx2 H2 => ?_;rw [H2.zi (k:=1) (n:=2) rfl rfl];simp only [sFx];rw [H2.load (k:=1) (i:=0+1) rfl rfl];simp only [zE,dh];refine pB hE _ _ _ _ ?_;rintro _ rfl _;simp only [zA];rw [H2.load (k:=1) (i:=0+1) rfl rfl];simp only [zA];refine uJ _ _ _ _ _ _ ?_;rintro _ rfl _;refine H2.zu (l:=[I (yD V E),I (if decide ((E.length:Int)=0)=true then 12 else 0)]) rfl fun tb h3 nx3 H3 => ?_;refine gI (l:=[yD V E,if decide ((E.length:Int)=0)=true then 12 else 0]) H3 (k:=0) rfl (fun B=>wD (by simp)) (fun v hv=>by rw [hv];exact .int _ _) ?_;rintro _ rfl;have e:yX [yD V E,if decide ((E.length:Int)=0)=true then 12 else 0]=vU V E:=by
  have:decide ((E.length:Int)=0)=decide (E.length=0):=decide_eq_decide.2 (by omega);rw [this]
 rw [e];simp only [qg];have H3:=H3.drop;by_cases c:vU V E=0
 case neg =>
  rw [if_pos c] at hK;simp only [c,decide_false,Zag,zC];rw [zky];refine H3.qy (l2:=[I 0,.zh]) (k:=0) rfl rfl rfl fun h4 H4 => ?_;rw [H4.zi (k:=0) (n:=2) rfl rfl];exact hK _ _ _ _ _ H4 (jE (cU (by simp [fK])) (zH rfl)) rfl
 have hg:yD V E=0:=by
  by_cases q:yD V E=0
  ·exact q
  ·rw [vU,yX,if_pos q] at c;exact absurd c q
 obtain ⟨g1,g2,g3⟩:=vP hg;rw [if_neg (by simp [c])] at hK;rw [c];simp only [decide_true,Zae,zD];rw [H3.load (k:=1) (i:=0+1) rfl rfl];simp only [zE]
 refine F11.L2 (fun m x5 x11 h' nx'=>∃ (i:Nat) (T:List TRow) (o:Option Pa),x11=I i/\x5=qp o 1 T.length/\E.length-i=m/\i<=E.length/\T.map (·.2.2)=jJ V E i/\(∀ t∈T,sZ t) /\
  Hp h h' nx' (.gro o 1 T.length (T.map (·.1))::.arr r [I 0,.zh]::.arr bx [I V,ql E]::T.map (·.2.1))) (m:=E.length) (by omega) ⟨0,[],none,rfl,rfl,rfl,by omega,rfl,by simp,H3.tN 1⟩ ?_
 rintro m z5 z6 z7 z11 z12 h4 nx4 R ⟨i,T,o,rfl,rfl,rfl,hi,hTl,hT,H4⟩ hR;have hTn:T.length=i:=by have:=congrArg List.length hTl;simpa [jJ] using this
 simp only [jm];by_cases hlt:i<E.length
 case neg =>
  simp only [show ¬ (i:Int)<(E.length:Int) by omega,decide_false,zD];obtain rfl:i=E.length:=by omega
  rw [F11.k9,sFx,H4.load (k:=2) (i:=0) rfl rfl,sFx,H4.load (k:=2) (i:=0+1) rfl rfl];simp only [zE];rw [jd (by omega)];have H5:Hp h h4 nx4 ((.gro o 1 T.length (T.map (·.1))::T.map (·.2.1))++[.arr r [I 0,.zh],.arr bx [I V,ql E]]):=H4.perm ((List.perm_append_comm (l₁:=[_,_])).cons _);refine zg5 hj (by rw [hTl];exact (pS hg).1) hT H5 fun h5 H6 => ?_;rw [hTl];refine H6.qy (l2:=[I (V+(E.length:Int)),ji (jJ V E E.length)]) (k:=0) rfl rfl rfl fun h6 H7 => ?_;rw [H7.zi (k:=0) (n:=2) rfl rfl];exact hK _ _ _ _ _ H7 (jE (cU zf5) (zH rfl)) rfl
 simp only [show (i:Int)<(E.length:Int) by omega,decide_true,zC];obtain ⟨⟨a1,a2,a3,a4⟩,a5⟩:=g3 _ (Zao hlt);rw [dw rfl hlt,jR hlt,qD];refine H4.alloc fun b h5 nx5 H5 => ?_;refine H5.qy (k:=0) (n:=2) rfl rfl rfl fun h6 H6 => ?_;rw [aS,H6.load (k:=0) (i:=0) rfl rfl,sAx1,H6.load (k:=0) (i:=0+1) rfl rfl,sFx,H6.load (k:=3) (i:=0) rfl rfl,jd (by omega)];refine H6.zu (l:=[I E[i].1,I E[i].2,I (V+(i:Int))]) rfl fun p h7 nx7 H7 => ?_;refine H7.zu (l:=[.sl p 0 3 (some 3) 1]) rfl fun tb h8 nx8 H8 => ?_;refine H8.oN (k:=3) (o:=o) (c:=1) (new:=[.sl p 0 3 (some 3) 1]) rfl (yu.rd (l:=[.sl p 0 3 (some 3) 1]) (n:=1) (H8.own _ (Zai ..)) rfl) rfl rfl (by decide) (by decide) (by omega) fun o' h9 nx9 _ H9 => ?_;rw [jd (by omega)];refine hR _ _ _ _ _ _ _ _ (by omega) ⟨i+1,T++[(.sl p 0 3 (some 3) 1,.arr p [I E[i].1,I E[i].2,I (V+(i:Int))],[E[i].1,E[i].2,V+(i:Int)])],o',rfl,by rw [Zas];rfl,rfl,by omega,?_,?_,?_⟩
 ·rw [Zbq,hTl,zjc,xT hlt];rfl
 ·intro t ht;rcases List.mem_append.1 ht with q | q
  ·exact hT t q
  ·rw [List.mem_singleton.1 q];exact .inl ⟨p,some 3,Zah _,rfl,rfl⟩
 ·rw [Zas,Zbq,Zbq];have H10:Hp h h9 nx9 (.arr p [I E[i].1,I E[i].2,I (V+(i:Int))]::(.arr b [I E[i].1,I E[i].2]::.gro o' 1 (T.length+1) (T.map (·.1)++[.sl p 0 3 (some 3) 1])::.arr r [I 0,.zh]::.arr bx [I V,ql E]::T.map (·.2.1))):=H9.drop;exact (H10.perm (List.perm_append_singleton _ _).symm).drop
end Go.Ev
namespace Go.Ev
open Go.Proofs
theorem zdl {s:List Int} {v x:Int} {k:Nat} (h:v.toNat<s.length):(wL s v x).getD k 0=s.getD k 0+if v.toNat=k then x else 0:=by
 unfold wL;rw [Zab,List.getElem?_set,Zab,Zab];by_cases c:v.toNat=k
 ·subst c;rw [if_pos rfl,if_pos rfl,if_pos h];rfl
 ·rw [if_neg c,if_neg c];simp
def vS:List (Int×Int)->List Int->Nat->Int
 | e::E,x::ls,v=>(if e.1=(v:Int)\/e.2=(v:Int) then x else 0)+vS E ls v
 | _,_,_=>0
theorem zte {s:List Int} {e:Int×Int} {x:Int} {k:Nat} (h1:0<=e.1/\e.1<(s.length:Int)) (h2:0<=e.2/\e.2<(s.length:Int)) (hne:e.1<e.2):(vs1 s e x).getD k 0=s.getD k 0+if e.1=(k:Int)\/e.2=(k:Int) then x else 0:=by
 unfold vs1;rw [zdl (by rw [cA];omega),zdl (by omega)];by_cases c1:e.1=(k:Int)
 ·rw [if_pos (by omega),if_neg (by omega),if_pos (.inl c1)];omega
 ·by_cases c2:e.2=(k:Int)
  ·rw [if_neg (by omega),if_pos (by omega),if_pos (.inr c2)];omega
  ·rw [if_neg (by omega),if_neg (by omega),if_neg (by omega)];omega
theorem zkz {V:Nat} {k:Nat}:∀ (E:List (Int×Int)) (ls s:List Int),s.length=V->(∀ e∈E,(0<=e.1/\e.1<(V:Int)/\0<=e.2/\e.2<(V:Int))/\e.1<e.2)->(vsG s E ls).getD k 0=s.getD k 0+vS E ls k
 | [],ls,s,_,_=>by simp [vsG,vS]
 | e::E,[],s,_,_=>by simp [vsG,vS]
 | e::E,x::ls,s,hs,hE=>by
  obtain ⟨⟨a1,a2,a3,a4⟩,a5⟩:=hE e (by simp);show (vsG (vs1 s e x) E ls).getD k 0=_;rw [zkz E ls _ (by rw [zkw,hs]) (fun e he=>hE e (by simp [he])),zte (by omega) (by omega) a5,vS];omega
theorem zwp {V:Nat} {E:List (Int×Int)} {ls:List Int} (hE:∀ e∈E,(0<=e.1/\e.1<(V:Int)/\0<=e.2/\e.2<(V:Int))/\e.1<e.2):vsF V E ls=(List.range V).map fun v=>vS E ls v:=by
 apply Zba;intro i;by_cases h:i<V
 ·have e:=zkz (k:=i) E ls (List.replicate V 0) (by simp) hE;have hl:i<(vsF V E ls).length:=by rw [dD];exact h
  rw [Zab,show vsG (List.replicate V 0) E ls=vsF V E ls from rfl,List.getElem?_eq_getElem hl] at e;rw [List.getElem?_eq_getElem hl,List.getElem?_map,List.getElem?_range h];simp only [Option.getD_some,Zbx] at e ⊢;rw [e,Zab,List.getElem?_replicate,if_pos h];simp
 ·rw [List.getElem?_eq_none (by rw [dD];omega),List.getElem?_eq_none (by simp;omega)]
theorem zk0 {v:Nat}:∀ (E:List (Int×Int)) (ls:List Int) (k:Nat),k<E.length->k<ls.length->vS (E.take (k+1)) ls v=vS (E.take k) ls v+if (eAt E k).1=(v:Int)\/(eAt E k).2=(v:Int) then ls.getD k 0 else 0
 | [],_,k,h,_=>by simp at h
 | _::_,[],k,_,h=>by simp at h
 | e::E,x::ls,0,_,_=>by
  rw [show (e::E).take (0+1)=[e] by simp,show (e::E).take 0=[] by simp,xT (by simp:0<(e::E).length)];simp [vS]
 | e::E,x::ls,k+1,h,h2=>by
  have ih:=zk0 (v:=v) E ls k (by simpa using h) (by simpa using h2);have e1:eAt (e::E) (k+1)=eAt E k:=by rw [xT h,xT (by simpa using h)];rfl
  rw [e1,List.take_succ_cons,List.take_succ_cons,vS,vS,ih,List.getD_cons_succ];omega
theorem zg6 {V v:Nat} {E:List (Int×Int)} {f:List Int} (hf:f.length=V+E.length):∀ k,k<=E.length->jB (u6 V E v k) f=f.getD v 0+vS (E.take k) (f.drop V) v
 | 0,_=>by simp [u6,jB,vS]
 | k+1,h=>by
  have ih:=zg6 (v:=v) hf k (by omega);rw [zb6,zk0 E (f.drop V) k (by omega) (by rw [Zcg];omega)];have e:(f.drop V).getD k 0=f.getD (V+k) 0:=by
   rw [Zab,List.getElem?_drop,<- Zab]
  rw [e];by_cases c:(eAt E k).1=(v:Int)\/(eAt E k).2=(v:Int)
  ·rw [if_pos c,if_pos c,zdc,ih,show ((V:Int)+(k:Int)).toNat=V+k by omega];omega
  ·rw [if_neg c,if_neg c,ih];omega
theorem zmv {V v:Nat} {E:List (Int×Int)} {f:List Int} (hf:f.length=V+E.length) (hE:∀ e∈E,(0<=e.1/\e.1<(V:Int)/\0<=e.2/\e.2<(V:Int))/\e.1<e.2) (hv:v<V) :
  jB (u6 V E v E.length) f=f.getD v 0+(vsF V E (f.drop V)).getD v 0:=by
 rw [zg6 hf _ (Zah _),Zal (Zah _),zwp hE]
 congr 1
 rw [Zab,List.getElem?_map,List.getElem?_range hv];rfl
theorem zqf {n:Nat} (hn:n<=6) {lines:List (List Int)} {s:Int} (hl:∀ l∈lines,rP n l):(jD lines s n n []).length<=720:=by
 rw [vT hl];refine Zbf (List.length_filter_le _ _) ?_;rw [zdg (by simp) (by simp) (by simp)];exact (show ∀ m<7,zde m<=720 by decide) n (by omega)
end Go.Ev
namespace Go.Ev
open Go Go.Proofs
variable {B:Nat}
def zah (x:AV) (X:Ob) (l:List Int) (v:Int):Prop:=(l=[v]/\∃ p,x=.sl p 0 1 (some 1) 1/\X=.arr p [I v])\/∃ o,x=qp (some o) 1 l.length/\X=.gro (some o) 1 l.length (l.map I)
theorem zah.ok {x:AV} {X:Ob} {l:List Int} {v:Int} (h:zah x X l v):sZ (x,X,l):=by
 rcases h with ⟨rfl,p,rfl,rfl⟩ | ⟨o,rfl,rfl⟩
 ·exact .inl ⟨p,some 1,Zah _,rfl,rfl⟩
 ·exact .inr ⟨some o,rfl,rfl⟩
theorem zqg {h0 h:T Blk} {nx:Pa} {J L:List Ob} {x xv:AV} {X:Ob} {l:List Int} {v y:Int} {bytes:Nat} {K:AV->T Blk->Pa->OP} (hs:zah x X l v) (H:Hp h0 h nx (J++X::L)) (hx:∀ (no:OP) (K':List AV->Nat->OP),gZ xv h no K'=K' [I y] 1) (hb:bytes*1000000<=70368744177664) (hl:l.length+1<=1000000)
  (hK:∀ x' X' h' nx',zah x' X' (l++[y]) v->Hp h0 h' nx' (X'::L)->K x' h' nx'=.ok True):ny 1 bytes x xv h nx K=.ok True:=by
 have hk:(J++X::L)[J.length]? = some X:=by rw [List.getElem?_append_right (by omega),Nat.sub_self];rfl
 rcases hs with ⟨rfl,p,rfl,rfl⟩ | ⟨o,rfl,rfl⟩
 ·refine H.zsw hk rfl hx rfl rfl hb (by omega) fun o' h' nx' H' => ?_;refine hK _ _ _ _ (.inr ⟨o',rfl,rfl⟩) ?_;have H'':Hp h0 h' nx' (.gro (some o') 1 (1+1) ([I v]++[I y])::((J++[.arr p [I v]])++L)):=H'.cast (by simp);exact H''.zst
 ·refine H.oN hk hx rfl rfl (by decide) hb hl fun o' h' nx' ho H' => ?_;obtain ⟨q,rfl⟩:∃ q,o'=some q:=by
   cases o' with
   | none=>exact (ho (.inl (by simp)) rfl).elim
   | some q=>exact ⟨q,rfl⟩
  refine hK (qp (some q) 1 (l.length+1)) (.gro (some q) 1 (l.length+1) (l.map I++[I y])) _ _ (.inr ⟨q,by simp,by simp⟩) ?_;rw [Zcr _ _ (by omega),Nat.sub_self,Zcd] at H';exact Hp.zp1 H'
theorem F12.star {N:Nat} {K0:Kw Prop} {E0 E1 K:Ks Prop} {h0 h:T Blk} {nx:Pa} {L:List Ob} {x0 x2 x3 x4 x5 x8 x9 x10 x11 x12 x13 x17 x18:AV} {bx p:Pa} {V:Int} {E:List (Int×Int)} {v k:Nat} (hN:1000<N) (hV:0<=V/\V<=16) (hE:E.length<=32) (hk:L[k]? = some (.arr bx [I V,ql E]))
  (H:Hp h0 h nx (.arr p [I (v:Int)]::L))
  (hK:∀ x X w8 w9 w17 w18 h' nx',zah x X (u6 V E (v:Int) E.length) (v:Int)->Hp h0 h' nx' (X::L)->K (F12.fr x0 (.ptr bx 0) x2 x3 x4 x5 (I (v:Int)) x w8 w9 x10 x11 x12 x13 (ql E) (I E.length) (I E.length) w17 w18) h' nx'=.ok True) :
  IR.run F12.b8 (CS Tryz.prog B) N (((fnO F12.res K0).blk 0 E0).blk 1 E1) K (F12.fr x0 (.ptr bx 0) x2 x3 x4 x5 (I (v:Int)) (.sl p 0 1 (some 1) 1) x8 x9 x10 x11 x12 x13 (ql E) (I E.length) (I 0) x17 x18) h nx=.ok True:=by
 refine F12.L8 (fun m x7 x16 h' nx'=>∃ (j:Nat) (X:Ob),x16=I j/\E.length-j=m/\j<=E.length/\zah x7 X (u6 V E (v:Int) j) (v:Int)/\Hp h0 h' nx' (X::L)) (m:=E.length) (by omega) ⟨0,_,rfl,rfl,by omega,.inl ⟨by simp [u6],p,rfl,rfl⟩,H⟩ ?_;rintro m z7 z8 z9 z16 z17 z18 h1 nx1 R ⟨j,X,rfl,rfl,hj,hs,H1⟩ hR;simp only [jm];by_cases hlt:j<E.length
 case neg =>
  simp only [show ¬ (j:Int)<(E.length:Int) by omega,decide_false,zD];obtain rfl:j=E.length:=by omega
  exact hK _ _ _ _ _ _ _ _ hs H1
 simp only [show (j:Int)<(E.length:Int) by omega,decide_true,zC];have hss:=zb6 V E (v:Int) j;have hsl:=zdk V E (v:Int) j;rw [xT hlt] at hss;rw [dw rfl hlt,jR hlt,qD];refine H1.alloc fun b h2 nx2 H2 => ?_;refine H2.qy (k:=0) (n:=2) rfl rfl rfl fun h3 H3 => ?_;rw [aS,H3.load (k:=0) (i:=0) rfl rfl];simp only [dh]
 have app:(E[j].1=(v:Int)\/E[j].2=(v:Int))->∀ w17 w18,(zJ 0 (.ptr bx 0) fun v18 =>
   zB v18 h3 fun v19 =>
   zf .add .int v19 (I (j:Int)) fun v20 =>
   yE 1 1 [(I 0)] [(0,1,v20)] h3 nx2 fun v21 h22 n23 =>
   ny 1 8 z7 v21 h22 n23 fun v24 h25 n26 =>
   zf .add .int (I (j:Int)) (I 1) fun v27 =>
   R (F12.fr x0 (.ptr bx 0) x2 x3 x4 x5 (I (v:Int)) v24 (I (j:Int)) (.ptr b 0) x10 x11 x12 x13 (ql E) (I E.length) v27 w17 w18) h25 n26)=.ok True:=by
  intro hc w17 w18;rw [if_pos hc] at hss;rw [sFx,H3.load (k:=k+2) (i:=0) hk rfl,jd (by omega)];refine H3.zu (l:=[I (V+(j:Int))]) rfl fun tb h4 nx4 H4 => ?_;refine zqg (J:=[_,_]) hs H4 (yu.rd (l:=[I (V+(j:Int))]) (n:=1) (H4.own _ (Zai ..)) rfl) (by decide) (by omega) fun x' X' h5 nx5 hs' H5 => ?_;rw [jd (by omega)];exact hR _ _ _ _ _ _ _ _ _ (by omega) ⟨j+1,X',rfl,rfl,by omega,by rw [hss];exact hs',H5⟩
 by_cases c1:E[j].1=(v:Int)
 ·simp only [c1,decide_true,yW,zT,zC];exact app (.inl c1) _ _
 simp only [c1,decide_false,yH];rw [sAx1,H3.load (k:=0) (i:=0+1) rfl rfl];simp only [dh,zR];by_cases c2:E[j].2=(v:Int)
 ·simp only [c2,decide_true,zC];exact app (.inr c2) _ _
 simp only [c2,decide_false,zD];rw [if_neg (by simp [c1,c2])] at hss;rw [jd (by omega)];exact hR _ _ _ _ _ _ _ _ _ (by omega) ⟨j+1,X,rfl,rfl,by omega,by rw [hss];exact hs,H3.drop⟩
theorem vE {V:Int} {E:List (Int×Int)} (hj:∀ B,JOk Tryz.prog B kD) (hE:E.length<=1000000):Pure Tryz.prog B 12 [.agg [I V,ql E]] (· = if yD V E≠0 then .tup [.agg [I 0,.zh],I (yD V E)] else .tup [sysV V E (jW V E V.toNat),I 0]):=by
 refine yF fun h nx K H0 hK=>zL zP yj 10000 fun hf => ?_;rw [F12.go];refine H0.box (l:=[I V,ql E]) rfl fun bx h1 nx1 H1 => ?_;refine H1.alloc fun r h2 nx2 H2 => ?_;rw [H2.zi (k:=1) (n:=2) rfl rfl];refine pB hE _ _ _ _ ?_;rintro _ rfl _;simp only [qg];by_cases c:yD V E=0
 case neg =>
  rw [if_pos c] at hK;simp only [c,decide_false,Zag,zC];rw [zky];refine H2.qy (l2:=[I 0,.zh]) (k:=0) rfl rfl rfl fun h4 H4 => ?_;rw [H4.zi (k:=0) (n:=2) rfl rfl];exact hK _ _ _ _ _ H4 (jE (cU (by simp [fK])) (zH rfl)) rfl
 obtain ⟨g1,g2,g3⟩:=vP c;rw [if_neg (by simp [c])] at hK;rw [c];simp only [decide_true,Zae,zD,sFx];rw [H2.load (k:=1) (i:=0) rfl rfl]
 refine F12.L2 (fun m x5 x12 h' nx'=>∃ (i:Nat) (T:List TRow) (o:Option Pa),x12=I i/\x5=qp o 1 T.length/\V.toNat-i=m/\i<=V.toNat/\T.map (·.2.2)=jW V E i/\(∀ t∈T,sZ t) /\
  Hp h h' nx' (.gro o 1 T.length (T.map (·.1))::.arr r [I 0,.zh]::.arr bx [I V,ql E]::T.map (·.2.1))) (m:=V.toNat) (by omega) ⟨0,[],none,rfl,rfl,rfl,by omega,rfl,by simp,H2.tN 1⟩ ?_
 rintro m z5 z6 z7 z8 z9 z12 z13 z14 z15 z16 z17 z18 h4 nx4 R ⟨i,T,o,rfl,rfl,rfl,hi,hTl,hT,H4⟩ hR;have hTn:T.length=i:=by have:=congrArg List.length hTl;simpa [jW] using this
 simp only [jm];by_cases hlt:i<V.toNat
 case neg =>
  simp only [show ¬ (i:Int)<V by omega,decide_false,zD];obtain rfl:i=V.toNat:=by omega
  rw [F12.k17,sFx,H4.load (k:=2) (i:=0) rfl rfl,sFx,H4.load (k:=2) (i:=0+1) rfl rfl];simp only [zE];rw [jd (by omega)];have H5:Hp h h4 nx4 ((.gro o 1 T.length (T.map (·.1))::T.map (·.2.1))++[.arr r [I 0,.zh],.arr bx [I V,ql E]]):=H4.perm ((List.perm_append_comm (l₁:=[_,_])).cons _);refine zg5 hj (by rw [hTl];exact (pH c).1) hT H5 fun h5 H6 => ?_;rw [hTl];refine H6.qy (l2:=[I (V+(E.length:Int)),ji (jW V E V.toNat)]) (k:=0) rfl rfl rfl fun h6 H7 => ?_;rw [H7.zi (k:=0) (n:=2) rfl rfl];exact hK _ _ _ _ _ H7 (jE (cU zf5) (zH rfl)) rfl
 simp only [show (i:Int)<V by omega,decide_true,zC];refine H4.zu (l:=[I (i:Int)]) rfl fun p h5 nx5 H5 => ?_;simp only [sFx];rw [H5.load (k:=3) (i:=0+1) rfl rfl];simp only [zE];refine F12.star (k:=2) (by omega) (by omega) (by omega) rfl H5 fun x X w8 w9 w17 w18 h6 nx6 hs H6 => ?_;have hro:=hs.ok;rw [F12.k15];refine H6.zu (l:=[x]) (zqe hro.cells) fun tb h7 nx7 H7 => ?_;refine H7.oN (k:=2) (o:=o) (c:=1) (new:=[x]) rfl (yu.rd (l:=[x]) (n:=1) (H7.own _ (Zai ..)) rfl) rfl (by simp [show jf x=true from hro.jf]) (by decide) (by decide) (by omega) fun o' h8 nx8 _ H8 => ?_;rw [F12.k16,jd (by omega)];refine hR _ _ _ _ _ _ _ _ _ _ _ _ _ _ _ (by omega) ⟨i+1,T++[(x,X,u6 V E (i:Int) E.length)],o',rfl,by rw [Zas];rfl,rfl,by omega,?_,?_,?_⟩
 ·rw [Zbq,hTl,zjd];rfl
 ·intro t ht;rcases List.mem_append.1 ht with q | q
  ·exact hT t q
  ·rw [List.mem_singleton.1 q];exact hro
 ·rw [Zas,Zbq,Zbq];have H10:Hp h h8 nx8 (X::(.gro o' 1 (T.length+1) (T.map (·.1)++[x])::.arr r [I 0,.zh]::.arr bx [I V,ql E]::T.map (·.2.1))):=H8.drop;exact H10.perm (List.perm_append_singleton _ _).symm
abbrev zqh (lll:List (List (List Int))):AV:=.lst 1 lll.length (lll.map ji)
def enP (lines:List (List Int)) (i c:Nat):List (List Int):=(lines.take i).filter fun l=>decide (l.getLastD 0=(c:Int))
def oV (n:Nat) (lines:List (List Int)):List (List (List Int)):=(List.range n).map fun (c:Nat)=>lines.filter fun l=>decide (l.getLastD 0=(c:Int))
noncomputable abbrev Le (on bx:Pa) (cells:Nat) (lines:List (List Int)) (o:Nat->Option Pa) (D:Nat->List (List Int)):List Ob :=
 .arr on (sQ cells fun c=>qp (o c) 1 (D c).length)::.arr bx [I cells,ji lines]::sQ cells (fun c=>Ob.gro (o c) 1 (D c).length ((D c).map encI))
theorem zqi {on bx:Pa} {cells c:Nat} {lines:List (List Int)} {o:Nat->Option Pa} {D:Nat->List (List Int)} (hc:c<cells):(Le on bx cells lines o D)[c+2]? = some (.gro (o c) 1 (D c).length ((D c).map encI)):=by
 show (sQ cells _)[c]? = _;rw [qY hc]
theorem zg7 {l:List Int} (h:0<l.length):l[l.length-1]? = some (l.getLastD 0):=by
 rw [List.getLastD_eq_getLast?,List.getLast?_eq_getElem?,List.getElem?_eq_getElem (by omega)];rfl
theorem zmw:∀ {l:List Int},l≠[]->l.getLastD 0∈l
 | [],h=>absurd rfl h
 | a::l,_=>by rw [List.getLastD_cons];cases l <;> simp [List.getLastD]
theorem zqj {cells:Nat} {lines:List (List Int)} (hcl:cells<=1000) (hn:lines.length<=1000) (hl:∀ l∈lines,rP cells l/\l.length<=1000):Pure Tryz.prog B 107 [.agg [I cells,ji lines]] (· = zqh (oV cells lines)):=by
 refine yF fun h nx K H0 hK=>zL zP yj 10000000 fun hf => ?_;rw [ku.go];refine H0.box (l:=[I cells,ji lines]) rfl fun bx h1 nx1 H1 => ?_;rw [sFx,H1.load (k:=0) (i:=0) rfl rfl];refine H1.mk1 cells rfl rfl (by omega) (by decide) fun on h2 nx2 H2 => ?_;rw [sFx,H2.load (k:=1) (i:=0+1) rfl rfl];simp only [zE];refine ku.L1 (fun m z8 h' nx'=>∃ (i:Nat) (o:Nat->Option Pa),z8=I i/\lines.length-i=m/\i<=lines.length/\Hp h h' nx' (Le on bx cells lines o (enP lines i))) (m:=lines.length) (by omega) ⟨0,fun _=>none,rfl,rfl,by omega,?_⟩ ?_
 ·have H3:=(H2.addE (E:=sQ cells fun _=>Ob.gro none 1 0 []) fun x hx=>by
   obtain ⟨j,_,rfl⟩:=zoh hx;exact ⟨rfl,fun _=>⟨rfl,rfl⟩⟩).perm List.perm_append_comm
  refine H3.cast ?_;rw [zik];rfl
 rintro m z4 z5 z8 z9 h3 nx3 R ⟨i,o,rfl,rfl,hi,H3⟩ hR;simp (disch:=omega) only [jd,fH,fJ,dh,qg,jm,fO,vk,vw,zT,zR,zC,zD,y9,yH,yW,jA,yK,yL,yN,jH,y8,y7,y3,zE,yM,zY,zA,decide_true,decide_false,Zae,Zag,yV];by_cases hlt:i<lines.length
 case neg =>
  simp only [show ¬ (i:Int)<(lines.length:Int) by omega,decide_false,zD];obtain rfl:i=lines.length:=by omega
  rw [ku.k8];have hD:∀ c,enP lines lines.length c=lines.filter fun l=>decide (l.getLastD 0=(c:Int)):=fun c=>by rw [enP,List.take_length]
  refine hK _ _ _ _ (zqh (oV cells lines)) H3 ?_ rfl;have harr:=H3.own (.arr on (sQ cells fun c=>qp (o c) 1 (enP lines lines.length c).length)) (by simp)
  have:=yu.frzE (N:=fun id=>T.get Blk.no id h=.no) (O:=fun v=>(∃ id off,v=.ptr id off/\T.get Blk.no id h≠.no)\/(∃ id,v=.yld id/\T.get Blk.no id h≠.no)\/(∃ id,v=.map id/\T.get Blk.no id h≠.no)\/(∃ id off ln cap esz,v=.sl id off ln cap esz/\T.get Blk.no id h≠.no)) (cap:=some cells) (e:=1) (n:=cells) (l':=(oV cells lines).map ji) harr (H3.off on (by simp [Ob.names])) (Zah _) (by simp [sQ]) (by simp [sQ,oV]) (by simp [Zak,jf]) (fun c v v' h1 h2=>by
   have hc:c<cells:=by
    have:=(List.getElem?_eq_some_iff.1 h1).1;simpa [sQ] using this
   rw [qY hc] at h1;rw [oV,Zcl,List.getElem?_map,List.getElem?_range hc] at h2;have h1:=Option.some.inj h1;have h2:=Option.some.inj h2;subst h1 h2;have:=H3.oO (k:=c+2) (zqi hc) (by intro v hv;obtain ⟨x,_,rfl⟩:=List.mem_map.1 hv;exact u7 x);rw [hD c] at this ⊢;exact this)
  have hlen:(oV cells lines).length=cells:=by simp [oV]
  show Frz True _ _ _ _ (.lst 1 (oV cells lines).length ((oV cells lines).map ji));rw [hlen];exact this
 simp only [show (i:Int)<(lines.length:Int) by omega,decide_true,zC];obtain ⟨l,hx⟩:∃ l,lines[i]? = some l:=⟨_,List.getElem?_eq_getElem hlt⟩;obtain ⟨ha,hlw⟩:=hl l (Zaa hx);have hpos:0<l.length:=List.length_pos_iff.2 ha.1;obtain ⟨q1,q2⟩:=ha.2.2 _ (zmw ha.1);obtain ⟨c,hce⟩:∃ c:Nat,l.getLastD 0=c:=⟨(l.getLastD 0).toNat,by omega⟩;have hc:c<cells:=by omega
 rw [dw rfl hlt,ldL (getT hx)];simp (disch:=omega) only [jd,fH,fJ,dh,qg,jm,fO,vk,vw,zT,zR,zC,zD,y9,yH,yW,jA,yK,yL,yN,jH,y8,y7,y3,zE,yM,zY,zA,decide_true,decide_false,Zae,Zag,yV];rw [dw (i:=l.length-1) (by omega) (by omega),ldL (sH (zg7 hpos)),hce,sIx (i:=c) rfl hc,H3.load (k:=0) rfl (qY hc)];refine H3.zu (l:=[encI l]) rfl fun t h4 nx4 H4 => ?_;refine H4.oN (k:=c+3) (o:=o c) (c:=1) (new:=[encI l]) (by exact zqi (on:=on) (bx:=bx) (lines:=lines) hc) (yu.rd (l:=[encI l]) (n:=1) (H4.own _ (Zai ..)) rfl) rfl rfl (by decide) (by decide) ?_ fun o' h5 nx5 _ H5 => ?_
 ·have:(enP lines i c).length<=1000:=by
   refine Zbf (List.length_filter_le _ _) ?_;rw [Zbb];omega
  omega
 rw [sIx (i:=c) rfl hc];refine H5.store (k:=1) rfl (by simpa using hc) (gN _ _ _) fun h6 H6 => ?_
 try rw [jd (by omega)]
 refine hR (lines.length-(i+1)) _ _ _ _ _ _ (by omega) ⟨i+1,fun p=>if p=c then o' else o p,rfl,rfl,by omega,H6.drop.cast ?_⟩;have hD:∀ p:Nat,enP lines (i+1) p=if p=c then enP lines i c++[l] else enP lines i p:=fun p=>by
  rw [enP,Zan,hx,List.filter_append];show enP lines i p++List.filter _ [l]=_;rw [Zbk,hce];by_cases e:p=c
  ·subst e;simp
  ·have:¬ (c:Int)=(p:Int):=by omega
   simp [this,e]
 rw [show enP lines (i+1)=_ from funext hD];simp only [Le,List.set_cons_succ,Zcd,List.tail_cons];rw [zfp,zfp]
 congr 1
 ·congr 1
  refine zbl fun p _ => ?_;by_cases e:p=c
  ·subst e;simp
  ·simp [e]
 ·congr 1
  refine zbl fun p _ => ?_;by_cases e:p=c
  ·subst e;simp
  ·simp [e]
theorem tq {h:T Blk} (a:AV) (l:List AV) (K:AV->OP):zB (.fp (a::l)) h K=K a:=nr rfl
theorem dG {k:Nat} {l:List AV} {K:AV->OP}:zJ k (.fp l) K=K (.fp (l.drop k)):=nr rfl
theorem qW {a b:AV} {l:List AV} {h:T Blk} {K:AV->OP}:zK 2 (.fp (a::b::l)) h K=K (.agg [a,b]):=nr rfl
theorem zzg {a b:Nat} {K:AV->OP}:zf .eql .int (.int .u64 (a:Int)) (.int .u64 (b:Int)) K=K (.bool (decide ((a:Int)=(b:Int)))):=by
 have e:zf .eql .int (.int .u64 (a:Int)) (.int .u64 (b:Int)) K=K (.bool (ieq (a:Int) (b:Int))):=rfl;rw [e,q9]
 congr 2
theorem zk1 (z:Int):IntKind.wrap .i64 z=if z%18446744073709551616≥9223372036854775808 then z%18446744073709551616-18446744073709551616 else z%18446744073709551616:=by
 unfold IntKind.wrap;simp [IntKind.bits,IntKind.signed]
theorem zg8 (a b:Int):IntKind.wrap .i64 (IntKind.wrap .i64 a-b)=IntKind.wrap .i64 (a-b):=by
 rw [zk1,zk1 (a-b),zk1 a];split <;> split <;> split <;> omega
theorem wrap_zero {a:Int} (h : -18446744073709551616<a/\a<18446744073709551616):IntKind.wrap .i64 a=0↔a=0:=by
 rw [zk1];split <;> omega
theorem zje {P:Program} {id:Pa} {args:List AV} {h:T Blk} {nx:Pa} {K:Kw Prop}:vB (CS P B) (.yld id) args h nx K=(CS P B).yld id args h nx K:=nr rfl
section
variable {σ:Type} {h0:T Blk} {n:Nat} {lines:List (List Int)} {s:Int} {f bu bf be bp bg:Pa} {id:Pa} {LC:Bool->σ->List Ob->Prop} {stp:σ->List Int->σ×Bool}
noncomputable abbrev cloN (n:Nat) (lines:List (List Int)) (s:Int) (bu bf be bp bg:Pa):AV:=.fn 108 (.of 108) [.fp [I n,ji lines],.ptr bg 0,.ptr bf 0,.ptr bu 0,.ptr be 0,.fp [I s],.ptr bp 0]
noncomputable abbrev Gn (n:Nat) (lines:List (List Int)) (s:Int) (f bu bf be bp bg id:Pa) (fl:List Int) (m:Nat):List Ob :=
 [.arr f (fl.map I),.arr bu [Wd m],.arr bf [.sl f 0 n (some n) 1],.arr be [zqh (oV n lines)],.arr bp [cloN n lines s bu bf be bp bg],.arr bg [.yld id]]
def YC (B:Nat) (h0:T Blk) (n:Nat) (lines:List (List Int)) (s:Int) (f bu bf be bp bg id:Pa) (LC:Bool->σ->List Ob->Prop) (stp:σ->List Int->σ×Bool):Prop :=
 ∀ (st:σ) (fl:List Int) (m:Nat) (h:T Blk) (nx:Pa) (K:Kw Prop) (L:List Ob),fl.length=n->(∀ x∈fl,1<=x/\x<=(n:Int))->LC true st L->Hp h0 h nx (Gn n lines s f bu bf be bp bg id fl m++L)->(∀ h' nx' L',LC (stp st fl).2 (stp st fl).1 L'->Hp h0 h' nx' (Gn n lines s f bu bf be bp bg id fl m++L')->K (.bool (stp st fl).2) h' nx'=.ok True) ->
  (CS Tryz.prog B).yld id [.sl f 0 n (some n) 1] h nx K=.ok True
theorem zb7 {α:Type} {F G:α->Bool}:∀ {l:List α},(∀ x∈l,F x=G x)->l.all F=l.all G
 | [],_=>rfl
 | a::l,h=>by rw [Zct,Zct,h a (by simp),zb7 fun x hx=>h x (by simp [hx])]
theorem zg9 (hn9:n<=9) (hm:lines.length<=1000) (hl:∀ l∈lines,rP n l/\l.length<=1000) (hs : -9223372036854775808<=s/\s<=9223372036854775807) (hY:YC B h0 n lines s f bu bf be bp bg id LC stp) :
  ∀ (r:Nat) (pre fl:List Int) (st:σ) (p:Pa) (h:T Blk) (nx:Pa) (K:Kw Prop) (L:List Ob),pre.length+r=n->fl.length=n->fl.take pre.length=pre->(∀ v∈fl,0<=v/\v<=9)->(∀ x∈pre,1<=x/\x<=(n:Int))->LC true st L->Hp h0 h nx (Gn n lines s f bu bf be bp bg id fl (gV pre)++L) ->
   (∀ fl' h' nx' L',fl'.length=n->fl'.take pre.length=pre->(∀ v∈fl',0<=v/\v<=9)->LC (gM stp st (jD lines s n r pre)).2 (gM stp st (jD lines s n r pre)).1 L'->Hp h0 h' nx' (Gn n lines s f bu bf be bp bg id fl' (gV pre)++L')->K (.bool (gM stp st (jD lines s n r pre)).2) h' nx'=.ok True) ->
   (CS Tryz.prog B).fn 108 p [I pre.length,.fp [I n,ji lines],.ptr bg 0,.ptr bf 0,.ptr bu 0,.ptr be 0,.fp [I s],.ptr bp 0] h nx K=.ok True
 | 0,pre,fl,st,p,h,nx,K,L,hr,hfl,htk,hf9,hpre,hL,H,hK=>by
  refine yQ (p:=.of 108) (K:=K) (zL zP yj 1000 fun hf => ?_) fun _ _ _ _ q=>q;rw [zn.go,dG];show (zB (.fp (I n::_)) h fun v2=>_)=_;rw [tq];simp only [dh,show (pre.length:Int)=(n:Int) by omega,decide_true,zC];rw [H.load (k:=5) (i:=0) rfl rfl,H.load (k:=2) (i:=0) rfl rfl,zje];have e:fl=pre:=by rw [<- htk,Zal (by omega)]
  refine hY st fl (gV pre) h nx _ L hfl (by rw [e];exact hpre) hL H fun h' nx' L' hL' H' => ?_;have e2:gM stp st (jD lines s n 0 pre)=stp st fl:=by
   rw [jD,gM,<- e];cases c:(stp st fl).2 with
   | true=>rw [if_pos rfl,gM];rw [<- c]
   | false=>rw [if_neg (by simp)];rw [<- c]
  rw [e2] at hK;exact hK fl h' nx' L' hfl htk hf9 hL' H'
 | r+1,pre,fl,st,p,h,nx,K,L,hr,hfl,htk,hf9,hpre,hL,H,hK=>by
  refine yQ (p:=.of 108) (K:=K) (zL zP yj 1000000 fun hf => ?_) fun _ _ _ _ q=>q;rw [zn.go,dG];show (zB (.fp (I n::_)) h fun v2=>_)=_;rw [tq];simp only [dh,show ¬ (pre.length:Int)=(n:Int) by omega,decide_false,zD]
  let g:Int->List (List Int):=fun x=>if x∈pre then [] else if okAt lines s pre.length (pre++[x]) then jD lines s n r (pre++[x]) else []
  have hg:jD lines s n (r+1) pre=(upTo n).flatMap g:=rfl;have hpre0:∀ y∈pre,0<=y:=fun y hy=>by have:=hpre y hy;omega
  have zqk:∀ y∈pre,0<=y/\y<=60:=fun y hy=>by have:=hpre y hy;omega
  refine zn.L2 (fun m z9 h' nx'=>∃ (x:Nat) (st':σ) (fl:List Int) (L:List Ob),z9=I x/\n+1-x=m/\1<=x/\x<=n+1/\gM stp st (jD lines s n (r+1) pre)=gM stp st' (((upTo n).drop (x-1)).flatMap g)/\fl.length=n/\fl.take pre.length=pre/\(∀ v∈fl,0<=v/\v<=9)/\LC true st' L/\Hp h0 h' nx' (Gn n lines s f bu bf be bp bg id fl (gV pre)++L)) (m:=n) (by omega)
   ⟨1,st,fl,L,rfl,by omega,by omega,by omega,by rw [hg];rfl,hfl,htk,hf9,hL,H⟩ ?_
  clear hfl htk hf9 hL H
  rintro m z8 z9 z10 z11 z12 z13 z15 z16 z17 z18 z19 z20 z21 z22 z23 z24 z25 z26 h1 nx1 R ⟨x,st',fl,L,rfl,rfl,hx1,hx2,hfo,hfl,htk,hf9,hL,H⟩ hR;rw [dG];show (zB (.fp (I n::_)) h1 fun v2=>_)=_;rw [tq];simp only [fO];by_cases hxn:x<=n
  case neg =>
   simp only [show ¬ (x:Int)<=(n:Int) by omega,decide_false,zD];rw [zn.k26];have e:(upTo n).drop (x-1)=[]:=Zbn (by simp;omega);rw [e] at hfo;rw [hfo] at hK;exact hK fl _ _ _ hfl htk hf9 hL H
  simp only [show (x:Int)<=(n:Int) by omega,decide_true,zC];have hdrop:=zmp hx1 hxn;rw [hdrop,Zbc] at hfo
  have next:∀ z8 z10 z11 z12 z13 z15 z16 z17 z18 z19 z20 z21 z22 z23 z24 z25 z26 st2 fl2 h2 nx2 L2,gM stp st (jD lines s n (r+1) pre)=gM stp st2 (((upTo n).drop x).flatMap g)->fl2.length=n->fl2.take pre.length=pre->(∀ v∈fl2,0<=v/\v<=9)->LC true st2 L2->Hp h0 h2 nx2 (Gn n lines s f bu bf be bp bg id fl2 (gV pre)++L2) ->
    R (zn.fr (I pre.length) (.fp [I n,ji lines]) (.ptr bg 0) (.ptr bf 0) (.ptr bu 0) (.ptr be 0) (.fp [I s]) (.ptr bp 0) z8 (I ((x:Int)+1)) z10 z11 z12 z13 (.bool false) z15 z16 z17 z18 z19 z20 z21 z22 z23 z24 z25 z26) h2 nx2=.ok True :=
   fun z8 z10 z11 z12 z13 z15 z16 z17 z18 z19 z20 z21 z22 z23 z24 z25 z26 st2 fl2 h2 nx2 L2 q1 q2 q3 q4 q6 q5 =>
    hR (n+1-(x+1)) _ _ _ _ _ _ _ _ _ _ _ _ _ _ _ _ _ _ _ _ (by omega) ⟨x+1,st2,fl2,L2,rfl,rfl,by omega,by omega,by rw [Nat.add_sub_cancel];exact q1,q2,q3,q4,q6,q5⟩
  rw [H.load (k:=1) (i:=0) rfl rfl,sShr (by omega)];have hml:=zka zqk;have hdl:gV pre / 2 ^ x<=gV pre:=Nat.div_le_self _ _;show (zf .and .int (Wd (gV pre / 2 ^ x)) (Wd 1) fun v6=>zf .eql .int v6 (Wd 1) fun v7=>_)=_;rw [zr0 (by omega),zzg,show (((1:Nat):Int))=1 from rfl,zlo hpre0];by_cases hmem:(x:Int)∈pre
  ·simp only [hmem,decide_true,zC];rw [jd (by omega)];have e:g (x:Int)=[]:=by show (if (x:Int)∈pre then [] else _)=_;rw [if_pos hmem]
   rw [e,Zbu] at hfo;exact next _ _ _ _ _ _ _ _ _ _ _ _ _ _ _ _ _ _ _ _ _ _ hfo hfl htk hf9 hL H
  simp only [hmem,decide_false,zD];rw [H.load (k:=2) (i:=0) rfl rfl,sIx (i:=pre.length) rfl (by omega)];refine H.store (k:=0) rfl (by simp;omega) rfl fun h2 H2 => ?_;have H2:Hp h0 h2 nx1 (Gn n lines s f bu bf be bp bg id (fl.set pre.length x) (gV pre)++L):=H2.cast (by show _=Ob.arr f ((fl.set pre.length (x:Int)).map I)::_;rw [List.map_set];rfl);have hfl2:(fl.set pre.length (x:Int)).length=n:=by simpa using hfl
  have htk1:(fl.set pre.length (x:Int)).take (pre.length+1)=pre++[(x:Int)]:=by
   rw [Zan,List.take_set_of_le (Zah _),htk,List.getElem?_set,if_pos rfl,if_pos (by omega)];rfl
  have htk2:(fl.set pre.length (x:Int)).take pre.length=pre:=by rw [List.take_set_of_le (Zah _),htk]
  have hf92:∀ v∈fl.set pre.length (x:Int),0<=v/\v<=9:=fun v hv=>by
   rcases List.mem_or_eq_of_mem_set hv with q | rfl
   ·exact hf9 v q
   ·omega
  clear H hf9 htk hfl
  generalize fl.set pre.length (x:Int)=fl at *
  have hcell:pre.length<n:=by omega
  have zzh:(oV n lines)[pre.length]? = some (lines.filter fun l=>decide (l.getLastD 0=((pre.length:Nat):Int))):=by
   rw [oV,List.getElem?_map,List.getElem?_range hcell];rfl
  have hel:(oV n lines).length=n:=by simp [oV]
  have zzi:((oV n lines).map ji)[pre.length]? = some (ji (lines.filter fun l=>decide (l.getLastD 0=((pre.length:Nat):Int)))):=by rw [List.getElem?_map,zzh];rfl
  rw [H2.load (k:=3) (i:=0) rfl rfl,dw (i:=pre.length) rfl (by omega),ldL zzi];have hok:okAt lines s pre.length (pre++[(x:Int)])=(lines.filter fun l=>decide (l.getLastD 0=((pre.length:Nat):Int))).all fun l=>decide (jB l fl=s):=by
   unfold okAt;refine zb7 fun l hm' => ?_;have hml:=List.mem_filter.1 hm';have hlast:l.getLastD 0=((pre.length:Nat):Int):=of_decide_eq_true hml.2;rw [<- htk1,bJ (fun c hc => ?_)];have:=mH (hl l hml.1).1.2.1 c hc;have:=((hl l hml.1).1.2.2 c hc).1;omega
  have hle:∀ l∈(lines.filter fun l=>decide (l.getLastD 0=((pre.length:Nat):Int))),rP n l/\l.length<=1000:=fun l hm'=>hl l (List.mem_filter.1 hm').1;have hll:(lines.filter fun l=>decide (l.getLastD 0=((pre.length:Nat):Int))).length<=1000:=Zbf (List.length_filter_le _ _) hm
  generalize (lines.filter fun l=>decide (l.getLastD 0=((pre.length:Nat):Int)))=es at *
  simp only [zE];refine zn.L9 (fun m z19 h' nx'=>∃ j:Nat,z19=I j/\es.length-j=m/\j<=es.length/\((es.take j).all fun l=>decide (jB l fl=s))=true/\h'=h2/\nx'=nx1) (m:=es.length) (by omega) ⟨0,rfl,rfl,by omega,rfl,rfl,rfl⟩ ?_;rintro m y10 y11 y12 y19 y20 y21 y22 y23 y24 y25 h2 nx1 R2 ⟨j,rfl,rfl,hj,hall,rfl,rfl⟩ hR2;simp only [jm];by_cases hjt:j<es.length
  ·simp only [show (j:Int)<(es.length:Int) by omega,decide_true,zC];obtain ⟨l,hxl⟩:∃ l,es[j]? = some l:=⟨_,List.getElem?_eq_getElem hjt⟩;obtain ⟨hasc,hlw⟩:=hle l (Zaa hxl);rw [dw rfl hjt,ldL (getT hxl)];show (zB (.fp (I s::_)) h2 fun v4=>_)=_;rw [tq];simp only [zE];refine zn.L15 (fun m z11 z23 h' nx'=>∃ k:Nat,z23=I k/\z11=I (IntKind.wrap .i64 (s-jB (l.take k) fl))/\l.length-k=m/\k<=l.length/\h'=h2/\nx'=nx1) (m:=l.length) (by omega) ⟨0,rfl,by rw [show jB (l.take 0) fl=0 from rfl,Int.sub_zero,kJ hs],rfl,by omega,rfl,rfl⟩ ?_;rintro m w11 w12 w23 w24 h2 nx1 R3 ⟨k,rfl,rfl,rfl,hk,rfl,rfl⟩ hR3;simp only [jm];by_cases hkt:k<l.length
   ·simp only [show (k:Int)<(l.length:Int) by omega,decide_true,zC];have hxk:l[k]? = some l[k]:=List.getElem?_eq_getElem hkt;obtain ⟨c0,c1⟩:=hasc.2.2 _ (Zao hkt);have hv:(fl.map I)[(l[k]).toNat]? = some (I (fl.getD (l[k]).toNat 0)):=by
     rw [List.getElem?_map,Zab,List.getElem?_eq_getElem (by omega)];rfl
    rw [dw rfl hkt,ldL (sH hxk),H2.load (k:=2) (i:=0) rfl rfl,sIx (i:=(l[k]).toNat) (by omega) (by omega),H2.load (k:=0) rfl hv,zy1,jd (by omega),zg8];refine hR3 _ _ _ _ _ _ _ (by omega) ⟨k+1,rfl,?_,rfl,by omega,rfl,rfl⟩
    congr 2
    rw [Zan,hxk,Option.toList_some,zdc];omega
   ·simp only [show ¬ (k:Int)<(l.length:Int) by omega,decide_false,zD];rw [Zal (l:=l) (by omega),zn.k22];have hb:=zks (M:=9) (fun v hv=>by have:=hf92 v hv;omega) l;simp only [qg];have hz:=wrap_zero (a:=s-jB l fl) (by omega);by_cases hc:jB l fl=s
    ·simp only [hz.2 (by omega),decide_true,Zae,zD];rw [zn.k23,jd (by omega)];refine hR2 (es.length-(j+1)) _ _ _ _ _ _ _ _ _ _ _ _ (by omega) ⟨j+1,rfl,rfl,by omega,?_,rfl,rfl⟩;rw [Zan,hxl,List.all_append,hall];simp [hc]
    ·have hz2:¬ IntKind.wrap .i64 (s-jB l fl)=0:=fun q=>hc (by have:=hz.1 q;omega);simp only [hz2,decide_false,Zag,zC];rw [zn.k25,jd (by omega)];have e:g (x:Int)=[]:=by
      show (if (x:Int)∈pre then [] else if okAt lines s pre.length (pre++[(x:Int)]) then _ else [])=_;rw [if_neg hmem,hok,if_neg];intro q;exact hc (of_decide_eq_true (List.all_eq_true.1 q l (Zaa hxl)))
     rw [e,Zbu] at hfo;exact next _ _ _ _ _ _ _ _ _ _ _ _ _ _ _ _ _ _ _ _ _ _ hfo hfl2 htk2 hf92 hL H2
  ·simp only [show ¬ (j:Int)<(es.length:Int) by omega,decide_false,zD];rw [Zal (by omega)] at hall;have e:g (x:Int)=jD lines s n r (pre++[(x:Int)]):=by
    show (if (x:Int)∈pre then [] else if okAt lines s pre.length (pre++[(x:Int)]) then _ else [])=_;rw [if_neg hmem,hok,if_pos hall]
   rw [e] at hfo;have hmx:∀ y∈pre++[(x:Int)],0<=y/\y<=60:=fun y hy=>by
    rcases List.mem_append.1 hy with q | q
    ·exact zqk y q
    ·simp at q;omega
   have hp2:2 ^ x<18446744073709551616:=by
    have:2 ^ x<=2 ^ 63:=Nat.pow_le_pow_right (by omega) (by omega);omega
   rw [zn.k24,H2.load (k:=1) (i:=0) rfl rfl];show (zf .shl .int (Wd 1) (I (x:Int)) fun v2=>_)=_;rw [zj9 (by omega),sOrW hml hp2];refine H2.store (k:=1) rfl (by simp) rfl fun h3 H3 => ?_;have e3:gV pre ||| 2 ^ x=gV (pre++[(x:Int)]):=by rw [zim];rfl
   have H3:Hp h0 h3 nx1 (Gn n lines s f bu bf be bp bg id fl (gV (pre++[(x:Int)]))++L):=H3.cast (by rw [e3];rfl);rw [H3.load (k:=4) (i:=0) rfl rfl,jd (by omega),vH];have e4:(pre.length:Int)+1=(((pre++[(x:Int)]).length:Nat):Int):=by simp
   rw [e4]
   refine zg9 hn9 hm hl hs hY r (pre++[(x:Int)]) fl st' _ _ _ _ L (by simp;omega) hfl2 (by rw [Zas];exact htk1) hf92 (fun y hy=>by
    rcases List.mem_append.1 hy with q | q
    ·exact hpre y q
    ·simp at q;omega) hL H3 fun fl' h4 nx4 L4 hfl' htk' hf9' hL4 H4 => ?_
   rw [H4.load (k:=1) (i:=0) rfl rfl];show (zf .shl .int (Wd 1) (I (x:Int)) fun v13=>_)=_
   rw [zj9 (by omega),zoi (c:=gV pre) (zka hmx) hp2 hml (fun k=>by
    have:=zoj hpre0 (show (0:Int)<=x by omega) hmem k;rw [Int.toNat_natCast] at this;exact this)]
   refine H4.store (k:=1) rfl (by simp) rfl fun h5 H5 => ?_;have H5:Hp h0 h5 nx4 (Gn n lines s f bu bf be bp bg id fl' (gV pre)++L4):=H5;have htk3:fl'.take pre.length=pre:=by
    have:=congrArg (List.take pre.length) htk';rw [List.take_take,Zas,Zci (by omega),List.take_left] at this;exact this
   rw [zdd] at hfo;simp only [yK];cases c:(gM stp st' (jD lines s n r (pre++[(x:Int)]))).2 with
   | true =>
    rw [c,if_pos rfl] at hfo;rw [c] at hL4;simp only [Zae,zD];rw [zn.k25,jd (by omega)];exact next _ _ _ _ _ _ _ _ _ _ _ _ _ _ _ _ _ _ _ _ _ _ hfo hfl' htk3 hf9' hL4 H5
   | false =>
    rw [c,if_neg (by simp)] at hfo;simp only [Zag,zC];rw [hfo] at hK;rw [c] at hK hL4;exact hK fl' _ _ _ hfl' htk3 hf9' hL4 H5
theorem zzj {α:Type} (a b c d e g:α) (L:List α):([a,b,c,d,e,g]++L).Perm ([e,b,d,c,a,g]++L):=by
 refine List.Perm.append_right L ?_;have h:[0,1,2,3,4,5].Perm [4,1,3,2,0,5]:=by decide
 exact h.map fun i=>[a,b,c,d,e,g].getD i a
theorem zdm {cells:Nat} {lines:List (List Int)} {s:Int}:Pure Tryz.prog B 47 [.agg [I cells,ji lines],I s] (· = .fn 106 (.of 106) [.fp [I cells,ji lines],.fp [I s]]):=by
 refine yF fun h nx K H0 hK=>zL zP yj 100 fun hf => ?_;rw [F47.go];refine H0.box (l:=[I cells,ji lines]) rfl fun b1 h1 nx1 H1 => ?_;refine H1.box (l:=[I s]) rfl fun b2 h2 nx2 H2 => ?_;have fz:∀ (k:Nat) (b:Pa) (l:List AV),[Ob.arr b2 [I s],Ob.arr b1 [I cells,ji lines]][k]? = some (.arr b l)->(∀ v∈l,fK v=true)->ru h h2 (.ptr b 0) (.fp l):=fun k b l hk hl=>by
  have hm:=Zaa hk;obtain ⟨op,t,g1,g2⟩:=H2.own _ hm;refine .ptr _ _ op _ t _ (H2.off b (List.mem_flatMap.2 ⟨_,hm,by simp [Ob.names]⟩)) g1 (by omega) (List.all_eq_true.2 fun v hv=>fK.jf (hl v hv)) fun i v hv => ?_;have:=zV t 0 l.length i (List.getElem?_eq_some_iff.1 hv).1;rw [g2,hv] at this;rw [<- Option.some.inj this];exact zH (hl v (Zaa hv))
 refine hK _ _ _ _ (.fn 106 (.of 106) [.fp [I cells,ji lines],.fp [I s]]) H2 (.fn _ _ _ _ rfl fun i v v' q1 q2 => ?_) rfl
 match i with
 | 0 =>
  simp only [List.getElem?_cons_zero,Option.some.injEq] at q1 q2;subst q1 q2;refine fz 1 b1 _ rfl fun v hv => ?_;simp only [Zad,Zcb,or_false] at hv;rcases hv with rfl | rfl
  ·rfl
  ·exact zcq lines
 | 1 =>
  simp only [List.getElem?_cons_succ,List.getElem?_cons_zero,Option.some.injEq] at q1 q2;subst q1 q2;exact fz 0 b2 _ rfl fun v hv=>by simp only [Zad,Zcb,or_false] at hv;subst hv;rfl
 | i+2=>simp at q1
theorem zdn {p:Pa} {h:T Blk} {nx:Pa} {K:Kw Prop} {L:List Ob} {st:σ} (hn9:n<=9) (hm:lines.length<=1000) (hl:∀ l∈lines,rP n l/\l.length<=1000) (hs : -9223372036854775808<=s/\s<=9223372036854775807) (hY:∀ f bu bf be bp bg,YC B h0 n lines s f bu bf be bp bg id LC stp)
  (hL:LC true st L) (H:Hp h0 h nx L) (hK:∀ h' nx' L',LC (gM stp st (jD lines s n n [])).2 (gM stp st (jD lines s n n [])).1 L'->Hp h0 h' nx' L'->K (.tup []) h' nx'=.ok True):(CS Tryz.prog B).fn 106 p [.yld id,.fp [I n,ji lines],.fp [I s]] h nx K=.ok True:=by
 refine yQ (p:=.of 106) (K:=K) (zL zP yj 1000 fun hf => ?_) fun _ _ _ _ q=>q;rw [oH.go];refine H.box (l:=[.yld id]) rfl fun bg h1 nx1 H1 => ?_;rw [dG];show (zB (.fp (I n::_)) h1 fun v2=>_)=_;rw [tq];refine H1.mk1 n rfl rfl (by omega) (by decide) fun f h2 nx2 H2 => ?_;refine H2.alloc fun bf h3 nx3 H3 => ?_;refine H3.store (k:=0) rfl (by decide) rfl fun h4 H4 => ?_;rw [qW];refine zqj (by omega) hm hl _ _ _ _ ?_;rintro _ rfl _;refine H4.alloc fun be h5 nx5 H5 => ?_;refine H5.store (k:=0) rfl (by decide) rfl fun h6 H6 => ?_;refine H6.alloc fun bu h7 nx7 H7 => ?_;refine H7.alloc fun bp h8 nx8 H8 => ?_;refine H8.store (k:=0) rfl (by decide) rfl fun h9 H9 => ?_;rw [H9.load (k:=0) (i:=0) rfl rfl,vH];have hz:List.replicate n (I 0)=(List.replicate n (0:Int)).map I:=by simp
 rw [hz] at H9;have H10:Hp h0 h9 nx8 (Gn n lines s f bu bf be bp bg id (List.replicate n 0) (gV [])++L):=H9.perm (zzj _ _ _ _ _ _ L);refine zg9 hn9 hm hl hs (hY f bu bf be bp bg) n [] (List.replicate n 0) st _ _ _ _ L (by simp) (by simp) (by simp) (by intro v hv;simp at hv;omega) (by simp) hL H10 fun fl' h11 nx11 L' _ _ _ hL' H11 => ?_;exact hK _ _ _ hL' H11.drop.drop.drop.drop.drop.drop
end
end Go.Ev
namespace Go.Ev
open Go Go.Proofs
variable {B:Nat}
def kS (cells:Int) (lines:List (List Int)):Int:=yX [jX cells lines,if 9<cells then 20 else 0]
theorem zha {cells:Int} {lines:List (List Int)} (hw:∀ q∈lines,q.length<=1000000):Pure Tryz.prog B 46 [.agg [I cells,ji lines]] (· = I (kS cells lines)):=by
 refine yF fun h nx K H0 hK=>zL zP yj 1000 fun hf => ?_;rw [F46.go];refine H0.box (l:=[I cells,ji lines]) rfl fun bx h1 nx1 H1 => ?_;rw [H1.zi (k:=0) (n:=2) rfl rfl,sFx,H1.load (k:=0) (i:=0) rfl rfl];simp only [vk];refine zzb hw _ _ _ _ ?_;rintro _ rfl _;simp only [zA,sFx];rw [H1.load (k:=0) (i:=0) rfl rfl];simp only [zA];refine zkj _ _ _ _ _ _ ?_;rintro _ rfl _;refine H1.zu (l:=[I (jX cells lines),I (if decide (9<cells) then 20 else 0)]) rfl fun id h4 nx4 H4 => ?_;refine gI (l:=[jX cells lines,if decide (9<cells) then 20 else 0]) H4 (k:=0) rfl (fun B=>zkk (by simp)) (fun v hv=>by rw [hv];exact .int _ _) ?_;rintro _ rfl;refine hK _ _ _ _ _ H4 (zH rfl) ?_;simp only [kS,decide_eq_true_eq]
theorem vG (cells:Int) (lines:List (List Int)):kS cells lines=if jX cells lines≠0 then jX cells lines else if 9<cells then 20 else 0:=by
 by_cases c:jX cells lines=0
 ·by_cases c2:9<cells <;> simp [kS,yX,c,c2]
 ·simp [kS,yX,c]
theorem zql {h0 h:T Blk} {nx p id:Pa} {L:List Ob} {k n:Nat} {cap:Option Nat} {l:List AV} {K:Kw Prop} (H:Hp h0 h nx L) (hk:L[k]? = some (.arr id l)) (hf:∀ v∈l,fK v=true) (hn:n<=1000000) (hl:l.length=n)
  (hK:K (.lst 1 n l) h nx=.ok True):(CS Tryz.prog B).fn 48 p [.sl id 0 n cap 1] h nx K=.ok True:=by
 refine zif (Q:=(· = .lst 1 n l)) (fun hfr K hK=>zL zP yj 9 fun _ => ?_) (fun v hv _=>by rw [hv];exact hK);rw [F48.go];have Hb:=Hp.init hfr;have harr:yu h id l:=H.own _ (Zaa hk)
 have e:(zf .eql (.nil .sl) (.sl id 0 n cap 1) .zh fun v1=>zQ v1 (K .zh h nx) (yE 1 0 [I 0] [] h nx fun v2 h3 n4=>ny 1 8 v2 (.sl id 0 n cap 1) h3 n4 fun v5 h6 n7=>K v5 h6 n7)) =
   (yE 1 0 [I 0] [] h nx fun v2 h3 n4=>ny 1 8 v2 (.sl id 0 n cap 1) h3 n4 fun v5 h6 n7=>K v5 h6 n7):=nr rfl
 rw [e]
 refine Hb.copy (new:=l) (fun h1 hh=>yu.rd (harr.congr (hh id (by
  obtain ⟨op,t,g1,_⟩:=harr;rw [g1];intro q;cases q))) (by rw [hl,Zbw])) hl hf (by decide) hn fun v X h' nx' H' _ _ hF => ?_
 exact hK _ _ _ H'.fr H'.keep ⟨_,hF _ _ _ _ H' (by simp),rfl⟩
def stpF (D:List (List Int)) (fl:List Int):List (List Int)×Bool:=if D.length=1024 then (D,false) else (D++[fl],true)
theorem zuk:∀ (l D:List (List Int)),D.length<=1024->gM stpF D l=if D.length+l.length<=1024 then (D++l,true) else (D++l.take (1024-D.length),false)
 | [],D,h=>by rw [if_pos (by simpa using h)];simp [gM]
 | x::l,D,h=>by
  rw [gM];by_cases c:D.length=1024
  ·have e:stpF D x=(D,false):=by rw [stpF,if_pos c]
   rw [e,if_neg (by simp),if_neg (by simp;omega),c];simp
  ·have e:stpF D x=(D++[x],true):=by rw [stpF,if_neg c]
   rw [e,if_pos rfl,zuk l (D++[x]) (by simp;omega)];by_cases c2:D.length+(x::l).length<=1024
   ·rw [if_pos c2,if_pos (by simp at c2 ⊢;omega)];simp
   ·rw [if_neg c2,if_neg (by simp at c2 ⊢;omega)];have:1024-D.length=(1024-(D++[x]).length)+1:=by simp;omega
    rw [this,List.take_succ_cons];simp
noncomputable abbrev F13.tm (cells:Int) (lines:List (List Int)) (s:Int) (bx b3 b4 b6:Pa):T AV:=F13.fr (.agg [I cells,ji lines]) (I s) (.ptr bx 0) (.ptr b3 0) (.ptr b4 0) (I 0) (.ptr b6 0) .undef (.bool false) (.fn 106 (.of 106) [.fp [I cells,ji lines],.fp [I s]]) .undef .undef
def F13.LC (cells:Int) (lines:List (List Int)) (s:Int) (bx b3 b4 b6 id:Pa) (go:Bool) (D:List (List Int)) (L:List Ob):Prop :=
 D.length<=1024/\∃ o,L=[.raw id (.loop (bif go then .ready else .done) (bif go then .none else .ret) (F13.tm cells lines s bx b3 b4 b6) [.of 10] F13.b4 F13.b5),.arr b6 [qp o 1 D.length],.gro o 1 D.length (D.map encI),.arr b4 [I (bif go then 0 else 5)],.arr b3 [.zh],.arr bx [I cells,ji lines]]
theorem F13.yc {h0:T Blk} {n:Nat} {lines:List (List Int)} {s:Int} {bx b3 b4 b6 id:Pa} (hn:n<=9) (f bu bf be bp bg:Pa):YC B h0 n lines s f bu bf be bp bg id (F13.LC n lines s bx b3 b4 b6 id) stpF:=by
 rintro D fl m h nx K L hfl hrg ⟨hD,o,rfl⟩ H hK;simp only [cond_true] at H;refine vY (fns:=tbl) yj 100 fun hf => ?_;rw [F13.y5 (xR H (k:=6) rfl) rfl];have H1:=H.zby (k:=6) rfl (b':=.loop .busy .none (F13.tm n lines s bx b3 b4 b6) [.of 10] F13.b4 F13.b5) (by intro e;cases e);rw [H1.load (k:=7) (i:=0) rfl rfl,H1.zef (k:=8) rfl];simp only [dh];by_cases c:D.length=1024
 ·simp only [show (D.length:Int)=1024 by omega,decide_true,zC];refine H1.store (k:=10) rfl (by simp) rfl fun h2 H2 => ?_;refine H2.store (k:=9) rfl (by simp) rfl fun h3 H3 => ?_;refine H3.rend (k:=6) rfl fun h4 H4 => ?_;have e:stpF D fl=(D,false):=by rw [stpF,if_pos c]
  rw [e] at hK;exact hK _ _ _ ⟨hD,o,rfl⟩ H4
 ·simp only [show ¬ (D.length:Int)=1024 by omega,decide_false,zD];rw [H1.load (k:=7) (i:=0) rfl rfl];refine zql H1 (k:=0) rfl (fun v hv=>by obtain ⟨x,_,rfl⟩:=List.mem_map.1 hv;rfl) (by omega) (by simpa using hfl) ?_;rw [H1.load (k:=7) (i:=0) rfl rfl,zA];have ef:AV.lst 1 n (fl.map I)=encI fl:=by rw [<- hfl]
  rw [ef];refine H1.zu (l:=[encI fl]) rfl fun e5 h2 nx2 H2 => ?_;rw [H2.load (k:=8) (i:=0) rfl rfl,zA];refine H2.oN (k:=9) (o:=o) (c:=1) (new:=[encI fl]) rfl (yu.rd (l:=[encI fl]) (n:=1) (H2.own _ (Zai ..)) rfl) rfl rfl (by decide) (by decide) (by omega) fun o' h3 nx3 _ H3 => ?_;refine H3.store (k:=8) rfl (by simp) (gN _ _ _) fun h4 H4 => ?_;refine H4.rend (k:=7) rfl fun h5 H5 => ?_;have e:stpF D fl=(D++[fl],true):=by rw [stpF,if_neg c]
  rw [e] at hK;have H6:=H5.drop;refine hK _ _ _ ⟨by simp;omega,o',rfl⟩ (H6.cast ?_);simp
theorem zb8 {n:Nat} {lines:List (List Int)} {s:Int} (hw:∀ q∈lines,q.length<=1000) (he:kS n lines=0) (hsy:jX n lines=0) (hn9:n<=9) (hs : -9223372036854775808<=s/\s<=9223372036854775807) :
  Pure Tryz.prog B 13 [.agg [I n,ji lines],I s] (· = if (jD lines s n n []).length<=1024 then .tup [ji (jD lines s n n []),I 0] else .tup [.zh,I 5]):=by
 obtain ⟨n',hn,g1,g2,g3,g4⟩:=zpo hsy;obtain rfl:n=n':=by omega
 refine yF fun h nx K H0 hK=>zL zP yj 1000 fun hf => ?_;rw [F13.go];refine H0.box (l:=[I n,ji lines]) rfl fun bx h1 nx1 H1 => ?_;refine H1.alloc fun b3 h2 nx2 H2 => ?_;refine H2.alloc fun b4 h3 nx3 H3 => ?_;rw [H3.zi (k:=2) (n:=2) rfl rfl];refine zha (fun q hq=>Zbf (hw q hq) (by omega)) _ _ _ _ ?_;rintro _ rfl _;rw [he];simp only [qg,decide_true,Zae,zD];refine H3.alloc fun b6 h4 nx4 H4 => ?_;rw [H4.zi (k:=3) (n:=2) rfl rfl];refine zdm _ _ _ _ ?_;rintro _ rfl _;have H5:=H4.tN 1;have H6:Hp h h4 nx4 [.arr b6 [.zh],.gro none 1 0 [],.arr b4 [I 0],.arr b3 [.zh],.arr bx [I n,ji lines]]:=H5.perm (.swap _ _ _);refine H6.rf (g:=106) (p:=.of 106) (cap:=[.fp [I n,ji lines],.fp [I s]]) rfl fun id h5 nx5 H7 => ?_;refine zdn (LC:=F13.LC n lines s bx b3 b4 b6 id) (stp:=stpF) (st:=[]) hn9 (by omega) (fun l hl=>⟨g4 l hl,hw l hl⟩) hs (fun f bu bf be bp bg=>F13.yc hn9 f bu bf be bp bg) ⟨by simp,none,rfl⟩ H7 fun h6 nx6 L' hL' H8 => ?_;rw [zuk _ _ (by simp)] at hL';simp only [Zcs,Zaz,Zbu,Nat.sub_zero] at hL';by_cases c:(jD lines s n n []).length<=1024
 ·rw [if_pos c] at hL' hK;obtain ⟨_,o,rfl⟩:=hL';refine H8.rU fun h7 H9 => ?_;show Ev.rU _ _ .ready .none _ h7 nx6=_;rw [vI,F13.k8,H9.load (k:=0) (i:=0) rfl rfl];refine H9.store (k:=3) rfl (by simp) (gN _ _ _) fun h8 H10 => ?_;refine H10.store (k:=2) rfl (by simp) rfl fun h9 H11 => ?_;rw [H11.load (k:=3) (i:=0) rfl rfl,H11.load (k:=2) (i:=0) rfl rfl];refine hK _ _ _ _ _ H11 (jE (H11.oO (k:=1) rfl (by intro v hv;obtain ⟨x,_,rfl⟩:=List.mem_map.1 hv;exact u7 x)) (zH rfl)) rfl
 ·rw [if_neg c] at hL' hK;obtain ⟨_,o,rfl⟩:=hL';refine H8.rU fun h7 H9 => ?_;show Ev.rU _ _ .done .ret _ h7 nx6=_;rw [bE];have e:∀ E0,(((fnO F13.res K).blk 0 E0).rt (F13.tm n lines s bx b3 b4 b6) h7 nx6)=(zB (.ptr b3 0) h7 fun v21=>zB (.ptr b4 0) h7 fun v22=>K (.tup [v21,v22]) h7 nx6):=fun E0=>by kernel_rfl
  rw [e,H9.load (k:=3) (i:=0) rfl rfl,H9.load (k:=2) (i:=0) rfl rfl];exact hK _ _ _ _ _ H9 (jE (zH rfl) (zH rfl)) rfl
end Go.Ev
namespace Go.Ev
def incZ (v:Int):Int:=IntKind.wrap .i64 (v+1)
def incT (A:List (List Int)) (c:Nat) (x:Int):List (List Int):=A.set c ((A.getD c []).set (x-1).toNat (incZ ((A.getD c []).getD (x-1).toNat 0)))
def zqm (A:List (List Int)) (fl:List Int):Nat->List (List Int)
 | 0=>A
 | i+1=>incT (zqm A fl i) i (fl.getD i 0)
def addF (A:List (List Int)) (fl:List Int):List (List Int):=zqm A fl fl.length
def zk2 (n:Nat):List (List Int):=List.replicate n (List.replicate n 0)
def vV (n:Nat) (fs:List (List Int)):List (List Int):=fs.foldl addF (zk2 n)
def Sq (n:Nat) (A:List (List Int)):Prop:=A.length=n/\∀ r∈A,r.length=n
theorem Sq.get {n c:Nat} {A:List (List Int)} (h:Sq n A) (hc:c<n):A[c]? = some (A.getD c [])/\(A.getD c []).length=n:=by
 have h1:=h.1;rw [Zab,List.getElem?_eq_getElem (by omega)];exact ⟨rfl,h.2 _ (Zao _)⟩
theorem Sq.inc {n c:Nat} {A:List (List Int)} {x:Int} (h:Sq n A) (hc:c<n):Sq n (incT A c x):=by
 refine ⟨by simp [incT,h.1],fun r hr => ?_⟩;rcases List.mem_or_eq_of_mem_set hr with q | rfl
 ·exact h.2 r q
 ·rw [List.length_set];exact (h.get hc).2
theorem Sq.fi {n:Nat} {A:List (List Int)} {fl:List Int} (h:Sq n A):∀ i,i<=n->Sq n (zqm A fl i)
 | 0,_=>h
 | i+1,hi=>(Sq.fi h i (by omega)).inc (by omega)
theorem Sq.zero (n:Nat):Sq n (zk2 n):=⟨by simp [zk2],fun r hr=>by simp [zk2] at hr;rw [hr.2];simp⟩
end Go.Ev
namespace Go.Ev
open Go Go.Proofs
variable {B:Nat}
abbrev tI (A:List (List Int)):List (List AV):=A.map fun r=>r.map I
def pZ (k:Nat):Int:=IntKind.wrap .i64 (k:Int)
theorem zjf (k:Nat):IntKind.wrap .i64 (pZ k+1)=pZ (k+1):=by
 have:=zg8 (k:Int) (-1);rw [show (IntKind.wrap .i64 (k:Int) - -1)=pZ k+1 by rw [pZ];omega,show ((k:Int) - -1)=((k+1:Nat):Int) by omega] at this;exact this
abbrev cI (n:Nat) (rows:List (Pa×Option Nat)):List AV:=rows.map fun r=>.sl r.1 0 n r.2 1
abbrev zdo (rows:List (Pa×Option Nat)) (D:List (List Int)):List Ob:=List.zipWith (fun r fl=>Ob.arr r.1 (fl.map I)) rows D
structure TL (n:Nat) (lines:List (List Int)) (s:Int) (most:Nat) (tb:Pa) (D:List (List Int)) (t:AV) (L:List Ob):Prop where
 ex:∃ (o:Option Pa) (rs:List (Option Pa)) (rows:List (Pa×Option Nat)) (sv:AV) (S:List Ob),t=.agg [I s,.bool false,I most,I (pZ D.length),sv,qp o 1 rows.length,.sl tb 0 n (some n) 1] /\
  L=.gro o 1 rows.length (cI n rows)::.tab tb rs (tI (vV n D))::(S++zdo rows (D.take most))/\rows.length=(D.take most).length/\(∀ r∈rows,mU n r.2)/\(∀ c,c<n->∃ r,rs[c]? = some (some r)) /\
  ((sv=.zh/\S=[]/\(lines=[]\/D=[]))\/∃ id c,sv=.sl id 0 1 none 2/\S=[.arr id [I s,I c]]/\lines≠[])
theorem Sq.fold {n:Nat}:∀ (l A:List (List Int)),Sq n A->(∀ f∈l,f.length=n)->Sq n (l.foldl addF A)
 | [],A,h,_=>h
 | f::l,A,h,hl=>by
  rw [Zbp];refine Sq.fold l _ ?_ fun x hx=>hl x (by simp [hx]);rw [addF,hl f (by simp)];exact h.fi n (Zah _)
theorem Sq.dist {n:Nat} {D:List (List Int)} (h:∀ f∈D,f.length=n):Sq n (vV n D):=Sq.fold D _ (.zero n) h
theorem zqn {N:Pa->Prop} {O:AV->Prop} {hh:T Blk} {l:List AV} (hs:l.all jf=true) (h:∀ v∈l,Frz True N O hh v v):Frz True N O hh (.agg l) (.agg l) :=
 .agg _ _ rfl hs fun i v v' h1 h2=>by rw [h1] at h2;cases h2;exact h v (Zaa h1)
theorem zet {h' h:T Blk} {id:Pa} {off ln esz:Nat} {cap:Option Nat} (hl:T.get .no id h'≠.no):ru h' h (.sl id off ln cap esz) (.sl id off ln cap esz):=.old _ (.inr (.inr (.inr ⟨id,off,ln,cap,esz,rfl,hl⟩)))
variable {n most:Nat} {lines:List (List Int)} {s:Int} {tb us:Pa} {h0:T Blk} {M:List Ob}
theorem TL.cells {D:List (List Int)} {t:AV} {L:List Ob} (h:TL n lines s most tb D t L):∃ a b c d e,t=.agg [I s,.bool false,a,b,c,d,e]/\t.cells=some [I s,.bool false,a,b,c,d,e]:=by
 obtain ⟨o,rs,rows,sv,S,rfl,rfl,hrl,hcap,hrs,hsp⟩:=h.ex;refine ⟨_,_,_,_,_,rfl,?_⟩;rcases hsp with ⟨rfl,_⟩ | ⟨id,c,rfl,_⟩ <;> cases o <;> rfl
theorem TL.frz {D:List (List Int)} {t:AV} {L A C:List Ob} {h' h:T Blk} {nx:Pa} (hT:TL n lines s most tb D t L) (H:Hp h0 h' nx (A++(L++C))):ru h' h t t:=by
 obtain ⟨o,rs,rows,sv,S,rfl,rfl,hrl,hcap,hrs,hsp⟩:=hT.ex;have live:∀ x:Ob,x∈(A++((.gro o 1 rows.length (cI n rows)::.tab tb rs (tI (vV n D))::(S++zdo rows (D.take most)))++C))->∀ id∈x.names,T.get .no id h'≠.no:=fun x hx id hid=>(H.own x hx).live id hid;have hrow:ru h' h (qp o 1 rows.length) (qp o 1 rows.length):=by
  cases o with
  | none=>exact .zh
  | some id=>exact zet (live (.gro (some id) 1 rows.length (cI n rows)) (by simp) id (by simp [Ob.names]))
 have htb:ru h' h (.sl tb 0 n (some n) 1) (.sl tb 0 n (some n) 1):=zet (live (.tab tb rs (tI (vV n D))) (by simp) tb (by simp [Ob.names]));have hsv:ru h' h sv sv/\jf sv=true:=by
  rcases hsp with ⟨rfl,_⟩ | ⟨id,c,rfl,rfl,_⟩
  ·exact ⟨.zh,rfl⟩
  ·exact ⟨zet (live (.arr id [I s,I c]) (by simp) id (by simp [Ob.names])),rfl⟩
 have hrs':jf (qp o 1 rows.length)=true:=by cases o <;> rfl
 refine zqn (by simp only [Zct,List.all_nil,hsv.2,hrs',Bool.and_true];rfl) fun v hv => ?_;simp only [Zad,Zcb,or_false] at hv;rcases hv with rfl | rfl | rfl | rfl | rfl | rfl | rfl
 ·exact .int _ _
 ·exact .bool _
 ·exact .int _ _
 ·exact .int _ _
 ·exact hsv.1
 ·exact hrow
 ·exact htb
end Go.Ev
namespace Go.Ev
open Go Go.Proofs
variable {B:Nat}
theorem zwq {l:List Int}:∀ v∈l.map I,fK v=true:=fun v hv=>by obtain ⟨x,_,rfl⟩:=List.mem_map.1 hv;rfl
theorem TL.fix {n most:Nat} {lines:List (List Int)} {s:Int} {tb:Pa} {D:List (List Int)} {t:AV} {L A C:List Ob} {h0 h:T Blk} {nx:Pa} (hT:TL n lines s most tb D t L) (hD:∀ f∈D,f.length=n) (H:Hp h0 h nx (A++(L++C))) :
  ∃ sv,ru h0 h t (.agg [I s,.bool false,I most,I (pZ D.length),sv,ji (D.take most),ji (vV n D)])/\(sv=.zh\/∃ c,sv=.lst 2 1 [I s,I c]):=by
 obtain ⟨o,rs,rows,sv,S,rfl,rfl,hrl,hcap,hrs,hsp⟩:=hT.ex;have idx:∀ x:Ob,x∈(A++((.gro o 1 rows.length (cI n rows)::.tab tb rs (tI (vV n D))::(S++zdo rows (D.take most)))++C))->∃ k:Nat,(A++((.gro o 1 rows.length (cI n rows)::.tab tb rs (tI (vV n D))::(S++zdo rows (D.take most)))++C))[k]? = some x:=fun x hx=>List.mem_iff_getElem?.1 hx;have hSq:=Sq.dist (n:=n) hD;have hrow:∀ (i:Nat) v v',(cI n rows)[i]? = some v->((D.take most).map encI)[i]? = some v'->ru h0 h v v':=by
  intro i v v' q1 q2;rw [List.getElem?_map] at q1 q2;cases e1:rows[i]? with
  | none=>rw [e1] at q1;cases q1
  | some r =>
   cases e2:(D.take most)[i]? with
   | none=>rw [e2] at q2;cases q2
   | some fl =>
    rw [e1] at q1;rw [e2] at q2;have q1:=Option.some.inj q1;have q2:=Option.some.inj q2;subst q1 q2;have hfl:fl.length=n:=hD fl (Zcf (Zaa e2));have hm:Ob.arr r.1 (fl.map I)∈zdo rows (D.take most):=List.mem_iff_getElem?.2 ⟨i,by rw [zdo,List.getElem?_zipWith,e1,e2]⟩;obtain ⟨k,hk⟩:=idx (.arr r.1 (fl.map I)) (by simp only [Zat,Zad];exact .inr (.inl (.inr (.inr (.inr hm)))));have:=H.ay hk (hcap r (Zaa e1)) (e:=1) (by simp [hfl]) zwq;have e3:AV.lst 1 n (fl.map I)=encI fl:=by rw [<- hfl]
    rw [e3] at this;exact this
 have hlist:ru h0 h (qp o 1 rows.length) (ji (D.take most)):=by
  obtain ⟨k,hk⟩:=idx (.gro o 1 rows.length (cI n rows)) (by simp);have own:=H.own _ (Zaa hk);cases o with
  | none =>
   obtain ⟨_,q⟩:=own;have:D.take most=[]:=Zbe (by omega);rw [this];exact .zcp 1
  | some id =>
   obtain ⟨t,g1,g2,g3⟩:=own;have harr:yu h id (cI n rows):=⟨true,t,by rw [g1,g2],by rw [g2];exact g3⟩;have hoff:=H.off id (List.mem_flatMap.2 ⟨_,Zaa hk,by simp [Ob.names]⟩);have:=yu.frzE (N:=fun id=>T.get Blk.no id h0=.no) (O:=fun v=>(∃ id off,v=.ptr id off/\T.get Blk.no id h0≠.no)\/(∃ id,v=.yld id/\T.get Blk.no id h0≠.no)\/(∃ id,v=.map id/\T.get Blk.no id h0≠.no)\/(∃ id off ln cap esz,v=.sl id off ln cap esz/\T.get Blk.no id h0≠.no)) (cap:=none) (e:=1) (n:=rows.length) (l':=(D.take most).map encI) harr hoff trivial (by simp) (by rw [Zaq,Zaq,hrl]) (List.all_eq_true.2 fun v hv=>by obtain ⟨x,_,rfl⟩:=List.mem_map.1 hv;rfl) hrow;rw [hrl] at this ⊢;exact this
 have htab:ru h0 h (.sl tb 0 n (some n) 1) (ji (vV n D)):=by
  obtain ⟨k,hk⟩:=idx (.tab tb rs (tI (vV n D))) (by simp)
  have:=H.zvy hk (cap:=some n) (n:=n) (Zah _) (by simp [hSq.1]) (fun l hl v hv=>by
   obtain ⟨r,_,rfl⟩:=List.mem_map.1 hl;obtain ⟨x,_,rfl⟩:=List.mem_map.1 hv
   rfl)
  have e:AV.lst 1 n ((tI (vV n D)).map fun l=>AV.lst 1 l.length l)=ji (vV n D):=by
   show _=AV.lst 1 _ _;rw [hSq.1];simp [tI,Function.comp_def]
  rw [e] at this;exact this
 have hsv:∃ sv',ru h0 h sv sv'/\(sv'=.zh\/∃ c,sv'=.lst 2 1 [I s,I c]):=by
  rcases hsp with ⟨rfl,_⟩ | ⟨id,c,rfl,rfl,_⟩
  ·exact ⟨.zh,.zh,.inl rfl⟩
  ·obtain ⟨k,hk⟩:=idx (.arr id [I s,I c]) (by simp);exact ⟨_,H.ay hk (cap:=none) (n:=1) (e:=2) trivial rfl (fun v hv=>by simp only [Zad,Zcb,or_false] at hv;rcases hv with rfl | rfl <;> rfl),.inr ⟨c,rfl⟩⟩
 obtain ⟨sv',hs1,hs2⟩:=hsv;refine ⟨sv',.agg _ _ rfl (by rcases hs2 with rfl | ⟨c,rfl⟩ <;> rfl) fun i v v' q1 q2 => ?_,hs2⟩
 match i with
 | 0=>simp only [List.getElem?_cons_zero,Option.some.injEq] at q1 q2;subst q1 q2;exact .int _ _
 | 1=>simp only [List.getElem?_cons_succ,List.getElem?_cons_zero,Option.some.injEq] at q1 q2;subst q1 q2;exact .bool _
 | 2=>simp only [List.getElem?_cons_succ,List.getElem?_cons_zero,Option.some.injEq] at q1 q2;subst q1 q2;exact .int _ _
 | 3=>simp only [List.getElem?_cons_succ,List.getElem?_cons_zero,Option.some.injEq] at q1 q2;subst q1 q2;exact .int _ _
 | 4=>simp only [List.getElem?_cons_succ,List.getElem?_cons_zero,Option.some.injEq] at q1 q2;subst q1 q2;exact hs1
 | 5=>simp only [List.getElem?_cons_succ,List.getElem?_cons_zero,Option.some.injEq] at q1 q2;subst q1 q2;exact hlist
 | 6=>simp only [List.getElem?_cons_succ,List.getElem?_cons_zero,Option.some.injEq] at q1 q2;subst q1 q2;exact htab
 | i+7=>simp at q1
def loB (n:Nat) (lines:List (List Int)):Int:=(loS (srt (ng n lines))+lines.length-1).tdiv lines.length
def hiB (n:Nat) (lines:List (List Int)):Int:=(hiS (srt (ng n lines))).tdiv lines.length
theorem rP.len {n:Nat} {l:List Int} (h:rP n l):l.length<=n:=by
 obtain ⟨t,ht⟩:=vF l ((List.range n).map fun (i:Nat)=>(i:Int)) (h.2.1.imp fun {x y} q e=>by omega) fun x hx=>by
  have:=h.2.2 x hx;exact List.mem_map.2 ⟨x.toNat,List.mem_range.2 (by omega),by omega⟩
 have:=ht.length_eq;simp at this;omega
theorem zeu {n:Nat} {lines:List (List Int)} (h0:0<lines.length) (hn:n<=9) (hm:lines.length<=128) (hl:∀ l∈lines,rP n l):0<=loB n lines/\loB n lines<=200000/\0<=hiB n lines/\hiB n lines<=200000:=by
 have hM:Bd (srt (ng n lines)) 1152:=(cW (W:=9) fun l hm=>⟨Zbf (hl l hm).len hn,fun c hc=>by have:=(hl l hm).2.2 c hc;omega⟩).srt.mono (by omega);have hlen:(srt (ng n lines)).length=n:=by rw [qU,j9]
 unfold loB hiB loS hiS
 generalize srt (ng n lines)=d at *
 have hf1:∀ j,j<d.length->0<=(j:Int)+1/\(j:Int)+1<=((9:Nat):Int):=fun j hj=>by omega
 have hf2:∀ j,j<d.length->0<=(d.length:Int)-j/\(d.length:Int)-j<=((9:Nat):Int):=fun j hj=>by omega
 obtain ⟨w1,w2⟩:=xL hM hf1 d.length (Zah _);obtain ⟨w3,w4⟩:=xL hM hf2 d.length (Zah _);obtain ⟨q1,q2⟩:=zi3 (a:=aK (fun i=>(d.length:Int)-i) d d.length+lines.length-1) (by omega) h0;obtain ⟨q3,q4⟩:=zi3 (a:=aK (fun i=>(i:Int)+1) d d.length) (by omega) h0;refine ⟨q1,?_,q3,?_⟩ <;> (have:d.length<=9:=by omega) <;> omega
def stpC (k:Nat) (_:List Int):Nat×Bool:=(k+1,true)
theorem zul:∀ (l:List (List Int)) (k:Nat),gM stpC k l=(k+l.length,true)
 | [],k=>rfl
 | x::l,k=>by
  show gM stpC (k+1) l=_;rw [zul l,Zav]
  congr 1;omega
def yh.LC (tm:T AV) (b7 id:Pa) (X:List Ob) (_:Bool) (k:Nat) (L:List Ob):Prop:=L=.raw id (.loop .ready .none tm [.of 10] yh.b9 yh.b10)::.arr b7 [I (pZ k)]::X
theorem yh.yc {h0:T Blk} {n:Nat} {lines:List (List Int)} {s:Int} {b7 id:Pa} {X:List Ob} {x0 x1 x2 x3 x4 x5 x6 x8 x9 x10 x11:AV} (f bu bf be bp bg:Pa):YC B h0 n lines s f bu bf be bp bg id (yh.LC (yh.fr x0 x1 x2 x3 x4 x5 x6 (.ptr b7 0) x8 x9 x10 x11) b7 id X) stpC:=by
 rintro k fl m h nx K L hfl hrg rfl H hK;refine vY (fns:=tbl) yj 100 fun hf => ?_;rw [yh.y10 (xR H (k:=6) rfl) rfl];have H1:=H.zby (k:=6) rfl (b':=.loop .busy .none (yh.fr x0 x1 x2 x3 x4 x5 x6 (.ptr b7 0) x8 x9 x10 x11) [.of 10] yh.b9 yh.b10) (by intro e;cases e);rw [H1.load (k:=7) (i:=0) rfl rfl,zy0,zjf];refine H1.store (k:=7) rfl (by simp) rfl fun h2 H2 => ?_;refine H2.rend (k:=6) rfl fun h3 H3 => ?_;exact hK _ _ _ rfl H3
theorem zhb {n:Nat} {lines:List (List Int)} (hj:∀ B,JOk Tryz.prog B kD) (h0:0<lines.length) (hn9:n<=9) (hm:lines.length<=128) (hl:∀ l∈lines,rP n l/\l.length<=1000):Pure Tryz.prog B 166 [.agg [I n,ji lines]] (· = ql (spV lines n (loB n lines) (hiB n lines+1-loB n lines).toNat)):=by
 refine yF fun h nx K H0 hK=>zL zP yj 100000000 fun hf => ?_;obtain ⟨d1,d2,d3,d4⟩:=zeu h0 hn9 hm fun l h=>(hl l h).1;rw [yh.go];refine H0.box (l:=[I n,ji lines]) rfl fun bx h1 nx1 H1 => ?_;rw [H1.zi (k:=0) (n:=2) rfl rfl];refine zpz hj h0 (by omega) hm (fun l h=>⟨(hl l h).2,(hl l h).1.2.2⟩) _ _ _ _ ?_;rintro _ rfl _;unfold bndV;simp only [yL,yN];rw [show (loS (srt (ng n lines))+lines.length-1).tdiv lines.length=loB n lines from rfl,show (hiS (srt (ng n lines))).tdiv lines.length=hiB n lines from rfl]
 generalize loB n lines=lo at *
 generalize hiB n lines=hi at *
 have hcnt:∀ s,aB lines n s<=1000000000:=fun s=>Zbf (zgz n []) (Zbf (Nat.pow_le_pow_left hn9 n) (Zbf (Nat.pow_le_pow_right (by omega) hn9) (by decide)))
 refine yh.L1 (fun m x3 x6 x10 x11 h' nx'=>∃ (i:Nat) (o:Option Pa) (X:List Ob),x6=I (lo+i)/\m=(hi+1-lo).toNat-i/\i<=(hi+1-lo).toNat/\x3=qp o 2 (spV lines n lo i).length/\Hp h h' nx' (.gro o 2 (spV lines n lo i).length (jZ (spV lines n lo i))::.arr bx [I n,ji lines]::X)) (m:=(hi+1-lo).toNat) (by omega)
  ⟨0,none,[],by simp,by omega,by omega,rfl,H1.tN 2⟩ ?_
 rintro m x3 x6 x7 x8 x9 x10 x11 h2 nx2 R ⟨i,o,X,rfl,rfl,hi',rfl,H2⟩ hR;simp only [fO];have hsl:=zku lines n lo i;by_cases hlt:lo+i<=hi
 case neg =>
  simp only [hlt,decide_false,zD];rw [yh.k14];obtain rfl:i=(hi+1-lo).toNat:=by omega
  exact hK _ _ _ _ _ H2 (H2.oO (k:=0) rfl zbv) rfl
 simp only [hlt,decide_true,zC];refine H2.alloc fun b7 h3 nx3 H3 => ?_;refine H3.store (k:=0) rfl (by simp) rfl fun h4 H4 => ?_;rw [H4.zi (k:=2) (n:=2) rfl rfl];refine zdm _ _ _ _ ?_;rintro _ rfl _;have H4':Hp h h4 nx3 (.arr b7 [I (pZ 0)]::.gro o 2 (spV lines n lo i).length (jZ (spV lines n lo i))::.arr bx [I n,ji lines]::X):=H4;refine H4'.rf (g:=106) (p:=.of 106) (cap:=[.fp [I n,ji lines],.fp [I (lo+i)]]) rfl fun id h5 nx5 H5 => ?_;refine zdn (LC:=yh.LC _ b7 id (.gro o 2 (spV lines n lo i).length (jZ (spV lines n lo i))::.arr bx [I n,ji lines]::X)) (stp:=stpC) (st:=0) hn9 (by omega) hl (by omega) (fun f bu bf be bp bg=>yh.yc f bu bf be bp bg) rfl H5 fun h6 nx6 L' hL' H6 => ?_;rw [zul] at hL';simp only [Zaz] at hL';unfold yh.LC at hL';subst hL';refine H6.rU fun h7 H7 => ?_;show Ev.rU _ _ .ready .none _ h7 nx6=_;rw [vI,yh.k12,H7.load (k:=0) (i:=0) rfl rfl];have hwc:pZ (jD lines (lo+(i:Int)) n n []).length=((aB lines n (lo+i):Nat):Int):=kJ (by have:(jD lines (lo+(i:Int)) n n []).length<=1000000000:=hcnt (lo+i);omega);rw [hwc];have hC:=hcnt (lo+i);simp only [vk];have e1:lo+(i:Int)+1=lo+((i+1:Nat):Int):=by omega
 by_cases c:0<aB lines n (lo+i)
 ·simp only [show (0:Int)<((aB lines n (lo+i):Nat):Int) by omega,decide_true,zC];rw [H7.load (k:=0) (i:=0) rfl rfl,hwc];have eb:∀ (x y:Int) (K':AV->OP),kK [(I 0),(I 0)] [(0,1,I x),(1,1,I y)] K'=K' (.agg [I x,I y]):=fun x y K'=>nr rfl;rw [eb];refine H7.zu (l:=[I (lo+i),I (aB lines n (lo+i))]) rfl fun b8 h8 nx8 H8 => ?_;refine H8.oN (k:=2) (o:=o) (c:=1) (new:=[I (lo+i),I (aB lines n (lo+i))]) rfl (yu.rd (l:=[I (lo+i),I (aB lines n (lo+i))]) (n:=1) (e:=2) (H8.own _ (Zai ..)) rfl) rfl rfl (by decide) (by decide) (by omega) fun o' h9 nx9 _ H9 => ?_;rw [yh.k13,jd (by omega),e1];have es:spV lines n lo (i+1)=spV lines n lo i++[(lo+(i:Int),((aB lines n (lo+i):Nat):Int))]:=by
   rw [zg0,spF,if_pos c];rfl
  have H10:=H9.drop.drop;refine hR _ _ _ _ _ _ _ _ _ _ (by omega) ⟨i+1,o',X,rfl,rfl,by omega,by rw [es];simp,H10.cast ?_⟩;rw [es,zl5];simp [jZ]
 ·simp only [show ¬ (0:Int)<((aB lines n (lo+i):Nat):Int) by omega,decide_false,zD];rw [yh.k13,jd (by omega),e1];have es:spV lines n lo (i+1)=spV lines n lo i:=by
   rw [zg0,spF,if_neg c];simp
  refine hR _ _ _ _ _ _ _ _ _ _ (by omega) ⟨i+1,o,X,rfl,rfl,by omega,by rw [es],?_⟩;rw [es];exact H7.drop
noncomputable abbrev TA (lines:List (List Int)) (D:List (List Int)) (o:Option Pa):Ob:=.gro o 2 (zuj lines D).length (jZ (zuj lines D))
end Go.Ev
namespace Go.Ev
def dot:List Int->List Int->Int
 | x::xs,y::ys=>x*y+dot xs ys
 | _,_=>0
theorem zk3:∀ (xs ys:List Int),dot xs ys=((xs.zip ys).map fun p=>p.1*p.2).sum
 | [],ys=>rfl
 | _::_,[]=>rfl
 | x::xs,y::ys=>by rw [dot,zk3 xs ys];rfl
theorem zdp {l l':List Int} (h:l.Perm l'):l.sum=l'.sum:=by
 induction h with
 | nil=>rfl
 | cons x _ ih=>rw [Zbi,Zbi,ih]
 | swap x y l=>simp only [Zbi];omega
 | trans _ _ i1 i2=>exact i1.trans i2
def insI (y:Int):List Int->List Int
 | []=>[y]
 | z::zs=>if y<=z then y::z::zs else z::insI y zs
theorem bO (y:Int):∀ zs:List Int,(insI y zs).Perm (y::zs)
 | []=>.refl _
 | z::zs=>by
  rw [insI];split
  ·exact .refl _
  ·exact ((bO y zs).cons z).trans (.swap _ _ _)
theorem zhc (y:Int):∀ {zs:List Int},zs.Pairwise (· <= ·)->(insI y zs).Pairwise (· <= ·)
 | [],_=>by simp [insI]
 | z::zs,h=>by
  obtain ⟨h1,h2⟩:=List.pairwise_cons.1 h;rw [insI];split
  ·rename_i c;refine List.pairwise_cons.2 ⟨fun a ha => ?_,h⟩;rcases List.mem_cons.1 ha with rfl | ha
   ·exact c
   ·have:=h1 a ha;omega
  ·refine List.pairwise_cons.2 ⟨fun a ha => ?_,zhc y h2⟩;rcases List.mem_cons.1 ((bO y zs).mem_iff.1 ha) with rfl | ha
   ·omega
   ·exact h1 a ha
theorem zk4 (y:Int):∀ (zs xs:List Int) (x:Int),(x::xs).Pairwise (· <= ·)->xs.length=zs.length->dot (x::xs) (y::zs)<=dot (x::xs) (insI y zs)
 | [],xs,x,_,_=>by rw [insI];omega
 | z::zs,[],x,_,h=>by simp at h
 | z::zs,x1::xs,x,hp,hl=>by
  obtain ⟨h1,h2⟩:=List.pairwise_cons.1 hp;rw [insI];split
  ·omega
  ·have ih:=zk4 y zs xs x1 h2 (by simpa using hl);have hx:=h1 x1 (by simp);have hm:0<=(x1-x)*(y-z):=Int.mul_nonneg (by omega) (by omega);have e:(x1-x)*(y-z)=x1*y-x1*z-x*y+x*z:=by
    rw [Int.sub_mul,Int.mul_sub,Int.mul_sub];omega
   simp only [dot] at ih ⊢;omega
def isrt:List Int->List Int
 | []=>[]
 | y::ys=>insI y (isrt ys)
theorem bM:∀ l:List Int,(isrt l).Perm l
 | []=>.refl _
 | y::ys=>(bO y _).trans ((bM ys).cons y)
theorem zhd:∀ l:List Int,(isrt l).Pairwise (· <= ·)
 | []=>.nil
 | y::ys=>zhc y (zhd ys)
theorem zhe:∀ (ys xs:List Int),xs.Pairwise (· <= ·)->xs.length=ys.length->dot xs ys<=dot xs (isrt ys)
 | [],xs,_,_=>by rw [isrt];omega
 | y::ys,[],_,h=>by simp at h
 | y::ys,x::xs,hp,hl=>by
  have ih:=zhe ys xs (List.pairwise_cons.1 hp).2 (by simpa using hl);have:=zk4 y (isrt ys) xs x hp (by rw [(bM ys).length_eq];simpa using hl);rw [isrt];simp only [dot] at this ⊢;omega
theorem zqo (d f:List Int) (h:d.length=f.length):dot d f<=dot (srt d) (srt f):=by
 let ps:=(d.zip f).mergeSort fun a b=>decide (a.1<=b.1)
 have hp:ps.Perm (d.zip f):=List.mergeSort_perm _ _;have hs:ps.Pairwise fun a b=>a.1<=b.1:=(List.pairwise_mergeSort (le:=fun a b:Int×Int=>decide (a.1<=b.1)) (by intro a b c;simp;omega) (by intro a b;simp;omega) (d.zip f)).imp (by intro a b h;simpa using h)
 have e1:ps.map (·.1)=srt d:=xM (by
  have:=hp.map (·.1)
  rwa [List.map_fst_zip (by omega)] at this) (List.pairwise_map.2 hs)
 have p2:(ps.map (·.2)).Perm f:=by
  have:=hp.map (·.2)
  rwa [List.map_snd_zip (by omega)] at this
 have e3:dot d f=dot (ps.map (·.1)) (ps.map (·.2)):=by
  have hz:∀ l:List (Int×Int),dot (l.map (·.1)) (l.map (·.2))=(l.map fun p=>p.1*p.2).sum:=by
   intro l
   induction l with
   | nil=>rfl
   | cons p l ih=>rw [Zay,Zay,dot,ih];rfl
  rw [hz,zk3];exact (zdp (hp.map _)).symm
 have hle:=zhe (ps.map (·.2)) (ps.map (·.1)) (List.pairwise_map.2 hs) (by simp);rw [e3];have e4:isrt (ps.map (·.2))=srt f:=xM ((bM _).trans p2) (zhd _);rw [e4,e1] at hle;rw [e1];exact hle
theorem zb9 (g:Nat->Int) (d:List Int):∀ i,i<=d.length->dot (d.take i) ((List.range i).map g)=aK g d i
 | 0,_=>by simp [dot,aK]
 | i+1,h=>by
  have hx:d[i]? = some d[i]:=List.getElem?_eq_getElem h;have app:∀ (xs ys:List Int) (x y:Int),xs.length=ys.length->dot (xs++[x]) (ys++[y])=dot xs ys+x*y:=by
   intro xs
   induction xs with
   | nil=>intro ys x y h;obtain rfl:ys=[]:=Zbe h.symm;simp [dot]
   | cons a xs ih =>
    intro ys x y h;cases ys with
    | nil=>simp at h
    | cons b ys=>rw [Zbr,Zbr,dot,ih ys x y (by simpa using h),dot];omega
  rw [List.range_succ,Zbq,Zan,hx];show dot (d.take i++[d[i]]) (_++[g i])=_;rw [app _ _ _ _ (by simp;omega),zb9 g d i (by omega),aK,Zab,hx];rfl
theorem bV (N:Int):∀ (d f:List Int),d.length=f.length->dot d (f.map fun x=>N-x)=N*d.sum-dot d f
 | [],[],_=>by simp [dot]
 | [],_::_,h=>by simp at h
 | _::_,[],h=>by simp at h
 | x::d,y::f,h=>by
  rw [Zay,dot,dot,bV N d f (by simpa using h),Zbi,Int.mul_sub,Int.mul_add,Int.mul_comm x N];omega
theorem zk5:∀ (d f:List Int) (k:Nat) (v:Int),k<d.length->d.length=f.length->dot (d.set k v) f=dot d f+(v-d.getD k 0)*f.getD k 0
 | [],_,_,_,h,_=>by simp at h
 | _::_,[],_,_,_,h=>by simp at h
 | x::d,y::f,0,v,_,_=>by
  simp only [Zcd,dot,List.getD_cons_zero,Int.sub_mul];omega
 | x::d,y::f,k+1,v,h,h2=>by
  simp only [List.set_cons_succ,dot,List.getD_cons_succ,zk5 d f k v (by simpa using h) (by simpa using h2)];omega
theorem zhf:∀ (l d f:List Int),(∀ c∈l,c.toNat<d.length)->d.length=f.length->dot (l.foldl incr d) f=dot d f+jB l f
 | [],d,f,_,_=>by simp [jB]
 | c::l,d,f,h,hl=>by
  rw [Zbp,zhf l (incr d c) f (fun x hx=>by rw [cL];exact h x (by simp [hx])) (by rw [cL];exact hl),incr,zk5 _ _ _ _ (h c (by simp)) hl];have e:d.getD c.toNat 0+1-d.getD c.toNat 0=1:=by omega
  rw [e];simp only [jB,Zay,Zbi];omega
theorem ztf {n:Nat} {lines:List (List Int)} {f:List Int} (hl:∀ l∈lines,rP n l) (hf:f.length=n):dot (ng n lines) f=(lines.map fun l=>jB l f).sum:=by
 have key:∀ (ls:List (List Int)) (d:List Int),(∀ l∈ls,rP n l)->d.length=n->dot (ls.foldl (fun d l=>l.foldl incr d) d) f=dot d f+(ls.map fun l=>jB l f).sum:=by
  intro ls
  induction ls with
  | nil=>intro d _ _;simp
  | cons l ls ih =>
   intro d h hd;rw [Zbp,ih _ (fun x hx=>h x (by simp [hx])) (by rw [uC];exact hd),zhf l d f (fun c hc=>by have:=(h l (by simp)).2.2 c hc;omega) (by omega)];simp only [Zay,Zbi];omega
 rw [ng,key lines _ hl (by simp)];have:∀ (k:Nat) (f:List Int),dot (List.replicate k 0) f=0:=by
  intro k
  induction k with
  | zero=>intro f;rfl
  | succ k ih =>
   intro f;cases f with
   | nil=>rfl
   | cons y f=>rw [List.replicate_succ,dot,ih];simp
 rw [this];omega
theorem ztg {lines:List (List Int)} {f:List Int} {s:Int} (h:∀ l∈lines,jB l f=s):(lines.map fun l=>jB l f).sum=lines.length*s:=by
 induction lines with
 | nil=>simp
 | cons l ls ih =>
  rw [Zay,Zbi,h l (by simp),ih fun x hx=>h x (by simp [hx]),Zav,Int.natCast_add,Int.add_mul];simp;omega
theorem zjg {n:Nat} {lines:List (List Int)} {f:List Int} {s:Int} (h0:0<lines.length) (hl:∀ l∈lines,rP n l) (hf:f.length=n) (hn:Nrm f) (hs:∀ l∈lines,jB l f=s) :
  (lines.length:Int)*s<=aK (fun i=>(i:Int)+1) (srt (ng n lines)) n/\aK (fun i=>(n:Int)-i) (srt (ng n lines)) n<=lines.length*s:=by
 have e:=ztf hl hf;rw [ztg hs] at e;have hdl:(ng n lines).length=n:=j9 n lines
 generalize hd:ng n lines=d at *
 have hsl:(srt d).length=n:=by rw [qU];exact hdl
 have e1:srt f=upTo n:=by rw [(zem f).2 hn,hf]
 have w1:dot (srt d) (upTo n)=aK (fun i=>(i:Int)+1) (srt d) n:=by
  have:=zb9 (fun i=>(i:Int)+1) (srt d) n (by omega)
  rwa [Zal (by omega)] at this
 have w2:dot (srt d) ((List.range n).map fun (i:Nat)=>(n:Int)-i)=aK (fun i=>(n:Int)-i) (srt d) n:=by
  have:=zb9 (fun i=>(n:Int)-i) (srt d) n (by omega)
  rwa [Zal (by omega)] at this
 have hup:(srt d).sum=d.sum:=zdp (qT d);have e2:(List.range n).map (fun (i:Nat)=>(n:Int)-i)=(upTo n).map fun x=>((n:Int)+1)-x:=by
  rw [Zcl];exact Zcn fun i _=>by simp;omega
 constructor
 ·have:=zqo d f (by omega);rw [e1,w1] at this;omega
 ·have hg:Nrm (f.map fun x=>((n:Int)+1)-x):=by
   refine ⟨List.pairwise_map.2 (hn.1.imp fun {a b} q e=>q (by omega)),fun x hx => ?_⟩;obtain ⟨y,hy,rfl⟩:=List.mem_map.1 hx;have:=hn.2 y hy;rw [Zaq];omega
  have e3:srt (f.map fun x=>((n:Int)+1)-x)=upTo n:=by rw [(zem _).2 hg,Zaq,hf]
  have:=zqo d (f.map fun x=>((n:Int)+1)-x) (by simp;omega);rw [e3,bV _ _ _ (by omega)] at this;have c2:=bV ((n:Int)+1) (srt d) (upTo n) (by simp;omega);rw [<- e2,w2,hup] at c2;omega
theorem tdiv_le {a s:Int} {m:Nat} (hm:0<m) (ha:0<=a) (h:(m:Int)*s<=a):s<=a.tdiv m:=by
 rw [Int.tdiv_eq_ediv_of_nonneg ha];exact (Int.le_ediv_iff_mul_le (by omega)).2 (by rw [Int.mul_comm];exact h)
theorem zth {a s:Int} {m:Nat} (hm:0<m) (ha:0<=a) (h:a<=m*s):(a+m-1).tdiv m<=s:=by
 rw [Int.tdiv_eq_ediv_of_nonneg (by omega)];have:(a+m-1) / (m:Int)<s+1:=(Int.ediv_lt_iff_lt_mul (by omega)).2 (by rw [Int.add_mul,Int.mul_comm s];omega);omega
end Go.Ev
namespace Go.Ev
open Go Go.Proofs
variable {B:Nat}
theorem zwr {n:Nat} {lines:List (List Int)} {s:Int} (h0:0<lines.length) (hl:∀ l∈lines,rP n l) (hc:0<aB lines n s):loB n lines<=s/\s<=hiB n lines:=by
 obtain ⟨f,hf⟩:∃ f,f∈jD lines s n n []:=by
  unfold aB at hc;exact List.exists_mem_of_length_pos hc
 obtain ⟨⟨f1,f2⟩,f3⟩:=(xE hl).1 hf;obtain ⟨b1,b2⟩:=zjg h0 hl f1 f2 f3;have hM:Bd (srt (ng n lines)) (lines.length*n):=(cW (W:=n) fun l hm=>⟨(hl l hm).len,fun c hc=>by have:=(hl l hm).2.2 c hc;omega⟩).srt;have hlen:(srt (ng n lines)).length=n:=by rw [qU,j9]
 unfold loB hiB loS hiS;rw [hlen]
 generalize srt (ng n lines)=d at *
 have w1:=xL (F:=n) hM (f:=fun i=>(i:Int)+1) (n:=n) (fun j hj=>by omega) n (Zah _);have w2:=xL (F:=n) hM (f:=fun i=>(n:Int)-i) (n:=n) (fun j hj=>by omega) n (Zah _);exact ⟨zth h0 w2.1 b2,tdiv_le h0 w1.1 b1⟩
def spL (n:Nat) (lines:List (List Int)):List (Int×Int):=spV lines n (loB n lines) (hiB n lines+1-loB n lines).toNat
theorem zti (n:Nat) (lines:List (List Int)):spV lines n (loB n lines) (hiB n lines+1-loB n lines).toNat=spL n lines:=rfl
def kG (cells:Int) (lines:List (List Int)):Int:=if kS cells lines≠0 then kS cells lines else if lines.length=0 then 12 else 0
theorem zjh {cells:Int} {lines:List (List Int)} (hj:∀ B,JOk Tryz.prog B kD) (hw:∀ q∈lines,q.length<=1000):Pure Tryz.prog B 99 [.agg [I cells,ji lines]] (· = if kG cells lines≠0 then .tup [.zh,I (kG cells lines)] else .tup [ql (spL cells.toNat lines),I 0]):=by
 refine yF fun h nx K H0 hK=>zL zP yj 1000 fun hf => ?_;have hw6:∀ q∈lines,q.length<=1000000:=fun q hq=>Zbf (hw q hq) (by omega);rw [F99.go];refine H0.box (l:=[I cells,ji lines]) rfl fun bx h1 nx1 H1 => ?_;rw [H1.zi (k:=0) (n:=2) rfl rfl,sFx,H1.load (k:=0) (i:=0+1) rfl rfl];simp only [zE,dh];refine zha hw6 _ _ _ _ ?_;rintro _ rfl _;simp only [zA,zE];rw [H1.load (k:=0) (i:=0+1) rfl rfl];simp only [zA,sFx,zE];refine zkj _ _ _ _ _ _ ?_;rintro _ rfl _;refine H1.zu (l:=[I (kS cells lines),I (if decide ((lines.length:Int)=0) then 12 else 0)]) rfl fun id h4 nx4 H4 => ?_;refine gI (l:=[kS cells lines,if decide ((lines.length:Int)=0) then 12 else 0]) H4 (k:=0) rfl (fun B=>zkk (by simp)) (fun v hv=>by rw [hv];exact .int _ _) ?_;rintro _ rfl;have ef:yX [kS cells lines,if decide ((lines.length:Int)=0) then 12 else 0]=kG cells lines:=by
  by_cases c:kS cells lines=0
  ·by_cases c2:lines.length=0
   ·simp [yX,kG,c,c2]
   ·have:¬ (lines.length:Int)=0:=by omega
    simp [yX,kG,c,c2]
  ·simp [yX,kG,c]
 rw [ef];by_cases he:kG cells lines=0
 case neg =>
  rw [if_pos he] at hK;simp only [qg,he,decide_false,Zag,zC];exact hK _ _ _ _ _ H4 (jE (zH rfl) (zH rfl)) rfl
 rw [if_neg (by simp [he])] at hK;simp only [qg,he,decide_true,Zae,zD];have hse:kS cells lines=0:=by
  by_cases c:kS cells lines=0
  ·exact c
  ·rw [kG,if_pos c] at he;exact absurd he c
 have h0:0<lines.length:=by
  by_cases c:lines.length=0
  ·rw [kG,if_neg (by simp [hse]),if_pos c] at he;cases he
  ·omega
 have hs:jX cells lines=0:=by
  by_cases c:jX cells lines=0
  ·exact c
  ·rw [vG,if_pos c] at hse;exact absurd hse c
 have c9:¬ 9<cells:=by
  intro c;rw [vG,if_neg (by simp [hs]),if_pos c] at hse;cases hse
 obtain ⟨n,rfl,g1,g2,g3,g4⟩:=zpo hs;rw [H4.zi (k:=1) (n:=2) rfl rfl];refine zhb hj h0 (by omega) (by omega) (fun l hl=>⟨g4 l hl,hw l hl⟩) _ _ _ _ ?_;rintro _ rfl _;rw [Int.toNat_natCast,<- zti] at hK;exact hK _ _ _ _ _ H4 (jE (zH (dP _)) (zH rfl)) rfl
theorem cP {x:Int} {v:AV} {e:Int} (hv:fK v=true) (hs:v.cells=some [v]) (he:e≠0):Pure Tryz.prog B 41 [.agg [I x,v],I e] (· = .tup [.zh,I e]):=by
 refine yF fun h nx K H0 hK=>zL zP yj 10 fun hf => ?_;rw [F41.go];refine H0.box (l:=[I x,v]) rfl fun bx h1 nx1 H1 => ?_;simp only [qg,he,decide_false,Zag,zC];exact hK _ _ _ _ _ H1 (jE (zH rfl) (zH rfl)) rfl
abbrev dW (cells:Int) (lines:List (List Int)):AV:=if kG cells lines≠0 then .tup [.zh,I (kG cells lines)] else .tup [ql (spL cells.toNat lines),I 0]
theorem zhg {cells:Int} {lines:List (List Int)} (hj:∀ B,JOk Tryz.prog B kD) (hw:∀ q∈lines,q.length<=1000):Pure Tryz.prog B 41 [.agg [I cells,ji lines],I 0] (· = dW cells lines):=by
 refine yF fun h nx K H0 hK=>zL zP yj 10 fun hf => ?_;rw [F41.go];refine H0.box (l:=[I cells,ji lines]) rfl fun bx h1 nx1 H1 => ?_;simp only [qg,decide_true,Zae,zD];rw [H1.zi (k:=0) (n:=2) rfl rfl];refine zjh hj hw _ _ _ _ ?_;rintro _ rfl _;by_cases c:kG cells lines=0
 ·have e:dW cells lines=.tup [ql (spL cells.toNat lines),I 0]:=if_neg (by simp [c]);rw [e] at hK;rw [if_neg (by simp [c])];simp only [yL,yN];exact hK _ _ _ _ _ H1 (jE (zH (dP _)) (zH rfl)) rfl
 ·have e:dW cells lines=.tup [.zh,I (kG cells lines)]:=if_pos c;rw [e] at hK;rw [if_pos c];simp only [yL,yN];exact hK _ _ _ _ _ H1 (jE (zH rfl) (zH rfl)) rfl
theorem zhh {V:Int} {E:List (Int×Int)} (hj:∀ B,JOk Tryz.prog B kD) (hE:E.length<=1000000):Pure Tryz.prog B 9 [.agg [I V,ql E]] (· = if vU V E≠0 then .tup [.zh,I (vU V E)] else dW (V+(E.length:Int)) (jJ V E E.length)):=by
 refine yF fun h nx K H0 hK=>zL zP yj 10 fun hf => ?_;rw [F9.go];refine H0.box (l:=[I V,ql E]) rfl fun bx h1 nx1 H1 => ?_;rw [H1.zi (k:=0) (n:=2) rfl rfl];refine mQ hj hE _ _ _ _ ?_;rintro _ rfl _;by_cases c:vU V E=0
 case neg =>
  rw [if_pos c] at hK ⊢;simp only [yL,yN];refine cP rfl rfl c _ _ _ _ ?_;rintro _ rfl _;simp only [yL,yN];exact hK _ _ _ _ _ H1 (jE (zH rfl) (zH rfl)) rfl
 have hg:yD V E=0:=by
  by_cases q:yD V E=0
  ·exact q
  ·rw [vU,yX,if_pos q] at c;exact absurd c q
 rw [if_neg (by simp [c])] at hK ⊢;simp only [yL,yN];refine zhg hj (fun q hq=>by have:=((pS hg).2 q hq).2;omega) _ _ _ _ ?_;rintro _ rfl _;by_cases c2:kG (V+(E.length:Int)) (jJ V E E.length)=0
 ·rw [show dW _ _=_ from if_neg (by simp [c2])] at hK ⊢;simp only [yL,yN];exact hK _ _ _ _ _ H1 (jE (zH (dP _)) (zH rfl)) rfl
 ·rw [show dW _ _=_ from if_pos c2] at hK ⊢;simp only [yL,yN];exact hK _ _ _ _ _ H1 (jE (zH rfl) (zH rfl)) rfl
theorem zhi {V:Int} {E:List (Int×Int)} (hj:∀ B,JOk Tryz.prog B kD) (hE:E.length<=1000000):Pure Tryz.prog B 10 [.agg [I V,ql E]] (· = if yD V E≠0 then .tup [.zh,I (yD V E)] else dW (V+(E.length:Int)) (jW V E V.toNat)):=by
 refine yF fun h nx K H0 hK=>zL zP yj 10 fun hf => ?_;rw [F10.go];refine H0.box (l:=[I V,ql E]) rfl fun bx h1 nx1 H1 => ?_;rw [H1.zi (k:=0) (n:=2) rfl rfl];refine vE hj hE _ _ _ _ ?_;rintro _ rfl _;by_cases c:yD V E=0
 case neg =>
  rw [if_pos c] at hK ⊢;simp only [yL,yN];refine cP rfl rfl c _ _ _ _ ?_;rintro _ rfl _;simp only [yL,yN];exact hK _ _ _ _ _ H1 (jE (zH rfl) (zH rfl)) rfl
 rw [if_neg (by simp [c])] at hK ⊢;simp only [yL,yN];refine zhg hj (fun q hq=>by have:=((pH c).2 q hq).2;omega) _ _ _ _ ?_;rintro _ rfl _;by_cases c2:kG (V+(E.length:Int)) (jW V E V.toNat)=0
 ·rw [show dW _ _=_ from if_neg (by simp [c2])] at hK ⊢;simp only [yL,yN];exact hK _ _ _ _ _ H1 (jE (zH (dP _)) (zH rfl)) rfl
 ·rw [show dW _ _=_ from if_pos c2] at hK ⊢;simp only [yL,yN];exact hK _ _ _ _ _ H1 (jE (zH rfl) (zH rfl)) rfl
theorem zca {n:Nat}:∀ (ls prev:List (List Int)),(∀ l∈ls,rP n l)->(prev++ls).Nodup->uX n prev ls=0
 | [],_,_,_=>rfl
 | l::ls,prev,hl,hn=>by
  have ha:=hl l (by simp);have hm:l∉prev:=fun h=>(List.nodup_append.1 hn).2.2 l h l (by simp) rfl;have e:gO n prev l=0:=by rw [gO,if_neg ha.1,zb0 ha.2.2 ha.2.1 (by simp),if_neg (by simp),if_neg hm]
  rw [uX,if_neg (by rw [e];simp)];exact zca ls (prev++[l]) (fun x hx=>hl x (by simp [hx])) (by rw [Zcm];exact hn)
theorem zhj {n:Nat} {lines:List (List Int)} (h1:1<=n) (h2:n<=256) (h3:lines.length<=128) (hl:∀ l∈lines,rP n l) (hn:lines.Nodup):jX n lines=0:=by
 rw [jX,if_neg (by omega),if_neg (by omega)];exact zca lines [] hl hn
theorem cG {n:Nat} {lines:List (List Int)} (hs:jX n lines=0) (h9:n<=9) (h0:0<lines.length):kG n lines=0:=by
 have:kS n lines=0:=by rw [vG,if_neg (by simp [hs]),if_neg (by omega)]
 rw [kG,this,if_neg (by decide),if_neg (by omega)]
theorem zmx (V:Int) (E:List (Int×Int)) (i:Nat):(jJ V E i).length=i:=by simp [jJ]
theorem zmy (V:Int) (E:List (Int×Int)) (i:Nat):(jW V E i).length=i:=by simp [jW]
abbrev ztj (V:Nat) (E:List (Int×Int)):Prop:=∀ e∈E,(0<=e.1/\e.1<(V:Int)/\0<=e.2/\e.2<(V:Int))/\e.1<e.2
theorem LI.enc {v:AV} {l:List Int} (h:LI v l) (h0:0<l.length):v=encI l:=by
 rcases h with ⟨_,rfl⟩ | q
 ·simp at h0
 ·exact q
theorem LI.len {v:AV} {l:List Int} (h:LI v l) (op:AV->OP):sLen v op=op (I l.length):=by
 rcases h with ⟨rfl,rfl⟩ | rfl <;> rfl
theorem zcg {V:Nat} {E:List (Int×Int)} {b:AV} {ls:List Int} (hb:LI b ls) (hV:V<=1000) (hE:ztj V E) (hle:ls.length<=E.length) (hl:ls.length<=1000) (hs:∀ x∈ls,0<=x/\x<=((1000:Nat):Int)):Pure Tryz.prog B 15 [.agg [I V,ql E],b] (· = encI (vsF V E ls)):=by
 refine yF fun h nx K H0 hK=>zL zP yj 10000 fun hf => ?_;rw [F15.go];refine H0.box (l:=[I V,ql E]) rfl fun bx h1 nx1 H1 => ?_;rw [sFx,H1.load (k:=0) (i:=0) rfl rfl];refine H1.mk1 V rfl rfl (by omega) (by decide) fun o h2 nx2 H2 => ?_;have hz:List.replicate V (I 0)=(vsF V E (ls.take 0)).map I:=by
  cases E <;> simp [vsF,vsG]
 rw [hz] at H2;refine F15.L1 (fun m x5 h' nx'=>∃ i:Nat,x5=I i/\ls.length-i=m/\i<=ls.length/\Hp h h' nx' [.arr o ((vsF V E (ls.take i)).map I),.arr bx [I V,ql E]]) (m:=ls.length) (by omega) ⟨0,rfl,rfl,by omega,H2⟩ ?_;rintro m z5 z6 h3 nx3 R ⟨i,rfl,rfl,hi,H3⟩ hR;rw [hb.len];simp only [jm];by_cases hlt:i<ls.length
 case neg =>
  simp only [show ¬ (i:Int)<(ls.length:Int) by omega,decide_false,zD];rw [F15.k8];rw [Zal (by omega)] at H3;refine hK _ _ _ _ _ H3 (H3.ay (k:=0) rfl (Zah _) (by simp [dD]) (fun v hv=>by obtain ⟨x,_,rfl⟩:=List.mem_map.1 hv;rfl)) ?_;show AV.lst 1 _ _=AV.lst 1 _ _;rw [dD]
 simp only [show (i:Int)<(ls.length:Int) by omega,decide_true,zC];have hbe:=hb.enc (by omega);subst hbe;have hx:ls[i]? = some ls[i]:=List.getElem?_eq_getElem hlt;have hiE:i<E.length:=by omega
 obtain ⟨⟨e1,e2,e3,e4⟩,e5⟩:=hE _ (Zao hiE);have hxr:=hs _ (Zao hlt);have hlen:=dD V E (ls.take i);have hsm:=zwo (V:=V) (X:=1000) (E:=E) (ls:=ls.take i) fun x hx=>hs x (Zcf hx);have hsn:vsF V E (ls.take (i+1))=vs1 (vsF V E (ls.take i)) E[i] ls[i]:=by
  rw [Zan,hx,Option.toList_some,zqa (e:=E[i])];rw [Zbb,Zci hi];exact List.getElem?_eq_getElem hiE
 have hsM:(ls.take i).length*(2*1000)<=2000000:=by rw [Zbb];omega
 replace hsm:=Sm.mono hsm hsM
 generalize vsF V E (ls.take i)=s at *
 have g1:=hsm.get (E[i].1).toNat;have g2:=(hsm.add (v:=E[i].1) hxr).get (E[i].2).toNat;have hv1:(s.map I)[(E[i].1).toNat]? = some (I (s.getD (E[i].1).toNat 0)):=by rw [List.getElem?_map,Zab,List.getElem?_eq_getElem (by omega)];rfl
 rw [sFx,H3.load (k:=1) (i:=0+1) rfl rfl,dw rfl hiE,jR hiE,zy9,sLdF,sIx (i:=(E[i].1).toNat) (by omega) (by omega),H3.load (k:=0) rfl hv1,dw rfl hlt,ldL (sH hx),jd (by omega),sIx (i:=(E[i].1).toNat) (by omega) (by omega)];refine H3.store (k:=0) rfl (by simp;omega) rfl fun h4 H4 => ?_;have es:(s.map I).set (E[i].1).toNat (I (s.getD (E[i].1).toNat 0+ls[i]))=(wL s E[i].1 ls[i]).map I:=by rw [wL,List.map_set]
 have H4:Hp h h4 nx3 [.arr o ((wL s E[i].1 ls[i]).map I),.arr bx [I V,ql E]]:=H4.cast (by rw [<- es];rfl);have hl2:=cA s E[i].1 ls[i];have hv2:((wL s E[i].1 ls[i]).map I)[(E[i].2).toNat]? = some (I ((wL s E[i].1 ls[i]).getD (E[i].2).toNat 0)):=by rw [List.getElem?_map,Zab,List.getElem?_eq_getElem (by omega)];rfl
 rw [sFx,H4.load (k:=1) (i:=0+1) rfl rfl,dw rfl hiE,jR hiE,zza,sLdF,sIx (i:=(E[i].2).toNat) (by omega) (by omega),H4.load (k:=0) rfl hv2,dw rfl hlt,ldL (sH hx),jd (by omega),sIx (i:=(E[i].2).toNat) (by omega) (by omega)];refine H4.store (k:=0) rfl (by simp;omega) rfl fun h5 H5 => ?_;rw [jd (by omega)];refine hR _ _ _ _ _ (by omega) ⟨i+1,rfl,rfl,by omega,H5.cast ?_⟩;rw [hsn,vs1];show Ob.arr o (((wL s E[i].1 ls[i]).map I).set (E[i].2).toNat (I ((wL s E[i].1 ls[i]).getD (E[i].2).toNat 0+ls[i])))::_=_;rw [<- List.map_set];rfl
def FstV (v:AV):List (List Int)->Prop
 | []=>v=.zh
 | f::_=>LI v f
theorem FstV.fK {v:AV} {F:List (List Int)} (h:FstV v F):fK v=true:=by
 cases F with
 | nil=>rw [h];rfl
 | cons f F =>
  rcases h with ⟨rfl,_⟩ | rfl
  ·rfl
  ·exact u7 f
end Go.Ev
namespace Go.Ev
open Go Go.Proofs
variable {B:Nat}
set_option maxRecDepth 100000
theorem zhk (l:List Int):(srt l).length=l.length:=(qT l).length_eq
theorem zqp {n:Nat} {x:Int}:x∈upTo n↔1<=x/\x<=(n:Int):=by
 rw [Zaj];constructor
 ·rintro ⟨i,hi,rfl⟩;have:=List.mem_range.1 hi;omega
 ·rintro ⟨h1,h2⟩;exact ⟨(x-1).toNat,List.mem_range.2 (by omega),by omega⟩
theorem zhl {f:List Int} (hj:∀ B,JOk Tryz.prog B kD) (hl:f.length<=100000):Pure Tryz.prog B 50 [encI f] (· = .bool (decide (srt f=upTo f.length))):=by
 intro p h nx K hK;refine zL zP yj 10000000 fun hf => ?_;rw [F50.go];refine m9 _ _ _ _ ?_;rintro _ rfl _;refine bB hj hl _ _ _ _ ?_;rintro _ rfl _;have hlen:=zhk f;simp only [zE];refine F50.L1 (fun m z6 h' nx'=>∃ i:Nat,z6=I i/\f.length-i=m/\i<=f.length/\h'=h/\nx'=nx/\(srt f).take i=(upTo f.length).take i) (m:=f.length) (by omega) ⟨0,rfl,rfl,by omega,rfl,rfl,rfl⟩ ?_;rintro m z1 z2 z3 z6 z7 z8 _ _ R ⟨i,rfl,rfl,hi,rfl,rfl,htk⟩ hR;simp only [jm];by_cases hlt:i<f.length
 ·simp only [show (i:Int)<((srt f).length:Int) by omega,decide_true,zC];have hx:(srt f)[i]? = some (srt f)[i]:=List.getElem?_eq_getElem (by omega);have hu:(upTo f.length)[i]? = some ((i:Int)+1):=by simp [List.getElem?_map,hlt]
  rw [dw rfl (by omega),ldL (sH hx),jd (by omega)];simp only [qg];by_cases c:(srt f)[i]=(i:Int)+1
  ·simp only [c,decide_true,Zae,zD];rw [jd (by omega)];refine hR _ _ _ _ _ _ _ _ _ (by omega) ⟨i+1,rfl,rfl,by omega,rfl,rfl,?_⟩;rw [Zan,Zan,htk,hx,hu,c]
  ·simp only [c,decide_false,Zag,zC];refine hK _ ?_ hf;rw [decide_eq_false];intro q;have h9:(srt f)[i]? = some ((i:Int)+1):=by rw [q];exact hu
   rw [hx] at h9;exact c (Option.some.inj h9)
 ·simp only [show ¬ (i:Int)<((srt f).length:Int) by omega,decide_false,zD];rw [F50.k8];rw [Zal (by omega),Zal (by simp;omega)] at htk;exact hK _ (by rw [decide_eq_true htk]) hf
abbrev farL (x:Int):Bool:=decide (x < -999999999)||decide (999999999<x)
def gB (f:List Int):Int:=if f.length=0 then 12 else if 256<f.length then 5 else if f.any farL then 3 else 0
theorem zji {f:List Int} (hl:f.length<=100000):Pure Tryz.prog B 109 [encI f] (· = I (if f.any farL then 3 else 0)):=by
 intro p h nx K hK;refine zL zP yj 1000 fun hf => ?_;rw [oI.go];refine zel (by omega) _ _ _ _ ?_;rintro _ rfl _;exact hK _ rfl hf
theorem zjj {f:List Int} (hl:f.length<=100000):Pure Tryz.prog B 49 [encI f] (· = I (gB f)):=by
 refine yF fun h nx K H0 hK=>zL zP yj 1000 fun hf => ?_;rw [F49.go];simp only [zE,dh];refine uJ _ _ _ _ _ _ ?_;rintro _ rfl _;simp only [vk];refine uJ _ _ _ _ _ _ ?_;rintro _ rfl _;refine zji hl _ _ _ _ ?_;rintro _ rfl _;refine H0.zu (l:=[I (if decide ((f.length:Int)=0)=true then 12 else 0),I (if decide ((256:Int)<(f.length:Int))=true then 5 else 0),I (if f.any farL=true then 3 else 0)]) rfl fun tb h1 nx1 H1 => ?_;refine gI (l:=[if decide ((f.length:Int)=0)=true then 12 else 0,if decide ((256:Int)<(f.length:Int))=true then 5 else 0,if f.any farL=true then 3 else 0]) H1 (k:=0) rfl (fun B=>wD (by simp)) (fun v hv=>by rw [hv];exact .int _ _) ?_;rintro _ rfl;have e:yX [if decide ((f.length:Int)=0)=true then 12 else 0,if decide ((256:Int)<(f.length:Int))=true then 5 else 0,if f.any farL=true then 3 else 0]=gB f:=by
  simp only [yX,gB,decide_eq_true_eq];by_cases c1:f.length=0
  ·simp [c1]
  ·by_cases c2:256<f.length
   ·simp [c1,c2,show (256:Int)<(f.length:Int) by omega]
   ·by_cases c3:f.any farL=true
    ·simp [c1,c2,c3,show ¬ (256:Int)<(f.length:Int) by omega]
    ·simp [c1,c2,c3,show ¬ (256:Int)<(f.length:Int) by omega]
 rw [e];exact hK _ _ _ _ _ H1 (zH rfl) rfl
theorem zwt {l:List Int}:∀ v∈l.map I,fK v=true:=fun v hv=>by obtain ⟨x,_,rfl⟩:=List.mem_map.1 hv;rfl
def wF (f:List Int):List Int:=f.map fun x=>(f.length:Int)+1-x
theorem qM (f:List Int):(wF f).length=f.length:=by simp [wF]
def vC (f:List Int) (i:Nat):List Int:=(wF f).take i++List.replicate (f.length-i) 0
theorem zmz {f:List Int} {i:Nat} (h:i<=f.length):(vC f i).length=f.length:=by simp [vC,qM];omega
theorem zjk {f:List Int} {i:Nat} (h:i<f.length):(vC f i).set i ((f.length:Int)+1-f[i])=vC f (i+1):=by
 have hx:(wF f)[i]? = some ((f.length:Int)+1-f[i]):=by rw [wF,List.getElem?_map,List.getElem?_eq_getElem h];rfl
 have ht:((wF f).take i).length=i:=by rw [Zbb,qM];omega
 rw [vC,vC,Zcr _ _ (by omega),ht,Nat.sub_self,Zan,hx,show f.length-i=(f.length-(i+1))+1 by omega,List.replicate_succ];simp
theorem zqq {h0 h:T Blk} {nx p bx:Pa} {L:List Ob} {k:Nat} {f:List Int} {K:Kw Prop} (hl:f.length<=1000) (hf:∀ x∈f, -1000000000<=x/\x<=1000000000) (H:Hp h0 h nx L) (hk:L[k]? = some (.arr bx [encI f]))
  (hK:∀ tb h' nx',Hp h0 h' nx' (.arr tb ((wF f).map I)::L)->K (.sl tb 0 f.length (some f.length) 1) h' nx'=.ok True):(CS Tryz.prog B).fn 51 p [I f.length,.fn 52 (.of 52) [.ptr bx 0]] h nx K=.ok True:=by
 refine yQ (p:=.of 51) (K:=K) (zL zP yj 100000 fun _ => ?_) fun _ _ _ _ q=>q;rw [F51.go];refine H.mk1 f.length rfl rfl (by omega) (by decide) fun tb h1 nx1 H1 => ?_;simp only [yM];have e0:List.replicate f.length (I 0)=(vC f 0).map I:=by simp [vC]
 rw [e0] at H1;refine F51.L1 (fun m z6 h' nx'=>∃ i:Nat,z6=I i/\f.length-i=m/\i<=f.length/\Hp h0 h' nx' (.arr tb ((vC f i).map I)::L)) (m:=f.length) (by omega) ⟨0,rfl,rfl,by omega,H1⟩ ?_;rintro m z4 z6 z7 h2 nx2 R ⟨i,rfl,rfl,hi,H2⟩ hR;simp only [jm];by_cases hlt:i<f.length
 case neg =>
  simp only [show ¬ (i:Int)<(f.length:Int) by omega,decide_false,zD];obtain rfl:i=f.length:=by omega
  rw [F51.k8];refine hK tb _ _ (H2.cast ?_);have:vC f f.length=wF f:=by rw [vC,Zal (by rw [qM];omega)];simp
  rw [this]
 simp only [show (i:Int)<(f.length:Int) by omega,decide_true,zC];have hx:f[i]? = some f[i]:=List.getElem?_eq_getElem hlt;have hfb:=hf _ (Zao hlt);have hk2:(Ob.arr tb ((vC f i).map I)::L)[k+1]? = some (.arr bx [encI f]):=by simpa using hk
 rw [vH];refine yQ (p:=.of 52) (zL zP yj 9 fun _ => ?_) fun _ _ _ _ q=>q;show zM tbl 9 _ (Pa.of 52) [I (i:Int),.ptr bx 0] _ _ _=_;rw [F52.go,H2.load (k:=k+1) (i:=0) hk2 rfl];simp only [zE];rw [jd (by omega),H2.load (k:=k+1) (i:=0) hk2 rfl,dw rfl hlt,ldL (sH hx),fH (by omega),sIx (i:=i) rfl hlt];refine H2.store (k:=0) rfl (by rw [Zaq,zmz hi];exact hlt) rfl fun h3 H3 => ?_;rw [jd (by omega)];refine hR _ _ _ _ _ _ (by omega) ⟨i+1,rfl,rfl,by omega,H3.cast ?_⟩;rw [<- zjk hlt,List.map_set];rfl
def mS (f:List Int):Int:=if gB f≠0 then gB f else if srt f=upTo f.length then 0 else 14
theorem zev {f:List Int} (hj:∀ B,JOk Tryz.prog B kD) (hl:f.length<=100000):Pure Tryz.prog B 14 [encI f] (· = if mS f≠0 then .tup [.zh,I (mS f)] else .tup [encI (wF f),I 0]):=by
 refine yF fun h nx K H0 hK=>zL zP yj 1000 fun hf => ?_;rw [F14.go];refine H0.box (l:=[encI f]) rfl fun bx h1 nx1 H1 => ?_;rw [H1.load (k:=0) (i:=0) rfl rfl,H1.load (k:=0) (i:=0) rfl rfl];refine zjj hl _ _ _ _ ?_;rintro _ rfl _;rw [H1.load (k:=0) (i:=0) rfl rfl];simp only [zA];refine zhl hj hl _ _ _ _ ?_;rintro _ rfl _;simp only [yK];refine uJ _ _ _ _ _ _ ?_;rintro _ rfl _;refine H1.zu (l:=[I (gB f),I (if (!decide (srt f=upTo f.length))=true then 14 else 0)]) rfl fun tb h2 nx2 H2 => ?_;refine gI (l:=[gB f,if (!decide (srt f=upTo f.length))=true then 14 else 0]) H2 (k:=0) rfl (fun B=>wD (by simp)) (fun v hv=>by rw [hv];exact .int _ _) ?_;rintro _ rfl;have e:yX [gB f,if (!decide (srt f=upTo f.length))=true then 14 else 0]=mS f:=by
  simp only [yX,mS];by_cases c1:gB f=0
  ·by_cases c2:srt f=upTo f.length <;> simp [c1,c2]
  ·simp [c1]
 rw [e];simp only [qg];by_cases c:mS f=0
 case neg =>
  rw [if_pos c] at hK;simp only [c,decide_false,Zag,zC];exact hK _ _ _ _ _ H2 (jE (zH rfl) (zH rfl)) rfl
 rw [if_neg (fun q=>q c)] at hK;simp only [c,decide_true,Zae,zD];rw [H2.load (k:=1) (i:=0) rfl rfl];simp only [zE];have ha:gB f=0:=by
  by_cases q:gB f=0
  ·exact q
  ·rw [mS,if_pos q] at c;exact absurd c q
 have hl2:f.length<=256:=by
  rw [gB] at ha;by_cases q1:f.length=0
  ·omega
  ·rw [if_neg q1] at ha;by_cases q2:256<f.length
   ·rw [if_pos q2] at ha;cases ha
   ·omega
 have hn:srt f=upTo f.length:=by
  rw [mS,if_neg (fun q=>q ha)] at c;by_cases q:srt f=upTo f.length
  ·exact q
  ·rw [if_neg q] at c;cases c
 have hfb:∀ x∈f, -1000000000<=x/\x<=1000000000:=fun x hx=>by
  rw [<- (qT f).mem_iff,hn,zqp] at hx;omega
 refine zqq (by omega) hfb H2 (k:=1) rfl fun tc h3 nx3 H3 => ?_;refine hK _ _ _ _ _ H3 (jE (H3.ay (k:=0) (cap:=some f.length) (e:=1) (n:=f.length) rfl (Zah _) (by rw [Zaq,qM];omega) zwt) (zH rfl)) ?_;rw [encI,qM]
theorem zum {a b:Nat} {K:AV->OP} (ha:a<=1000000) (hb:0<b):zf .rem .int (I (a:Int)) (I (b:Int)) K=K (I ((a%b:Nat):Int)):=by
 have e:zf .rem .int (I (a:Int)) (I (b:Int)) K=(bif ieq (b:Int) 0 then Out.no 5 else xq ((a:Int).tmod b) fun z=>K (.int .i64 z)):=rfl;have h0:ieq (b:Int) 0=false:=by rw [q9,beq_eq_false_iff_ne];omega
 rw [e,h0,cond_false,uN];rfl
theorem zqr {n a:Nat} {l:List AV} {op:AV->OP} (hn:1<=n) (ha:a<=n):kZ 1 (.lst 1 n l) (some (I (a:Int))) none none op=op (.lst 1 (n-a) ((l.drop a).take (n-a))):=by
 show (bif Nat.beq 1 1&&Nat.ble 1 n then (match bnd (some (I (a:Int))) n 0 with | none=>Out.no 17 | some q=>op (.lst 1 (n-q) ((l.drop (q*1)).take ((n-q)*1)))) else .no 17)=_;rw [Zac hn,zbm ha];show op (.lst 1 (n-a) ((l.drop (a*1)).take ((n-a)*1)))=_;rw [Zbw,Zbw]
def mir (n:Nat) (p y:Int×Int):Bool:=decide (y.1=3*((n:Int)+1)-p.1)&&decide (y.2=p.2)
theorem zqs {q:List (Int×Int)} {P:Int×Int->Bool} {i:Nat} (h:i<q.length):(q.take (i+1)).any P=((q.take i).any P||P q[i]):=by
 rw [Zan,List.getElem?_eq_getElem h,List.any_append];simp
theorem zk6 {z:Int} {K:AV->OP} (h:0<=z/\z<256):cH .i64 (.int .u8 z) K=K (I z):=by
 show xq (qB .i64 z) (fun z=>K (.int .i64 z))=_;rw [uN,p5,kJ (by omega)]
def zdq (V:Int) (E:List (Int×Int)) (a b:Int):Bool:=decide ((E.length:Int)<=b)&&(decide (yD V E=0)&&decide (V<=a))
theorem few7 {V:Int} {E:List (Int×Int)} {a b:Int} (hb:b<=1000000):Pure Tryz.prog B 7 [.agg [I V,ql E],I a,I b] (· = .bool (zdq V E a b)):=by
 refine yF fun h nx K H0 hK=>zL zP yj 1000 fun hf => ?_;rw [F7.go,F7.t3,zI,F7.t0_s];refine H0.box (l:=[I V,ql E]) rfl fun bx h1 nx1 H1 => ?_;have l0:∀ op:AV->OP,zB (.ptr bx (0+0)) h1 op=op (I V):=fun op=>H1.load (k:=0) (i:=0) rfl rfl;have l1:∀ op:AV->OP,zB (.ptr bx (0+1)) h1 op=op (ql E):=fun op=>H1.load (k:=0) (i:=1) rfl rfl;rw [F7.t2,zI,F7.t1_s,F7.r1_0,F7.zhq,sFx,l1];simp only [zE,fO];by_cases c1:(E.length:Int)<=b
 ·simp only [c1,decide_true,y9,zwb,H1.zi (k:=0) (n:=2) rfl rfl];refine zjb (by omega) _ _ _ _ ?_;rintro _ rfl _;rw [F7.r1_1,F7.zdr];simp only [y9,dh];by_cases c2:yD V E=0
  ·simp only [c2,decide_true,zT,y9,sFx,l0,fO];rw [F7.r1_2,F7.zac];simp only [qR,pO];rw [F7.ret];exact hK _ _ _ _ _ H1 (zH rfl) (by rw [zdq,decide_eq_true c1,decide_eq_true c2];rfl)
  ·simp only [c2,decide_false,zR,zT,jA];rw [F7.r1_2,F7.zac];simp only [qR,pO];rw [F7.ret];exact hK _ _ _ _ _ H1 (zH rfl) (by rw [zdq,decide_eq_true c1,decide_eq_false c2];rfl)
 ·simp only [c1,decide_false,jA,zwc];rw [F7.r1_1,F7.zdr];simp only [jA,zR];rw [F7.r1_2,F7.zac];simp only [qR,pO];rw [F7.ret];exact hK _ _ _ _ _ H1 (zH rfl) (by rw [zdq,decide_eq_false c1];rfl)
theorem zwu {f:List Int} (h1:1<=f.length) (h2:f.length<=100) (hN:Nrm f):mS f=0:=by
 have ha:gB f=0:=by
  have e:f.any farL=false:=List.any_eq_false.2 fun x hx=>by
   have:=hN.2 x hx;simp only [farL,Zby,decide_eq_true_eq];omega
  rw [gB,if_neg (by omega),if_neg (by omega),e];rfl
 rw [mS,if_neg (fun q=>q ha),if_pos ((zem f).2 hN)]
theorem bW {f:List Int} {k:Nat} (h:k<f.length):(wF f).getD k 0=(f.length:Int)+1-f.getD k 0:=by
 rw [Zab,Zab,wF,List.getElem?_map,List.getElem?_eq_getElem h];rfl
theorem zhm {c:Int} {l:List (List Int)} (h:kG c l=0):dW c l=.tup [ql (spL c.toNat l),I 0]:=if_neg fun q=>q h
theorem zzk (a b c:Int) (f:List Int):jB [a,b,c] f=f.getD a.toNat 0+f.getD b.toNat 0+f.getD c.toNat 0:=by simp [jB];omega
theorem rdL {f:List Int} {k:Nat} {h:T Blk} {op:AV->OP} (hk:k<f.length):(zO 1 (encI f) (I (k:Int)) fun v=>zB v h op)=op (I (f.getD k 0)):=by
 have e:f[k]? = some (f.getD k 0):=by rw [Zab,List.getElem?_eq_getElem hk];rfl
 rw [dw rfl hk,ldL (sH e)]
theorem law3 {V:Int} {E:List (Int×Int)} {z:Nat} (hj:∀ B,JOk Tryz.prog B kD) (hz:z<256) (haw:∀ {B},Pure Tryz.prog B 8 [] (· = .bool true)):Pure Tryz.prog B 3 [.agg [I V,ql E],.int .u8 (z:Int)] (· = .bool true):=by
 refine yF fun h nx K H0 hK=>zL zP yj 10000000 fun hf => ?_;have awk:∀ (h:T Blk) (nx:Pa) (Z:Kw Prop),Z (.bool true) h nx=.ok True->(CS Tryz.prog B).fn 8 (.of 8) [] h nx Z=.ok True:=fun h nx Z hZ=>haw _ _ _ _ fun v hv _=>by rw [hv];exact hZ
 have ret:∀ {h1 nx1 L},Hp h h1 nx1 L->K (.bool true) h1 nx1=.ok True:=fun H=>hK _ _ _ _ _ H (zH rfl) rfl;rw [F3.go,F3.t154,zI,F3.t0_s];refine H0.box (l:=[I V,ql E]) rfl fun bx h1 nx1 H1 => ?_;have l0:∀ op:AV->OP,zB (.ptr bx (0+0)) h1 op=op (I V):=fun op=>H1.load (k:=0) (i:=0) rfl rfl;have l1:∀ op:AV->OP,zB (.ptr bx (0+1)) h1 op=op (ql E):=fun op=>H1.load (k:=0) (i:=1) rfl rfl;rw [F3.t153,zI,F3.t5,zI,F3.t1_s,F3.r1_0,F3.zhq,H1.zi (k:=0) (n:=2) rfl rfl];refine few7 (by decide) _ _ _ _ ?_;rintro _ rfl _;rw [F3.r1_1,F3.zdr,yK];cases cF:zdq V E 5 5 with
 | false =>
  simp only [Zag,yW];rw [F3.r1_2,F3.zac];simp only [yW,zT];rw [F3.t4,yJ,F3.v29,zC,F3.t3,zI,F3.t2_s];refine awk _ _ _ ?_;simp only [qR,pO];rw [F3.ret];exact ret H1
 | true =>
 rw [zdq,Zaf,Zaf,decide_eq_true_eq,decide_eq_true_eq,decide_eq_true_eq] at cF;obtain ⟨cE,hg,cV⟩:=cF;obtain ⟨g1,g2,g3⟩:=vP hg;obtain ⟨v,rfl⟩:=Int.eq_ofNat_of_zero_le (show 0<=V by omega);obtain ⟨n,hn⟩:∃ n:Nat,(v:Int)+(E.length:Int)=(n:Int):=⟨v+E.length,by omega⟩;simp only [Zae,yH,sFx,l0,l1,zE];rw [jd (by omega),hn,F3.r1_2,F3.zac];simp only [yH,vk,zR];by_cases c6:(6:Int)<(n:Int)
 ·simp only [c6,decide_true,yW,zT];rw [F3.t4,yJ,F3.v29,zC,F3.t3,zI,F3.t2_s];refine awk _ _ _ ?_;simp only [qR,pO];rw [F3.ret];exact ret H1
 simp only [c6,decide_false,yH,zR,sFx,l1,zE,dh];by_cases c0:(E.length:Int)=0
 ·simp only [c0,decide_true];rw [F3.t4,yJ,F3.v29,zC,F3.t3,zI,F3.t2_s];refine awk _ _ _ ?_;simp only [qR,pO];rw [F3.ret];exact ret H1
 simp only [c0,decide_false];rw [F3.t4,yJ,F3.v29,zD,jG,F3.t152,zI,F3.t6_s,sFx,l0,sFx,l1,zE,jd (by omega),hn,F3.t151,zI,F3.t7_s,H1.zi (k:=0) (n:=2) rfl rfl];have hE0:E.length<=1000000:=by omega
 have he:vU (v:Int) E=0:=by
  rw [vU,decide_eq_false (show ¬ E.length=0 by omega)];simp [yX,hg]
 obtain ⟨lo,lr⟩:=pS hg;obtain ⟨vo,vr⟩:=pH hg;simp only [Int.toNat_natCast] at lr vr vo;have hnn:v+E.length=n:=by omega
 rw [hnn] at lr vr;have hel:=zmx (v:Int) E E.length;have hvl:=zmy (v:Int) E v;have sE:jX n (jJ (v:Int) E E.length)=0:=zhj (by omega) (by omega) (by omega) (fun l hl=>(lr l hl).1) lo.nd;have sV:jX n (jW (v:Int) E v)=0:=zhj (by omega) (by omega) (by omega) (fun l hl=>(vr l hl).1) vo.nd;have pE:=cG sE (by omega) (by omega);have pV:=cG sV (by omega) (by omega);have mE:kS n (jJ (v:Int) E E.length)=0:=by rw [vG,if_neg (fun q=>q sE),if_neg (by omega)]
 have mV:kS n (jW (v:Int) E v)=0:=by rw [vG,if_neg (fun q=>q sV),if_neg (by omega)]
 refine zhh hj hE0 _ _ _ _ ?_;rintro _ rfl _;rw [if_neg (fun q=>q he),hn,zhm pE,Int.toNat_natCast,yL,yN,F3.t150,zI,F3.t8_s,H1.zi (k:=0) (n:=2) rfl rfl];refine zhi hj hE0 _ _ _ _ ?_;rintro _ rfl _;rw [if_neg (fun q=>q hg),hn,show ((v:Int)).toNat=v from Int.toNat_natCast v,zhm pV,Int.toNat_natCast,yL,yN,F3.t149,zI,F3.t9_s,H1.zi (k:=0) (n:=2) rfl rfl];refine mQ hj hE0 _ _ _ _ ?_;rintro _ rfl _;rw [if_neg (fun q=>q he),sysV,hn,yL,yN];refine H1.alloc fun ea h2 nx2 H2 => ?_;refine H2.qy (l2:=[I (n:Int),ji (jJ (v:Int) E E.length)]) (k:=0) rfl rfl rfl fun h3 H3 => ?_;rw [F3.t148,zI,F3.zwy,H3.zi (k:=1) (n:=2) rfl rfl];refine vE hj hE0 _ _ _ _ ?_;rintro _ rfl _;rw [if_neg (fun q=>q hg),sysV,hn,show ((v:Int)).toNat=v from Int.toNat_natCast v,yL,yN];refine H3.alloc fun va h4 nx4 H4 => ?_;refine H4.qy (l2:=[I (n:Int),ji (jW (v:Int) E v)]) (k:=0) rfl rfl rfl fun h5 H5 => ?_;simp only [Zcd,List.set_cons_succ] at H5;have e0:∀ op:AV->OP,zB (.ptr ea (0+0)) h5 op=op (I (n:Int)):=fun op=>H5.load (k:=1) (i:=0) rfl rfl;have v0:∀ op:AV->OP,zB (.ptr va (0+0)) h5 op=op (I (n:Int)):=fun op=>H5.load (k:=0) (i:=0) rfl rfl;rw [F3.t147,zI,F3.t15,zI,F3.zwz,F3.r8_0,F3.zuq,jd (by omega),jd (by omega),jd (by omega),qg,decide_eq_true (by decide),Zae,F3.r8_1,F3.zur];simp only [qg,decide_true,Zae,yH,sFx,e0,zR];rw [F3.r8_2,F3.zus];simp only [yH,v0,qg,decide_true,Zae,zR];rw [F3.t14,yJ,F3.v30,zD,jG,F3.t146,zI,F3.t90,zI,F3.zw0,zE,vk];have hn6:n<=6:=by omega
 have hEe:∀ e∈E,(0<=e.1/\e.1<((v:Nat):Int)/\0<=e.2/\e.2<((v:Nat):Int))/\e.1<e.2:=fun e he=>by have:=g3 e he;omega
 have part:∀ (ls:List (List Int)) (lo:Int) (m:Nat) (p:Int×Int),p∈spV ls n lo m->p.2=((jD ls p.1 n n []).length:Int):=fun ls lo m p hp=>(zab.1 hp).2.2;have bndE:∀ p∈spL n (jJ (v:Int) E E.length),0<=p.1/\p.1<=1000000:=fun p hp=>by
  have h1:=zab.1 hp;obtain ⟨b1,b2,b3,b4⟩:=zeu (n:=n) (lines:=jJ (v:Int) E E.length) (by omega) (by omega) (by omega) (fun l hl=>(lr l hl).1);omega
 have bndV:∀ p∈spL n (jW (v:Int) E v),0<=p.1/\p.1<=1000000:=fun p hp=>by
  have h1:=zab.1 hp;obtain ⟨b1,b2,b3,b4⟩:=zeu (n:=n) (lines:=jW (v:Int) E v) (by omega) (by omega) (by omega) (fun l hl=>(vr l hl).1);omega
 have hlenE:(spL n (jJ (v:Int) E E.length)).length<=1000000:=Zbf (zku _ _ _ _) (by
  obtain ⟨b1,b2,b3,b4⟩:=zeu (n:=n) (lines:=jJ (v:Int) E E.length) (by omega) (by omega) (by omega) (fun l hl=>(lr l hl).1);omega)
 have symE:∀ p∈spL n (jJ (v:Int) E E.length),(3*((n:Int)+1)-p.1,p.2)∈spL n (jJ (v:Int) E E.length):=fun p hp=>by
  have h1:=zab.1 hp;have hc:=ztd (n:=n) (k:=3) p.1 (fun l hl=>(lr l hl).1) (fun l hl=>(lr l hl).2);have hc:aB (jJ (v:Int) E E.length) n (3*((n:Int)+1)-p.1)=aB (jJ (v:Int) E E.length) n p.1:=hc;have hb:=zwr (n:=n) (lines:=jJ (v:Int) E E.length) (s:=3*((n:Int)+1)-p.1) (by omega) (fun l hl=>(lr l hl).1) (by rw [hc];exact h1.2.1);exact zab.2 ⟨by dsimp only;omega,by dsimp only;rw [hc];exact h1.2.1,by dsimp only;rw [hc];exact h1.2.2⟩
 generalize hqe:spL n (jJ (v:Int) E E.length)=qe at *
 generalize hqv:spL n (jW (v:Int) E v)=qv at *
 have fin:∀ (w3 w13 w14 w15 w16 w17 w18 w19 w20 w21 w22 w23 w24 w25 w26 w27 w28 w29 w30 w31 w32 w33 w34 w35 w36 w37 w38 w39 w40 w41 w42 w43 w44 w45 w46 w47 w48 w49 w50 w51 w52 w53 w54 w55 w56 w57 w58:AV) (h':T Blk) (nx':Pa) (L:List Ob),Hp h h' nx' L->IR.run F3.t144 (CS Tryz.prog B) 10000000 (fnO F3.res K) (xu F3.res K) (F3.fr (.agg [I (v:Int),ql E]) (.int .u8 (z:Int)) (.ptr bx 0) w3 (I (n:Int)) (ql qe) (I 0) (ql qv) (I 0) (.ptr ea 0) (I 0) (.ptr va 0) (I 0) w13 w14 w15 w16 w17 w18 w19 w20 w21 w22 w23 w24 w25 w26 w27 w28 w29 w30 w31 w32 w33 w34 w35 w36 w37 w38 w39 w40 w41 w42 w43 w44 w45 w46 w47 w48 w49 w50 w51 w52 w53 w54 w55 w56 w57 w58) h' nx'=.ok True:=by
  intros
  rename_i HH;rw [F3.t144,zI,F3.zu6];refine awk _ _ _ ?_;simp only [qR,pO];rw [F3.ret];exact ret HH
 have rest:∀ (w3 w13 w14 w15 w16 w17 w18 w19 w20 w21 w22 w23 w24 w25 w26 w27 w28 w29 w30 w31 w32 w33 w34 w35 w36 w37 w38 w39 w40 w41 w42 w43 w44 w45 w46 w47 w48 w49 w50 w51 w52 w53 w54 w55 w56 w57 w58:AV) (h':T Blk) (nx':Pa),Hp h h' nx' [.arr va [I (n:Int),ji (jW (v:Int) E v)],.arr ea [I (n:Int),ji (jJ (v:Int) E E.length)],.arr bx [I (v:Int),ql E]]->IR.run F3.t145 (CS Tryz.prog B) 10000000 (fnO F3.res K) (xu F3.res K) (F3.fr (.agg [I (v:Int),ql E]) (.int .u8 (z:Int)) (.ptr bx 0) w3 (I (n:Int)) (ql qe) (I 0) (ql qv) (I 0) (.ptr ea 0) (I 0) (.ptr va 0) (I 0) w13 w14 w15 w16 w17 w18 w19 w20 w21 w22 w23 w24 w25 w26 w27 w28 w29 w30 w31 w32 w33 w34 w35 w36 w37 w38 w39 w40 w41 w42 w43 w44 w45 w46 w47 w48 w49 w50 w51 w52 w53 w54 w55 w56 w57 w58) h' nx'=.ok True:=by
  intro w3 w13 w14 w15 w16 w17 w18 w19 w20 w21 w22 w23 w24 w25 w26 w27 w28 w29 w30 w31 w32 w33 w34 w35 w36 w37 w38 w39 w40 w41 w42 w43 w44 w45 w46 w47 w48 w49 w50 w51 w52 w53 w54 w55 w56 w57 w58 h' nx' H;rw [F3.t145,zI,F3.t142,zI,F3.zxo,zE,vk];by_cases cv:0<qv.length
  case neg =>
   rw [decide_eq_false (by omega),F3.t141,yJ,F3.v48,zD,jG];exact fin _ _ _ _ _ _ _ _ _ _ _ _ _ _ _ _ _ _ _ _ _ _ _ _ _ _ _ _ _ _ _ _ _ _ _ _ _ _ _ _ _ _ _ _ _ _ _ _ _ _ H
  have hm:=Nat.mod_lt z cv;rw [decide_eq_true (by omega),F3.t141,yJ,F3.v48,zC,F3.t140,zI,F3.zxp,zk6 (by omega),zE,zum (by omega) cv]
  generalize z%qv.length=t at hm ⊢
  rw [dw rfl hm,jR hm,qW];have hpm:qv[t]∈qv:=Zao hm
  generalize qv[t]=p at hpm ⊢
  refine H.alloc fun pa h6 nx6 H6 => ?_;refine H6.qy (l2:=[I p.1,I p.2]) (k:=0) rfl rfl rfl fun h7 H7 => ?_;simp only [Zcd] at H7;rw [F3.t139,zI,F3.zxq,H7.zi (k:=1) (n:=2) rfl rfl,aS,H7.load (k:=0) (i:=0) rfl rfl];have hpb:=bndV p hpm;have hD6:=zqf hn6 (s:=p.1) (fun l hl=>(vr l hl).1);refine zb8 (fun q hq=>by have:=(vr q hq).2;omega) mV sV (by omega) (by omega) _ _ _ _ ?_;rintro _ rfl _;rw [if_pos (by omega)];have hp2:=part _ _ _ p (show p∈spV _ n _ _ by rw [<- hqv] at hpm;exact hpm);have hD:∀ f∈jD (jW (v:Int) E v) p.1 n n [],(f.length=n/\Nrm f)/\∀ l∈jW (v:Int) E v,jB l f=p.1:=fun f hf=>(xE (fun l hl=>(vr l hl).1)).1 hf
  generalize jD (jW (v:Int) E v) p.1 n n []=D at *
  have p1:∀ op:AV->OP,zB (.ptr pa (0+1)) h7 op=op (I (D.length:Int)):=fun op=>by rw [<- hp2];exact H7.load (k:=0) (i:=1) rfl rfl
  rw [yL,yN,F3.t138,zI,F3.t98,zI,F3.zxr,F3.zm5,F3.zq5];simp only [qg,decide_true,Zae,yH,zE,sAx1,p1];rw [F3.zts,F3.zq6,zR,F3.t97,yJ,F3.v49,zD,jG,F3.t137,zI,F3.zxs,zE,F3.t136,gD];refine F3.zu5 (fun m x52 h' nx'=>∃ i:Nat,x52=I i/\m=D.length-i/\i<=D.length/\Hp h h' nx' [.arr pa [I p.1,I p.2],.arr va [I (n:Int),ji (jW (v:Int) E v)],.arr ea [I (n:Int),ji (jJ (v:Int) E E.length)],.arr bx [I (v:Int),ql E]]) (m:=D.length) (by omega) ⟨0,rfl,by omega,by omega,H7⟩ ?_;rintro m z3 z26 z27 z28 z52 z53 z54 z55 z56 z57 z58 h8 nx8 R ⟨i,rfl,rfl,hi,H8⟩ hR;rw [F3.t134,zI,F3.zut,jm];by_cases hlt:i<D.length
  case neg =>
   rw [decide_eq_false (by omega),F3.t133,zI,F3.t101,yJ,F3.v53,zD,wQ,mX];exact fin _ _ _ _ _ _ _ _ _ _ _ _ _ _ _ _ _ _ _ _ _ _ _ _ _ _ _ _ _ _ _ _ _ _ _ _ _ _ _ _ _ _ _ _ _ _ _ _ _ _ H8
  have hx:D[i]? = some D[i]:=List.getElem?_eq_getElem hlt;obtain ⟨⟨f1,f2⟩,f3⟩:=hD _ (Zao hlt)
  generalize D[i]=f at hx f1 f2 f3
  rw [decide_eq_true (by omega),F3.t133,zI,F3.t101,yJ,F3.v53,zC,jG,F3.t132,zI,F3.t130,gD,F3.t129,zI,F3.zuu,dw rfl hlt,ldL (getT hx),F3.t128,zI,F3.t107,zI,F3.zuv,zE,f1,qg,decide_eq_true rfl,Zae,F3.t106,yJ,F3.v54,zD,jG];have hsl:AV.lst 1 (f.length-v) (((f.map I).drop v).take (f.length-v))=encI (f.drop v):=by
   rw [<- List.map_drop,Zal (by simp),encI,Zcg]
  rw [F3.t127,zI,F3.zuw,H8.zi (k:=3) (n:=2) rfl rfl,sFx,H8.load (k:=3) (i:=0) rfl rfl,zqr (by omega) (by omega),hsl];refine zcg (.inr rfl) (by omega) hEe (by rw [Zcg];omega) (by rw [Zcg];omega) (fun x hx=>by have:=f2.2 x (List.mem_of_mem_drop hx);omega) _ _ _ _ ?_;rintro _ rfl _;rw [F3.t126,zI,F3.zux,sFx,H8.load (k:=3) (i:=0) rfl rfl,F3.t125,gD];have hvs:(vsF v E (f.drop v)).length=v:=dD ..;refine F3.zu3 (fun m x56 h' nx'=>∃ k:Nat,x56=I k/\m=v-k/\k<=v/\Hp h h' nx' [.arr pa [I p.1,I p.2],.arr va [I (n:Int),ji (jW (v:Int) E v)],.arr ea [I (n:Int),ji (jJ (v:Int) E E.length)],.arr bx [I (v:Int),ql E]]) (m:=v) (by omega) ⟨0,rfl,by omega,by omega,H8⟩ ?_;rintro m z3 z28 z56 z57 z58 h9 nx9 R2 ⟨k,rfl,rfl,hk,H9⟩ hR2;rw [F3.t123,zI,F3.zuy,jm];by_cases hlt2:k<v
  case neg =>
   rw [decide_eq_false (by omega),F3.t122,zI,F3.t111,yJ,F3.v57,zD,wQ,mX,F3.zu4,jd (by omega)];exact hR (D.length-(i+1)) _ _ _ _ _ _ _ _ _ _ _ _ _ (by omega) ⟨i+1,rfl,rfl,by omega,H9⟩
  have hs:=zmv (E:=E) (by omega) hEe hlt2 (f:=f);rw [f3 _ (List.mem_map.2 ⟨k,List.mem_range.2 hlt2,rfl⟩)] at hs;rw [decide_eq_true (by omega),F3.t122,zI,F3.t111,yJ,F3.v57,zC,jG,F3.t121,zI,F3.t119,gD,F3.t118,zI,F3.zuz,F3.t117,zI,F3.zu0,rdL (by omega),rdL (by omega),jd (by omega),<- hs,aS,H9.load (k:=0) (i:=0) rfl rfl,qg,decide_eq_true rfl,Zae,F3.t116,yJ,F3.v58,zD,jG,F3.zu1,jd (by omega)];exact hR2 (v-(k+1)) _ _ _ _ _ _ _ (by omega) ⟨k+1,rfl,rfl,by omega,H9⟩
 by_cases cq:0<qe.length
 case neg =>
  rw [decide_eq_false (by omega),F3.t89,yJ,F3.v31,zD,jG];exact rest _ _ _ _ _ _ _ _ _ _ _ _ _ _ _ _ _ _ _ _ _ _ _ _ _ _ _ _ _ _ _ _ _ _ _ _ _ _ _ _ _ _ _ _ _ _ _ _ _ H5
 have hm:=Nat.mod_lt z cq;rw [decide_eq_true (by omega),F3.t89,yJ,F3.v31,zC,F3.t88,zI,F3.zw1,zk6 (by omega),zE,zum (by omega) cq]
 generalize z%qe.length=t at hm ⊢
 rw [dw rfl hm,jR hm,qW];have hpm:qe[t]∈qe:=Zao hm
 generalize qe[t]=p at hpm ⊢
 refine H5.alloc fun pa h6 nx6 H6 => ?_;refine H6.qy (l2:=[I p.1,I p.2]) (k:=0) rfl rfl rfl fun h7 H7 => ?_;simp only [Zcd] at H7;rw [F3.t87,zI,F3.zw2,H7.zi (k:=2) (n:=2) rfl rfl,aS,H7.load (k:=0) (i:=0) rfl rfl];have hpb:=bndE p hpm;have hD6:=zqf hn6 (s:=p.1) (fun l hl=>(lr l hl).1);refine zb8 (fun q hq=>by have:=(lr q hq).2;omega) mE sE (by omega) (by omega) _ _ _ _ ?_;rintro _ rfl _;rw [if_pos (by omega)];have hp2:=part _ _ _ p (show p∈spV _ n _ _ by rw [<- hqe] at hpm;exact hpm);have hD:∀ f∈jD (jJ (v:Int) E E.length) p.1 n n [],(f.length=n/\Nrm f)/\∀ l∈jJ (v:Int) E E.length,jB l f=p.1:=fun f hf=>(xE (fun l hl=>(lr l hl).1)).1 hf
 generalize jD (jJ (v:Int) E E.length) p.1 n n []=D at *
 have p1:∀ op:AV->OP,zB (.ptr pa (0+1)) h7 op=op (I (D.length:Int)):=fun op=>by rw [<- hp2];exact H7.load (k:=0) (i:=1) rfl rfl
 rw [yL,yN,F3.t86,zI,F3.t23,zI,F3.zw3,F3.zm1,F3.zqu];simp only [qg,decide_true,Zae,yH,zE,sAx1,p1];rw [F3.ztk,F3.zqv,zR,F3.t22,yJ,F3.v32,zD,jG,F3.t85,zI,F3.t62,zI,F3.zw4,zE,F3.t61,gD];refine F3.zxg (fun m x35 h' nx'=>∃ i:Nat,x35=I i/\m=D.length-i/\i<=D.length/\Hp h h' nx' [.arr pa [I p.1,I p.2],.arr va [I (n:Int),ji (jW (v:Int) E v)],.arr ea [I (n:Int),ji (jJ (v:Int) E E.length)],.arr bx [I (v:Int),ql E]]) (m:=D.length) (by omega) ⟨0,rfl,by omega,by omega,H7⟩ ?_;rintro m z3 z16 z17 z18 z19 z20 z35 z36 z37 z38 z39 z40 z41 z42 h8 nx8 R ⟨i,rfl,rfl,hi,H8⟩ hR;rw [F3.t59,zI,F3.zw5,jm];by_cases hlt:i<D.length
 case neg =>
  rw [decide_eq_false (by omega),F3.t58,zI,F3.t26,yJ,F3.v36,zD,wQ,mX,F3.t84,zI,F3.zxh,F3.t83,zI,F3.t77,zI,F3.zxi,zE,F3.t76,gD];refine F3.zxm (fun m x21 x45 h' nx'=>∃ i:Nat,x45=I i/\x21=.bool ((qe.take i).any (mir n p))/\m=qe.length-i/\i<=qe.length/\Hp h h' nx' [.arr pa [I p.1,I p.2],.arr va [I (n:Int),ji (jW (v:Int) E v)],.arr ea [I (n:Int),ji (jJ (v:Int) E E.length)],.arr bx [I (v:Int),ql E]]) (m:=qe.length) (by omega) ⟨0,rfl,rfl,by omega,by omega,H8⟩ ?_;rintro m z21 z22 z45 z46 h9 nx9 R2 ⟨k,rfl,rfl,rfl,hk,H9⟩ hR2;rw [F3.t74,zI,F3.zxj,jm];by_cases hlt2:k<qe.length
  case neg =>
   obtain rfl:k=qe.length:=by omega
   have ha:(qe.take qe.length).any (mir n p)=true:=by
    rw [Zal (Zah _)];exact List.any_eq_true.2 ⟨_,symE p hpm,by simp [mir]⟩
   rw [decide_eq_false (by omega),F3.t73,zI,F3.t66,yJ,F3.v46,zD,wQ,mX,ha,F3.t82,zI,F3.zxn,yK,Zae,F3.t81,yJ,F3.v47,zD,jG];exact rest _ _ _ _ _ _ _ _ _ _ _ _ _ _ _ _ _ _ _ _ _ _ _ _ _ _ _ _ _ _ _ _ _ _ _ _ _ _ _ _ _ _ _ _ _ _ _ _ _ H9.drop
  have hst:=zqs (P:=mir n p) hlt2;rw [decide_eq_true (by omega),F3.t73,zI,F3.t66,yJ,F3.v46,zC,jG,F3.t72,zI,F3.t70,gD,F3.t69,zI,F3.zxk,dw rfl hlt2,jR hlt2,qW]
  generalize qe[k]=y at hst ⊢
  refine H9.alloc fun ya h10 nx10 H10 => ?_;refine H10.qy (l2:=[I y.1,I y.2]) (k:=0) rfl rfl rfl fun h11 H11 => ?_;simp only [Zcd] at H11;have y0:∀ op:AV->OP,zB (.ptr ya 0) h11 op=op (I y.1):=fun op=>H11.load (k:=0) (i:=0) rfl rfl;have y1:∀ op:AV->OP,zB (.ptr ya (0+1)) h11 op=op (I y.2):=fun op=>H11.load (k:=0) (i:=1) rfl rfl;have pp0:∀ op:AV->OP,zB (.ptr pa 0) h11 op=op (I p.1):=fun op=>H11.load (k:=1) (i:=0) rfl rfl;have pp1:∀ op:AV->OP,zB (.ptr pa (0+1)) h11 op=op (I p.2):=fun op=>H11.load (k:=1) (i:=1) rfl rfl;rw [F3.zxl];cases hb:(qe.take k).any (mir n p) with
  | true =>
   rw [F3.zjo,F3.zjq];simp only [yW];rw [F3.zm4,F3.zjr];simp only [yW,zop];rw [F3.zjn,F3.zds];simp only [yW,zop,zT];rw [F3.zm6,jd (by omega)];exact hR2 (qe.length-(k+1)) _ _ _ _ _ _ (by omega) ⟨k+1,rfl,congrArg AV.bool (by rw [hst,hb];rfl),rfl,by omega,H11.drop⟩
  | false =>
   rw [F3.zjo,F3.zjq];simp only [yH,aS,y0];rw [jd (by omega),fJ (by omega),F3.zm4,F3.zjr];simp only [yH,pp0];rw [fH (by omega)];simp only [dh];by_cases c1:y.1=3*((n:Int)+1)-p.1
   ·simp only [c1,decide_true,y9,sAx1,y1,pp1];rw [F3.zjn,F3.zds];simp only [y9,dh,yH,zT,zR];rw [F3.zm6,jd (by omega)];exact hR2 (qe.length-(k+1)) _ _ _ _ _ _ (by omega) ⟨k+1,rfl,congrArg AV.bool (by rw [hst,hb,mir,decide_eq_true c1];simp),rfl,by omega,H11.drop⟩
   ·simp only [c1,decide_false,jA];rw [F3.zjn,F3.zds];simp only [zop,jA,yH,zR];rw [F3.zm6,jd (by omega)];exact hR2 (qe.length-(k+1)) _ _ _ _ _ _ (by omega) ⟨k+1,rfl,congrArg AV.bool (by rw [hst,hb,mir,decide_eq_false c1];rfl),rfl,by omega,H11.drop⟩
 have hx:D[i]? = some D[i]:=List.getElem?_eq_getElem hlt;obtain ⟨⟨f1,f2⟩,f3⟩:=hD _ (Zao hlt)
 generalize D[i]=f at hx f1 f2 f3
 have hcl:(wF f).length=n:=by rw [qM];exact f1
 rw [decide_eq_true (by omega),F3.t58,zI,F3.t26,yJ,F3.v36,zC,jG,F3.t57,zI,F3.t55,gD,F3.t54,zI,F3.zw6,dw rfl hlt,ldL (getT hx),F3.t53,zI,F3.zw7];refine zev hj (by omega) _ _ _ _ ?_;rintro _ rfl _;rw [if_neg (fun q=>q (zwu (by omega) (by omega) f2)),yL,yN,F3.t52,zI,F3.t33,zI,F3.zw8,F3.zm2,F3.zqw];simp only [qg,decide_true,Zae,yH,zE,f1,zR];rw [F3.ztl,F3.zqx];simp only [yH,zE,hcl,qg,decide_true,Zae,zR];rw [F3.t32,yJ,F3.v37,zD,jG,F3.t51,zI,F3.zw9,sFx,H8.load (k:=3) (i:=0+1) rfl rfl,zE,F3.t50,gD];have bd:∀ k,k<f.length->1<=f.getD k 0/\f.getD k 0<=6:=fun k hk=>by
  have:=f2.2 _ (Zaa (show f[k]? = some (f.getD k 0) by rw [Zab,List.getElem?_eq_getElem hk];rfl));omega
 refine F3.zxe (fun m x40 h' nx'=>∃ j:Nat,x40=I j/\m=E.length-j/\j<=E.length/\Hp h h' nx' [.arr pa [I p.1,I p.2],.arr va [I (n:Int),ji (jW (v:Int) E v)],.arr ea [I (n:Int),ji (jJ (v:Int) E E.length)],.arr bx [I (v:Int),ql E]]) (m:=E.length) (by omega) ⟨0,rfl,by omega,by omega,H8⟩ ?_;rintro m z3 z19 z20 z40 z41 z42 h9 nx9 R2 ⟨j,rfl,rfl,hjj,H9⟩ hR2;rw [F3.t48,zI,F3.zxa,jm];by_cases hlt2:j<E.length
 case neg =>
  rw [decide_eq_false (by omega),F3.t47,zI,F3.t36,yJ,F3.v41,zD,wQ,mX,F3.zxf,jd (by omega)];exact hR (D.length-(i+1)) _ _ _ _ _ _ _ _ _ _ _ _ _ _ _ _ (by omega) ⟨i+1,rfl,rfl,by omega,H9⟩
 have he:=hEe _ (Zao hlt2);have zaa:=f3 [(eAt E j).1,(eAt E j).2,(v:Int)+(j:Int)] (List.mem_map.2 ⟨j,List.mem_range.2 hlt2,rfl⟩);have hvj:(v:Int)+(j:Int)=((v+j:Nat):Int):=rfl;rw [xT hlt2,zzk,hvj,Int.toNat_natCast] at zaa;rw [decide_eq_true (by omega),F3.t47,zI,F3.t36,yJ,F3.v41,zC,jG,F3.t46,zI,F3.t44,gD,F3.t43,zI,F3.zxb,dw rfl hlt2,jR hlt2,qW]
 generalize E[j]=e at he zaa ⊢
 obtain ⟨a,ha⟩:∃ a:Nat,e.1=a:=⟨e.1.toNat,by omega⟩;obtain ⟨b,hb⟩:∃ b:Nat,e.2=b:=⟨e.2.toNat,by omega⟩;rw [ha,hb,Int.toNat_natCast,Int.toNat_natCast] at zaa;rw [ha,hb];rw [ha,hb] at he;refine H9.alloc fun qa h10 nx10 H10 => ?_;refine H10.qy (l2:=[I (a:Int),I (b:Int)]) (k:=0) rfl rfl rfl fun h11 H11 => ?_;simp only [Zcd] at H11;have q0:∀ op:AV->OP,zB (.ptr qa 0) h11 op=op (I (a:Int)):=fun op=>H11.load (k:=0) (i:=0) rfl rfl;have q1:∀ op:AV->OP,zB (.ptr qa (0+1)) h11 op=op (I (b:Int)):=fun op=>H11.load (k:=0) (i:=1) rfl rfl;have pp0:∀ op:AV->OP,zB (.ptr pa 0) h11 op=op (I p.1):=fun op=>H11.load (k:=1) (i:=0) rfl rfl;have vv:∀ op:AV->OP,zB (.ptr bx (0+0)) h11 op=op (I (v:Int)):=fun op=>H11.load (k:=4) (i:=0) rfl rfl;have ba:=bd a (by omega);have bb:=bd b (by omega);have bc:=bd (v+j) (by omega);have ca:=bW (f:=f) (k:=a) (by omega);have cb:=bW (f:=f) (k:=b) (by omega);have cc:=bW (f:=f) (k:=v+j) (by omega);rw [f1] at ca cb cc;have rd:∀ (g:List Int) (k:Nat),k<g.length->(∀ op:AV->OP,zO 1 (encI g) (I (k:Int)) op=op (.fp ((g.map I).drop (k*1))))/\∀ op:AV->OP,zB (.fp ((g.map I).drop (k*1))) h11 op=op (I (g.getD k 0)):=fun g k hk =>
  ⟨fun op=>dw rfl hk,fun op=>ldL (sH (show g[k]? = some (g.getD k 0) by rw [Zab,List.getElem?_eq_getElem hk];rfl))⟩
 obtain ⟨ia,la⟩:=rd f a (by omega);obtain ⟨ib,lb⟩:=rd f b (by omega);obtain ⟨ic,lc⟩:=rd f (v+j) (by omega);obtain ⟨ja,ma⟩:=rd (wF f) a (by omega);obtain ⟨jb,mb⟩:=rd (wF f) b (by omega);obtain ⟨jc,mc⟩:=rd (wF f) (v+j) (by omega)
 clear rd
 rw [F3.t42,zI,F3.zxc,F3.zm3,F3.zqy,aS,q0,ia,la,sAx1,q1,F3.ztr,F3.zqz,ib,lb,jd (by omega),sFx,vv,jd (by omega),hvj,F3.ztq,F3.zq0,ic,lc,jd (by omega),zaa,aS,pp0,qg,decide_eq_true rfl,Zae];simp only [yH];rw [F3.ztp,F3.zq1];simp only [yH,aS,sAx1,q0,q1,ja,ma,jb];rw [F3.zto,F3.zq2];simp only [yH,mb,sFx,vv];rw [jd (by omega),jd (by omega),hvj,jc,F3.ztn,F3.zq3];simp only [yH,mc];rw [jd (by omega),jd (by omega),fJ (by omega),aS,pp0,fH (by omega),F3.ztm,F3.zq4];simp only [yH];rw [qg,decide_eq_true (by omega),Zae,zR,F3.t41,yJ,F3.v42,zD,jG,F3.zxd,jd (by omega)];exact hR2 (E.length-(j+1)) _ _ _ _ _ _ _ _ (by omega) ⟨j+1,rfl,rfl,by omega,H11.drop⟩
end Go.Ev
