import Derived.Test.YtbghckepkajplabGreatDoorEvB
import Derived.Orders
set_option linter.unusedSimpArgs false
set_option linter.unusedVariables false
noncomputable section
namespace Go.Ev
open Go
theorem xA:∀ {p q:Pa},paEq p q=true->p=q
 | .z,.z,_=>rfl
 | .l p,.l q,h=>by rw [xA (p:=p) (q:=q) h]
 | .r p,.r q,h=>by rw [xA (p:=p) (q:=q) h]
 | .z,.l _,h=>by cases h
 | .z,.r _,h=>by cases h
 | .l _,.z,h=>by cases h
 | .l _,.r _,h=>by cases h
 | .r _,.z,h=>by cases h
 | .r _,.l _,h=>by cases h
theorem zqd {a b:Option Nat} (h:zle a b=true):a=b:=by
 cases a <;> cases b <;> first | rfl | (cases h;done) | (rw [yM h])
mutual
theorem dF:∀ {a b:AV},aX a b=true->a=b:=by
 intro a b h;cases a <;> cases b <;> first | (simp [aX] at h;done) | skip
 all_goals simp only [aX,Zap] at h
 .rw [eq_of_beq h]
 .have h2:=h.2;rw [xM] at h2;rw [wL h.1,eq_of_beq h2]
 .rw [xh.1 h]
 .rfl
 .rw [xA h.1,yM h.2]
 .rfl
 .obtain ⟨⟨⟨⟨h1,h2⟩,h3⟩,h4⟩,h5⟩:=h;rw [xA h1,yM h2,yM h3,zqd h4,yM h5]
 .rfl
 .rfl
 .rw [xA h]
 .rfl
 .obtain ⟨⟨h1,h2⟩,h3⟩:=h;rw [yM h1,xA h2,qN h3]
 .obtain ⟨⟨h1,h2⟩,h3⟩:=h;rw [yM h1,xA h2,qN h3]
 .rw [xA h]
 .rw [qN h]
 .rw [qN h]
 .rw [yM h.1.1,yM h.1.2,qN h.2]
 .rw [qN h]
theorem qN:∀ {l m:List AV},vL l m=true->l=m:=by
 intro l m h;cases l <;> cases m <;> first | (simp [vL] at h;done) | skip
 .rfl
 .simp only [vL,Zap] at h;rw [dF h.1,qN h.2]
end
section
variable {ops:Array Oper} {listed:Array Bool}
def Closed (ops:Array Oper) (S:Nat->Prop):Prop:=∀ j o,ops[j]? = some o->S j->∀ e∈xN o,S e
theorem zg9 (acc:List Nat) (o:Oper) (i:Nat):(nF acc o).testBit i=true->∃ e∈xN o,e=i\/(acc.getD e 0).testBit i=true:=by
 unfold nF;have key:∀ (l:List Nat) (m:Nat),(l.foldl (λm j=>m ||| (2 ^ j ||| acc.getD j 0)) m).testBit i=true->m.testBit i=true\/∃ e∈l,e=i\/(acc.getD e 0).testBit i=true:=by
  intro l
  induction l with
  | nil=>intro m h;exact .inl h
  | cons e l ih =>
   intro m h;rcases ih _ h with h | ⟨e',h1,h2⟩
   .rw [Zeo,Zeo,Zdm,Zdm] at h;rcases h with h | h | h
    .exact .inl h
    .rw [Nat.testBit_two_pow] at h;exact .inr ⟨e,Zai ..,.inl (by simpa using h)⟩
    .exact .inr ⟨e,Zai ..,.inr h⟩
   .exact .inr ⟨e',Zam _ h1,h2⟩
 intro h;rcases key _ _ h with h | h
 .simp at h
 .exact h
theorem za6:∀ (l:List Oper) (acc:List Nat) (i:Nat),i<acc.length->(nW l acc).getD i 0=acc.getD i 0
 | [],_,_,_=>rfl
 | o::l,acc,i,h=>by
  rw [nW,za6 l _ i (by simp;omega)];simp only [Zaa];rw [Zha h]
theorem zdd:∀ (l:List Oper) (acc:List Nat) (k:Nat) (o:Oper),l[k]? = some o->uZ l acc.length=true ->
  ∀ i,((nW l acc).getD (acc.length+k) 0).testBit i=true->∃ e∈xN o,e<acc.length+k/\(e=i\/((nW l acc).getD e 0).testBit i=true)
 | [],_,_,_,h,_,_,_=>by simp at h
 | o'::l,acc,0,o,h,he,i,hb=>by
  simp at h;subst h;simp only [uZ,Zap,Zaw] at he;rw [nW,za6 l _ _ (by simp)] at hb;simp only [Zaa,Zee] at hb;rw [Zgx (Zaf _)] at hb;simp at hb;obtain ⟨e,h1,h2⟩:=zg9 _ _ _ hb;have hlt:e<acc.length:=yG (he.1 e h1);refine ⟨e,h1,hlt,?_⟩;rcases h2 with h2 | h2
  .exact .inl h2
  .refine .inr ?_;rw [za6 (o'::l) acc e hlt];exact h2
 | o'::l,acc,k+1,o,h,he,i,hb=>by
  simp only [uZ,Zap] at he;rw [nW] at hb ⊢;have:=zdd l (acc++[nF acc o']) k o (by simpa using h) (by simpa using he.2) i (by simpa [Zcu,Zdt 1 k] using hb);simpa [Zcu,Zdt 1 k] using this
theorem dH (he:uZ ops.toList 0=true) {S:Nat->Prop} (hS:Closed ops S):∀ (j:Nat),j<ops.size->(∀ o,ops[j]? = some o->∀ e∈xN o,S e)->∀ i,((nW ops.toList []).getD j 0).testBit i=true->S i:=by
 intro j
 induction j using Nat.strongRecOn with
 | _ j ih =>
  intro hj hr i hb;have ho:ops[j]? = some ops[j]:=Zhd hj;obtain ⟨e,h1,h2,h3⟩:=zdd ops.toList [] j ops[j] (by simp [hj]) (by simpa using he) i (by simpa using hb);simp at h2;have hSe:=hr _ ho e h1;rcases h3 with rfl | h3
  .exact hSe
  .exact ih e h2 (by omega) (λo ho e' he'=>hS e o ho hSe e' he') i (by simpa using h3)
end
end Go.Ev
namespace Go.Ev
open Go
structure Ent where
 j:Nat
 dst:Option Nat
 av:AV
def jG (D:List Ent) (t:Nat):Option AV:=(D.find? λe=>e.dst==some t).map (·.av)
theorem j6 {e:Ent} {D:List Ent} {t:Nat} (h:e.dst=some t):jG (e::D) t=some e.av:=by simp [jG,h]
theorem j9 {e:Ent} {D:List Ent} {t:Nat} (h:e.dst≠some t):jG (e::D) t=jG D t:=by
 have:(e.dst==some t)=false:=by simpa using h
 simp [jG,List.find?_cons,this]
section
variable {β:Type} {P:Program} {E:Env} {loc st st':List Nat} {N:Nat} {tv0:T AV} {D:List Ent} {tm:Tm} {a:Act}
structure CAN (loc st:List Nat) (tv0:T AV) (D:List Ent) (tm:Tm):Prop where
 v:∀ t p,tu loc t=some p->T.get .u p tm.v=(jG D t).getD (T.get .u p tv0)
 s:∀ i t,st[i]? = some t->∃ x,jG D t=some x/\tm.s.getD i .u=x
 sk:SK loc st
theorem bW (c:CAN loc st tv0 D tm) {dst:Option Nat} {d:Dst} (hd:aG loc st N dst=some (d,st')) (j:Nat) (av:AV) :
  ∃ tm',(∀ k:Tm->Out β,sV d av tm k=k tm')/\CAN loc st' tv0 (⟨j,dst,av⟩::D) tm':=by
 cases dst with
 | none =>
  simp only [aG,Option.some.injEq,Prod.mk.injEq] at hd;obtain ⟨rfl,rfl⟩:=hd;have e:∀ t,jG (⟨j,none,av⟩::D) t=jG D t:=λt=>j9 (by simp);exact ⟨tm,λk=>zc9 _ _ _,λt p h=>by rw [e];exact c.v t p h,λi t h=>by rw [e];exact c.s i t h,c.sk⟩
 | some t0 =>
  have es:jG (⟨j,some t0,av⟩::D) t0=some av:=j6 rfl;have en:∀ t,t≠t0->jG (⟨j,some t0,av⟩::D) t=jG D t:=λt h=>j9 (by simpa using Ne.symm h);simp only [aG] at hd;split at hd
  .rename_i p au hp;cases hd
   refine ⟨⟨T.set .u av p tm.v,tm.s⟩,λk=>zg2 _ _ _ _,λt p' hp' => ?_,λi t ht => ?_,c.sk⟩
   .by_cases e:t=t0
    .subst e;rw [hp] at hp';cases hp';rw [es,T.get_set_same];rfl
    .rw [en t e,T.zk _ _ _ _ _ (λe2=>e (dW hp' (by rw [e2];exact hp)))];exact c.v t p' hp'
   .rw [en t (by rintro rfl;have:=c.sk t (Zad ht);rw [hp] at this;cases this)];exact c.s i t ht
  .rename_i au hp;cases hq:st.any (Nat.beq t0) with
   | true=>rw [hq] at hd;cases hd
   | false =>
    rw [hq] at hd;cases hd
    have hnot:∀ s∈st,s≠t0:=by
     intro s hs e;subst e;rw [Zdy] at hq;exact hq s hs (Zbz s)
    refine ⟨⟨tm.v,av::tm.s⟩,λk=>pQ _ _ _,λt p' hp' => ?_,λi t ht => ?_,λs hs => ?_⟩
    .rw [en t (by rintro rfl;rw [hp] at hp';cases hp')];exact c.v t p' hp'
    .cases i with
     | zero=>simp at ht;subst ht;exact ⟨av,es,by simp⟩
     | succ i =>
      simp at ht;rw [en t (hnot t (Zad ht))];simpa using c.s i t ht
    .rcases Zaq.1 hs with rfl | hs
     .exact hp
     .exact c.sk s hs
  .cases hd
def RVt (E:Env) (loc:List Nat) (tv0:T AV) (D:List Ent) (a:Act) (t:Nat):Prop :=
 (∀ v,jG D t=some v->VR E v (a.tmps.getD t undef))/\(jG D t=none->∀ p,t≠dmy->tu loc t=some p->VR E (T.get .u p tv0) (a.tmps.getD t undef))
theorem RVt.mono {E':Env} (hE:E.le E') {t:Nat} (h:RVt E loc tv0 D a t):RVt E' loc tv0 D a t :=
 ⟨λv hv=>VR.mono hE _ (h.1 v hv),λhn p hd hp=>VR.mono hE _ (h.2 hn p hd hp)⟩
theorem RVt.zfb {D':List Ent} {t:Nat} (hl:jG D' t=jG D t) (h:RVt E loc tv0 D a t):RVt E loc tv0 D' a t:=by
 unfold RVt at h ⊢;rw [hl];exact h
theorem RVt.zqe {a':Act} {t:Nat} (hl:a'.tmps.getD t undef=a.tmps.getD t undef) (h:RVt E loc tv0 D a t):RVt E loc tv0 D a' t:=by
 unfold RVt at h ⊢;rw [hl];exact h
def only (L:List Nat) (t:Nat):Nat:=if t∈L then t else dmy
theorem zde {L:List Nat} {t:Nat} (ht:t∈L) (hd:t≠dmy):tu (loc.map (only L)) t=tu loc t:=by
 unfold tu
 congr 1
 rw [List.findIdx?_map]
 congr 1
 funext x
 simp only [Function.comp,only];by_cases hx:x∈L
 .rw [if_pos hx]
 .rw [if_neg hx,aL hd,aL (by rintro rfl;exact hx ht)]
theorem zqf {L:List Nat} {t:Nat} (ht:t∈L) (hd:t≠dmy):(st.map (only L)).findIdx? (Nat.beq t)=st.findIdx? (Nat.beq t):=by
 rw [List.findIdx?_map]
 congr 1
 funext x
 simp only [Function.comp,only];by_cases hx:x∈L
 .rw [if_pos hx]
 .rw [if_neg hx,aL hd,aL (by rintro rfl;exact hx ht)]
theorem zha {L:List Nat} {x:Operand} (hx:∀ t,x=.tmp t->t∈L):zx (loc.map (only L)) (st.map (only L)) x=zx loc st x:=by
 cases x with
 | tmp t =>
  simp only [zx];by_cases hd:t=dmy
  .rw [aZ hd];rfl
  .rw [zde (hx t rfl) hd,zqf (hx t rfl) hd]
 | const v=>rfl
 | func f=>rfl
 | global g=>rfl
theorem zhb {L l:List Nat} {t:Nat} (h:t∈l.map (only L)) (hd:t≠dmy):t∈L:=by
 rw [Zao] at h;obtain ⟨x,_,rfl⟩:=h;unfold only at hd ⊢;by_cases hx:x∈L
 .rw [if_pos hx];exact hx
 .rw [if_neg hx] at hd;exact absurd rfl hd
theorem FR.only {D':List Ent} (c:CAN loc st tv0 D tm) {L:List Nat} (hr:∀ t∈L,RVt E loc tv0 D' a t) (hL:∀ t∈L,jG D' t=jG D t):FR E (loc.map (only L)) (st.map (Ev.only L)) tm a:={
 tr t p hd hp:=by
  have hm:t∈loc.map (Ev.only L):=by
   obtain ⟨k,hk,_⟩:=za7 hp;exact Zad hk
  have ht:=zhb hm hd;rw [zde ht hd] at hp;rw [c.v t p hp];obtain ⟨h1,h2⟩:=hr t ht;rw [hL t ht] at h1 h2;cases hw:jG D t with
  | none=>exact h2 hw p hd hp
  | some v=>exact h1 v hw
 sr k t hd hk:=by
  have ht:=zhb (Zad hk) hd;have hk':st[k]? = some t:=by
   rw [Zgw] at hk;cases hs:st[k]? with
   | none=>rw [hs] at hk;cases hk
   | some x =>
    rw [hs] at hk;simp only [Zcy,Option.some.injEq] at hk;unfold Ev.only at hk;by_cases hx:x∈L
    .rw [if_pos hx] at hk;rw [hk]
    .rw [if_neg hx] at hk;exact absurd hk.symm hd
  obtain ⟨x,h1,h2⟩:=c.s k t hk';rw [h2];have:=(hr t ht).1;rw [hL t ht] at this;exact this x h1 }
end
end Go.Ev
namespace Go.Ev
open Go
section
variable {β:Type} {P:Program} {B:Nat} {E:Env} {loc st st':List Nat} {N:Nat} {tv0:T AV} {D DS:List Ent} {tm:Tm} {a:Act} {h:T Blk} {nx:Pa} {w:World} {C:Calls β} {r:β} {rd:Option Nat} {n:Nat} {ops:Array Oper} {Q:Exit->Act->World->Prop} {o:Oper}
theorem bG {x:Operand} (hx:x∈o.op.operands):zx (loc.map (only (o.looksAt ops))) (st.map (only (o.looksAt ops))) x=zx loc st x:=by
 refine zha λt ht => ?_;subst ht;unfold Oper.looksAt;rw [Zbb];refine .inl ?_;rw [List.mem_filterMap];exact ⟨.tmp t,by simpa using hx,rfl⟩
theorem oP:qP (loc.map (only (o.looksAt ops))) (st.map (only (o.looksAt ops))) ops o=qP loc st ops o:=by
 unfold qP;cases hg:o.guard with
 | none=>rfl
 | some jw =>
  obtain ⟨j,want⟩:=jw;simp only;cases hd:(ops[j]?).bind (·.dst) with
  | none=>rfl
  | some t =>
   simp only;rw [zha];intro t' ht';cases ht'
   unfold Oper.looksAt;rw [Zbb];refine .inr ?_;rw [hg];simp only;rw [hd];simp
def PRec (P:Program) (β:Type) (loc:List Nat) (N:Nat) (ops:Array Oper) (tv0:T AV) (h:T Blk) (D:List Ent) (e:Ent):Prop :=
 ∃ (o:Oper) (st st':List Nat) (d:Dst) (g:Option (Arg×Bool)) (op:PO) (tm:Tm),ops[e.j]? = some o/\e.dst=o.dst/\poA P loc st o.op=some op/\aG loc st N o.dst=some (d,st')/\qP loc st ops o=some g/\CAN loc st tv0 D tm /\
  ((jT g tm=true/\∀ K':AV->Out β,op.ev tm h K'=K' e.av)\/(jT g tm=false/\e.av=.u))
open Classical in
theorem zun (r:β) {e:Ent} (p:PRec P β loc N ops tv0 h D e) (ho:ops[e.j]? = some o) (hr:∀ t∈o.looksAt ops,RVt E loc tv0 DS a t) (hL:∀ t∈o.looksAt ops,jG DS t=jG D t) (H:HR P B E h nx w) {Kp:Act->World->Prop}
  (hK:∀ v,VR E e.av v->Kp (a.put o.dst v) w):wpOpIn (Fd rd) n P ops Q e.j Kp a w:=by
 obtain ⟨o',st,st',d,g,op,tm,h1,h2,h3,h4,h5,h6,h7⟩:=p;rw [ho] at h1;cases h1;rw [wT ho];have F:=FR.only h6 hr hL;have hgs:=d6 F (oP.trans h5);rw [hgs];rcases h7 with ⟨h7,h8⟩ | ⟨h7,h8⟩
 .rw [h7];have hc:poA P (loc.map (only (o.looksAt ops))) (st.map (only (o.looksAt ops))) o.op=some op:=(zm6 o.op λx hx=>bG hx).trans h3;obtain ⟨av,v,q1,q2,q3⟩:=zg5 F H hc (K:=λv=>if v=e.av then .ok r else .no 0) (r:=r) (by rw [h8];simp);have:av=e.av:=by
   by_cases hq:av=e.av
   .exact hq
   .simp only [if_neg hq] at q1;cases q1
  subst this;exact dL (za0 h3) q3 (hK v q2)
 .rw [h7];exact ⟨λ_ _=>trivial,hK undef (by rw [h8];exact kB)⟩
theorem zuo (hC:COk P B C) {j:Nat} (ho:ops[j]? = some o) {op:WO} {g:Option (Arg×Bool)} (hw:woA P loc st o.op=some op) (hg:qP loc st ops o=some g) (hc:CAN loc st tv0 D tm) (hr:∀ t∈o.looksAt ops,RVt E loc tv0 DS a t)
  (hL:∀ t∈o.looksAt ops,jG DS t=jG D t) (H:HR P B E h nx w) {K1:Kw β} {K2:Out β} (hk:(bif jT g tm then op.ev C tm h nx K1 else K2)=.ok r) {Kp:Act->World->Prop}
  (h1:jT g tm=true->∀ av v h' nx' E' w',K1 av h' nx'=.ok r->VR E' av v->HR P B E' h' nx' w'->Ex E E' w w'->Kp (a.put o.dst v) w') (h2:jT g tm=false->K2=.ok r->Kp (a.put o.dst undef) w):wpOpIn (Fd rd) n P ops Q j Kp a w:=by
 rw [wT ho];have F:=FR.only hc hr hL;have hgs:=d6 F (oP.trans hg);rw [hgs];have hc:woA P (loc.map (only (o.looksAt ops))) (st.map (only (o.looksAt ops))) o.op=some op:=(cH o.op λx hx=>bG hx).trans hw;cases hb:jT g tm with
 | true =>
  rw [hb] at hk;have h1:=h1 hb;have hk:op.ev C tm h nx K1=.ok r:=hk;by_cases hcall:∃ f args,op=.call f args
  .obtain ⟨f,args,rfl⟩:=hcall;obtain ⟨f0,qcq,ho',hf,ha⟩:=zg4 hc;exact zlh hC ho' F H hf ha hk λav v h' nx' E' w' q1 q2 q3 q4=>h1 av v h' nx' E' w' q1 q2 q3 q4
  .obtain ⟨av,v,h',nx',E',w',q1,q2,q3,q4,q5⟩:=zg0 hC.pk F H hc (λf args e=>hcall ⟨f,args,e⟩) hk;rcases q5 with q5 | ⟨q5,rfl⟩
   .exact dL (wF hc) q5 (h1 av v h' nx' E' w' q1 q2 q3 q4)
   .exact wp_skip (wF hc) q5 (h1 av _ h' nx' E' w' q1 q2 q3 q4)
 | false =>
  rw [hb] at hk;exact ⟨λ_ _=>trivial,h2 hb hk⟩
end
end Go.Ev
namespace Go.Ev
open Go
section
variable {ops:Array Oper} {D D' pre:List Ent} {S S':Nat->Bool} {t:Nat}
theorem za8 (h:∀ e∈D,e.dst=some t->S e.j=true):jG (D.filter λe=>S e.j) t=jG D t:=by
 induction D with
 | nil=>rfl
 | cons e D ih =>
  have ih:=ih λx hx=>h x (Zam _ hx);by_cases hd:e.dst=some t
  .have hs:=h e (Zai ..) hd;simp only [Zcd,hs,if_true];rw [j6 hd,j6 hd]
  .rw [j9 hd];simp only [Zcd];split
   .rw [j9 hd];exact ih
   .exact ih
theorem za9 (h:∀ e∈pre,e.dst=some t->S e.j=false):jG ((pre++D).filter λe=>S e.j) t=jG (D.filter λe=>S e.j) t:=by
 induction pre with
 | nil=>rfl
 | cons e pre ih =>
  have ih:=ih λx hx=>h x (Zam _ hx);rw [Zbs];simp only [Zcd];split
  .rename_i hs;rw [j9 (λhd=>by have:=h e (Zai ..) hd;rw [this] at hs;cases hs)];exact ih
  .exact ih
theorem zhc (h:∀ e∈D,e.dst=some t->S e.j=S' e.j):jG (D.filter λe=>S e.j) t=jG (D.filter λe=>S' e.j) t:=by
 induction D with
 | nil=>rfl
 | cons e D ih =>
  have ih:=ih λx hx=>h x (Zam _ hx);simp only [Zcd];by_cases hd:e.dst=some t
  .rw [h e (Zai ..) hd];split
   .rw [j6 hd,j6 hd]
   .exact ih
  .split <;> split <;> simp only [j9 hd,ih]
def inD (D:List Ent) (i:Nat):Prop:=∃ e∈D,e.j=i
def DOk (ops:Array Oper) (D:List Ent):Prop :=
 ∀ pre e D',D=pre++e::D'->(∃ o,ops[e.j]? = some o/\e.dst=o.dst)/\(∀ i,((nW ops.toList []).getD e.j 0).testBit i=true->inD D' i)/\¬ inD D' e.j
theorem p8 (hc:dB ops (nW ops.toList [])=true) {i j:Nat} {x y:Oper} (hx:ops[i]? = some x) (hy:ops[j]? = some y) (hij:i≠j) (hd:x.dst=some t) (hn:y.dst=some t\/t∈y.looksAt ops) :
  ((nW ops.toList []).getD j 0).testBit i=true\/((nW ops.toList []).getD i 0).testBit j=true:=by
 unfold dB at hc;rw [Zaw] at hc;have hi:i<ops.size:=(Zgy.1 hx).1;have hj:j<ops.size:=(Zgy.1 hy).1;have hmem:t∈cS ops y:=by
  unfold cS;rw [Zbb];rcases hn with hn | hn
  .exact .inl (by rw [hn];simp)
  .exact .inr hn
 have hany:(cS ops y).any (Nat.beq t)=true:=Zft.2 ⟨t,hmem,Zbz t⟩;have h1:x.dst.any (λt=>(cS ops y).any (Nat.beq t))=true:=by rw [hd];exact hany
 rcases Nat.lt_or_gt_of_ne hij with hlt | hlt
 .have h:=hc j (by simp [hj]);simp only [hy,Zaw] at h;have h:=h i (by simp [hlt]);simp only [hx] at h;have hcl:zau ops x y=true:=by unfold zau;rw [h1];rfl
  rw [hcl] at h;exact .inl h
 .have h:=hc i (by simp [hi]);simp only [hx,Zaw] at h;have h:=h j (by simp [hlt]);simp only [hy] at h;have hcl:zau ops y x=true:=by unfold zau;rw [h1,Bool.or_true]
  rw [hcl] at h;exact .inr h
theorem zba (hc:dB ops (nW ops.toList [])=true) (hD:DOk ops (pre++D')) {j:Nat} {o:Oper} (ho:ops[j]? = some o) (hS:S j=false) (oZ:∀ i,((nW ops.toList []).getD j 0).testBit i=true->S i=true)
  (hSc:∀ k,S k=true->((nW ops.toList []).getD k 0).testBit j=true->S j=true) (hDj:¬ inD D' j) (hpre:∀ e∈pre,((nW ops.toList []).getD j 0).testBit e.j=false) (hn:o.dst=some t\/t∈o.looksAt ops) :
  jG ((pre++D').filter λe=>S e.j) t=jG D' t:=by
 have hfor:∀ (p q:List Ent) (e:Ent),pre++D'=p++e::q->e.dst=some t->e.j≠j->((nW ops.toList []).getD j 0).testBit e.j=true\/((nW ops.toList []).getD e.j 0).testBit j=true:=by
  intro p q e he hd hne;obtain ⟨⟨x,hx,hxd⟩,_,_⟩:=hD p e q he;exact p8 hc hx ho hne (by rw [<- hxd];exact hd) hn
 rw [za9,za8]
 .intro e he hd;obtain ⟨p,q,hpq⟩:=Zcq he;have hne:e.j≠j:=λh=>hDj ⟨e,he,h⟩;rcases hfor (pre++p) q e (by rw [hpq];simp) hd hne with h | h
  .exact oZ _ h
  .obtain ⟨_,h2,_⟩:=hD (pre++p) e q (by rw [hpq];simp);obtain ⟨e',h3,h4⟩:=h2 j h;exact absurd ⟨e',by rw [hpq];exact Zda _ (Zam _ h3),h4⟩ hDj
 .intro e he hd;by_cases hne:e.j=j
  .rw [hne];exact hS
  .obtain ⟨p,q,hpq⟩:=Zcq he;rcases hfor p (q++D') e (by rw [hpq];simp) hd hne with h | h
   .rw [hpre e he] at h;cases h
   .cases hb:S e.j with
    | false=>rfl
    | true=>have:=hSc e.j hb h;rw [hS] at this;cases this
theorem zjv (h:∀ e∈pre,e.dst≠some t):jG (pre++D) t=jG D t:=by
 induction pre with
 | nil=>rfl
 | cons e pre ih =>
  rw [Zbs,j9 (h e (Zai ..))];exact ih λx hx=>h x (Zam _ hx)
theorem any_beq {fr:List Nat} {y:Nat}:fr.any (Nat.beq y)=true↔y∈fr:=by
 rw [Zft];constructor
 .rintro ⟨x,hx,he⟩;rw [yM he];exact hx
 .intro h;exact ⟨y,h,Zbz y⟩
theorem zqg {fr:List Nat} {y:Nat} (h:y∉fr):fr.any (Nat.beq y)=false:=by
 cases hq:fr.any (Nat.beq y) with
 | false=>rfl
 | true=>exact absurd (any_beq.1 hq) h
theorem zbb {a d:Nat}:Nat.beq (a &&& d) a=true↔∀ i,a.testBit i=true->d.testBit i=true:=by
 constructor
 .intro h i hi;have h:=yM h;rw [<- h,Nat.testBit_and,Zap] at hi;exact hi.2
 .intro h;refine aZ (Nat.eq_of_testBit_eq λi => ?_);rw [Nat.testBit_and];cases hi:a.testBit i with
  | false=>rfl
  | true=>rw [h i hi];rfl
theorem oG {a d:Nat} (h:Nat.beq (a &&& d) d=true) {i:Nat} (hi:d.testBit i=true):a.testBit i=true:=by
 have h:=yM h;rw [<- h,Nat.testBit_and,Zap] at hi;exact hi.1
theorem zfc {d y i:Nat} (h:d.testBit i=true):(d ||| 2 ^ y).testBit i=true:=by rw [Zeo,h];rfl
theorem d9 (d y:Nat):(d ||| 2 ^ y).testBit y=true:=by rw [Zeo,Nat.testBit_two_pow_self,Bool.or_true]
section
variable {an fr:List Nat}
theorem q0 {y c:Nat} {l:List (Nat×Nat)} {done uw qc fp:Nat} (hp:u9 ops an fr ((y,c)::l) done uw qc fp=true) :
  ∃ eu eD fp',u9 ops an fr l (done ||| 2 ^ y) eu eD fp'=true/\(∀ i,uw.testBit i=true->eu.testBit i=true)/\(∀ i,qc.testBit i=true->eD.testBit i=true) /\
   ((gJ ops y=true/\y∈fr/\eu=(uw ||| 2 ^ y)/\eD=qc/\fp'=(fp ||| 2 ^ y)) \/
    (gJ ops y=true/\y∉fr/\eu=(uw ||| 2 ^ y)/\eD=(qc ||| 2 ^ y)/\fp'=0/\(∀ i,qc.testBit i=true->(an.getD y 0).testBit i=true)/\(∀ i,fp.testBit i=true->(an.getD y 0).testBit i=true)) \/
    (gJ ops y=false/\eu=uw/\eD=qc/\fp'=fp/\(∀ i,uw.testBit i=true->(an.getD y 0).testBit i=true)/\((l.filter λz=>gJ ops z.1).drop c).all (λz=>(an.getD z.1 0).testBit y)=true)):=by
 simp only [u9,Zap] at hp;obtain ⟨_,hp⟩:=hp;cases hy:gJ ops y with
 | true =>
  rw [hy] at hp;simp only [cond_true] at hp;by_cases hf:y∈fr
  .rw [any_beq.2 hf] at hp;simp only [cond_true] at hp;exact ⟨_,_,_,hp,λi hi=>zfc hi,λi hi=>hi,.inl ⟨rfl,hf,rfl,rfl,rfl⟩⟩
  .rw [zqg hf] at hp;simp only [cond_false,Zap] at hp;obtain ⟨⟨h1,h2⟩,h3⟩:=hp;exact ⟨_,_,_,h3,λi hi=>zfc hi,λi hi=>zfc hi,.inr (.inl ⟨rfl,hf,rfl,rfl,rfl,λi hi=>oG h1 hi,λi hi=>oG h2 hi⟩)⟩
 | false =>
  rw [hy] at hp;simp only [cond_false,Zap] at hp;obtain ⟨⟨h1,h2⟩,h3⟩:=hp;exact ⟨_,_,_,h3,λi hi=>hi,λi hi=>hi,.inr (.inr ⟨rfl,rfl,rfl,rfl,λi hi=>oG h1 hi,h2⟩)⟩
theorem pS {y c:Nat} {l:List (Nat×Nat)} {done uw qc fp:Nat} (hp:u9 ops an fr ((y,c)::l) done uw qc fp=true) :
  (∀ i,(an.getD y 0).testBit i=true->done.testBit i=true)/\done.testBit y=false/\y<ops.size:=by
 simp only [u9,Zap] at hp;obtain ⟨⟨⟨h1,h2⟩,h3⟩,_⟩:=hp;exact ⟨zbb.1 h1,by simpa using h2,yG h3⟩
theorem zqh:∀ {l:List (Nat×Nat)} {done uw qc fp x:Nat},u9 ops an fr l done uw qc fp=true->uw.testBit x=true->∀ z∈l,gJ ops z.1=false->(an.getD z.1 0).testBit x=true
 | [],_,_,_,_,_,_,_,z,hz,_=>by cases hz
 |(y,c)::l,done,uw,qc,fp,x,hp,hx,z,hz,hw=>by
  obtain ⟨wd,cd,f,h1,h2,h3,h4⟩:=q0 hp;rcases Zaq.1 hz with rfl | hz
  .rcases h4 with ⟨q,_⟩ | ⟨q,_⟩ | ⟨_,_,_,_,q,_⟩
   .rw [hw] at q;cases q
   .rw [hw] at q;cases q
   .exact q x hx
  .exact zqh h1 (h2 x hx) z hz hw
theorem zjw:∀ {l:List (Nat×Nat)} {done uw qc fp x:Nat},u9 ops an fr l done uw qc fp=true->qc.testBit x=true->∀ z∈l,gJ ops z.1=true->z.1∉fr->(an.getD z.1 0).testBit x=true
 | [],_,_,_,_,_,_,_,z,hz,_,_=>by cases hz
 |(y,c)::l,done,uw,qc,fp,x,hp,hx,z,hz,hw,hf=>by
  obtain ⟨wd,cd,f,h1,h2,h3,h4⟩:=q0 hp;rcases Zaq.1 hz with rfl | hz
  .rcases h4 with ⟨_,q,_⟩ | ⟨_,_,_,_,_,q,_⟩ | ⟨q,_⟩
   .exact absurd q hf
   .exact q x hx
   .rw [hw] at q;cases q
  .exact zjw h1 (h3 x hx) z hz hw hf
theorem zqi:∀ {l:List (Nat×Nat)} {done uw qc fp x:Nat},u9 ops an fr l done uw qc fp=true->fp.testBit x=true->∀ z∈l,gJ ops z.1=true->z.1∉fr ->
  (an.getD z.1 0).testBit x=true\/∃ u∈l,gJ ops u.1=true/\u.1∉fr/\(an.getD z.1 0).testBit u.1=true
 | [],_,_,_,_,_,_,_,z,hz,_,_=>by cases hz
 |(y,c)::l,done,uw,qc,fp,x,hp,hx,z,hz,hw,hf=>by
  obtain ⟨wd,cd,f,h1,h2,h3,h4⟩:=q0 hp;have lift:∀ {f'},u9 ops an fr l (done ||| 2 ^ y) wd cd f'=true->f'.testBit x=true->z∈l->(an.getD z.1 0).testBit x=true\/∃ u∈(y,c)::l,gJ ops u.1=true/\u.1∉fr/\(an.getD z.1 0).testBit u.1=true:=by
   intro f' hp' hx' hz';rcases zqi hp' hx' z hz' hw hf with q | ⟨u,q1,q2⟩
   .exact .inl q
   .exact .inr ⟨u,Zam _ q1,q2⟩
  rcases h4 with ⟨q1,q2,_,_,q5⟩ | ⟨q1,q2,_,q4,_,_,q7⟩ | ⟨q1,_,_,q4,_⟩
  .rcases Zaq.1 hz with rfl | hz
   .exact absurd q2 hf
   .exact lift h1 (by rw [q5];exact zfc hx) hz
  .rcases Zaq.1 hz with rfl | hz
   .exact .inl (q7 x hx)
   .exact .inr ⟨(y,c),Zai ..,q1,q2,zjw h1 (by rw [q4];exact d9 _ _) z hz hw hf⟩
  .rcases Zaq.1 hz with rfl | hz
   .rw [hw] at q1;cases q1
   .exact lift h1 (by rw [q4];exact hx) hz
theorem zbc:∀ {l:List (Nat×Nat)} {done uw qc fp:Nat},u9 ops an fr l done uw qc fp=true->∀ z∈l,done.testBit z.1=false
 | [],_,_,_,_,_,_,hz=>by cases hz
 |(y,c)::l,done,uw,qc,fp,hp,z,hz=>by
  obtain ⟨_,_,_,h1,_⟩:=q0 hp;rcases Zaq.1 hz with rfl | hz
  .exact (pS hp).2.1
  .have:=zbc h1 z hz;rw [Zeo,Zeq] at this;exact this.1
end
end
end Go.Ev
namespace Go.Ev
open Go
section
variable {β:Type} {P:Program} {B:Nat} {E:Env} {loc st st':List Nat} {N:Nat} {tv0:T AV} {D D' pre:List Ent} {tm:Tm} {a:Act} {h:T Blk} {nx:Pa} {w:World} {C:Calls β} {r:β} {ops:Array Oper} {o:Oper} {S S':Nat->Bool}
theorem qcr {x:RO} (hro:roA P loc st N ops o=some (x,st')) (hx:isW x=false):∃ op d g,poA P loc st o.op=some op/\aG loc st N o.dst=some (d,st')/\qP loc st ops o=some g /\
  ∀ (xs:List (RO×Nat×List WO)) (c:Nat) (cs:List WO) (ps:List aD) (C:Calls β) (tm:Tm) (h:T Blk) (nx:Pa) (K:Kr β),evD ((x,c,cs)::xs) ps C tm h nx K =
   bif jT g tm then op.ev tm h (λv=>sV d v tm λtm'=>aF cs tm' (evD xs (addP c op tm v ps) C tm' h nx K)) else sV d .u tm λtm'=>aF cs tm' (evD xs ps C tm' h nx K):=by
 unfold roA at hro;split at hro
 .rename_i g d st₁ hg hd;split at hro
  .rename_i p hp;split at hro
   .cases hro
    refine ⟨p,.push,none,hp,hd,hg,λxs c cs ps C tm h nx K => ?_⟩;simp only [jT,cond_true,pQ]
    rfl
   .cases hro
    exact ⟨p,_,none,hp,hd,hg,λxs c cs ps C tm h nx K=>rfl⟩
   .cases hro
    exact ⟨p,_,_,hp,hd,hg,λxs c cs ps C tm h nx K=>by
     cases c with
     | zero=>exact zxa _ _ _ _
     | succ c=>rfl⟩
  .split at hro
   .cases hro;cases hx
   .cases hro
 .cases hro
theorem zxd {x:RO} (hro:roA P loc st N ops o=some (x,st')) (hx:isW x=true):∃ op d g,woA P loc st o.op=some op/\aG loc st N o.dst=some (d,st')/\qP loc st ops o=some g /\
  ∀ (xs:List (RO×Nat×List WO)) (c:Nat) (cs:List WO) (ps:List aD) (C:Calls β) (tm:Tm) (h:T Blk) (nx:Pa) (K:Kr β),evD ((x,c,cs)::xs) ps C tm h nx K =
   bif jT g tm then op.ev C tm h nx (λv h' nx'=>wI h' ps (sV d v tm λtm'=>aF cs tm' (evD xs (oF ps) C tm' h' nx' K))) else sV d .u tm λtm'=>aF cs tm' (evD xs (oF ps) C tm' h nx K):=by
 unfold roA at hro;split at hro
 .rename_i g d st₁ hg hd;split at hro
  .rename_i p hp;split at hro <;> (cases hro;cases hx)
  .split at hro
   .cases hro
    exact ⟨_,_,_,by assumption,hd,hg,λxs c cs ps C tm h nx K=>zxb g tm (λk=>WO.ev _ C tm h nx λv h' nx'=>wI h' ps (k v h' nx')) h nx (λv h' nx'=>sV d v tm λtm'=>aF cs tm' (evD xs (oF ps) C tm' h' nx' K))⟩
   .cases hro
 .cases hro
theorem nB {cs:List WO} {tm:Tm} {k:Out β} (h:aF cs tm k=.ok r):(∀ o∈cs,mkB o tm=true)/\k=.ok r:=by
 cases cs with
 | nil=>exact ⟨λ_ q=>(by cases q),h⟩
 | cons c cs =>
  obtain ⟨h1,h2⟩:=jD h;exact ⟨Zaw.1 h1,h2⟩
theorem mN:∀ {ps:List aD} {k:Out β},wI h ps k=.ok r->k=.ok r/\∀ p∈ps,∀ K':AV->Out β,p.op.ev p.tm h K'=K' p.v
 | [],k,hk=>⟨hk,by simp⟩
 | p::ps,k,hk=>by
  unfold wI at hk;obtain ⟨v,hv,hk2⟩:=zg8 hk;obtain ⟨he,hk3⟩:=jD hk2;have he:=dF he;subst he;obtain ⟨h1,h2⟩:=mN hk3;refine ⟨h1,λq hq => ?_⟩;rcases Zaq.1 hq with rfl | hq
  .exact hv
  .exact h2 q hq
theorem bU {op:PO} {tm:Tm} {v:AV} {c:Nat} (hc:c≠0):∀ {ps:List aD},⟨op,tm,v,c+1⟩∈ps->⟨op,tm,v,c⟩∈oF ps
 | p::ps,hm=>by
  unfold oF;rcases Zaq.1 hm with rfl | hm
  .have hb:Nat.ble (c+1) 1=false:=bleF (by omega);simp only [hb,cond_false];exact Zai ..
  .have ih:=bU hc hm;cases Nat.ble p.n 1 with
   | true=>exact ih
   | false=>exact Zam _ ih
theorem xY {dst:Option Nat} {t:Nat} {v:Value} (ht:dst≠some t):(a.put dst v).tmps.getD t undef=a.tmps.getD t undef:=by
 cases dst with
 | none=>rfl
 | some u =>
  show (a.tmps.setIfInBounds u v).getD t undef=_;simp only [Zbq,Zhi];rw [if_neg (by intro q;exact ht (by rw [q]))]
theorem zlk {e:Ent} {t:Nat} {dst:Option Nat} (hr:dst≠some t->RVt E loc tv0 ((pre++e::D').filter λx=>S x.j) a t) (hN:a.tmps.size=N) {d:Dst} (hd:aG loc st N dst=some (d,st')) (hed:e.dst=dst) (hS':∀ i,S' i=(S i||i==e.j)) {v:Value} (hv:VR E e.av v)
  (hD:¬ inD pre e.j/\¬ inD D' e.j) (hpre:∀ t,dst=some t->∀ x∈pre,x.dst=some t->S x.j=false):RVt E loc tv0 ((pre++e::D').filter λx=>S' x.j) (a.put dst v) t:=by
 by_cases ht:dst=some t
 .subst ht;have hlt:t<a.tmps.size:=by
   simp only [aG] at hd;split at hd
   .have:=yG (by assumption);omega
   .have:=yG (by assumption);omega
   .cases hd
  have hw:jG ((pre++e::D').filter λx=>S' x.j) t=some e.av:=by
   rw [za9]
   .have he:S' e.j=true:=by rw [hS'];simp
    simp only [Zcd,he,if_true];exact j6 hed
   .intro x hx hxd;rw [hS',hpre t rfl x hx hxd];have:x.j≠e.j:=λq=>hD.1 ⟨x,hx,q⟩;simpa using this
  have hval:(a.put (some t) v).tmps.getD t undef=v:=by
   show (a.tmps.setIfInBounds t v).getD t undef=v;rw [wO hlt,if_pos rfl]
  unfold RVt;rw [hw,hval];exact ⟨λx hx=>by cases hx;exact hv,λhn=>by cases hn⟩
 .have hw:jG ((pre++e::D').filter λx=>S' x.j) t=jG ((pre++e::D').filter λx=>S x.j) t:=by
   refine zhc λx hx hxd => ?_;rw [hS'];have hne:x.j≠e.j:=by
    intro q;rcases Zbb.1 hx with hx | hx
    .exact hD.1 ⟨x,hx,q⟩
    .rcases Zaq.1 hx with rfl | hx
     .exact ht (by rw [<- hed];exact hxd)
     .exact hD.2 ⟨x,hx,q⟩
   have:(x.j==e.j)=false:=by simpa using hne
   rw [this,Zgo]
  exact ((hr ht).zfb hw).zqe (xY ht)
end
end Go.Ev
namespace Go.Ev
open Go
section
variable {β:Type}
def eZ (P:Program) (β:Type) (loc:List Nat) (N:Nat) (ops:Array Oper) (tv0:T AV) (h:T Blk) (ps:List aD) (D:List Ent) (e:Ent) (c:Nat):Prop :=
 ∃ (o:Oper) (st st':List Nat) (d:Dst) (g:Option (Arg×Bool)) (op:PO) (tm:Tm),ops[e.j]? = some o/\e.dst=o.dst/\poA P loc st o.op=some op/\aG loc st N o.dst=some (d,st')/\qP loc st ops o=some g/\CAN loc st tv0 D tm /\
  ((jT g tm=true/\(∀ K':AV->Out β,op.ev tm h K'=K' e.av)/\(c≠0->⟨op,tm,e.av,c⟩∈ps))\/(jT g tm=false/\e.av=.u))
theorem eZ.rec {P:Program} {loc:List Nat} {N:Nat} {ops:Array Oper} {tv0:T AV} {h:T Blk} {ps:List aD} {D:List Ent} {e:Ent} {c:Nat} (p:eZ P β loc N ops tv0 h ps D e c):PRec P β loc N ops tv0 h D e:=by
 obtain ⟨o,st,st',d,g,op,tm,h1,h2,h3,h4,h5,h6,h7⟩:=p;refine ⟨o,st,st',d,g,op,tm,h1,h2,h3,h4,h5,h6,?_⟩;rcases h7 with ⟨q1,q2,_⟩ | q
 .exact .inl ⟨q1,q2⟩
 .exact .inr q
theorem eZ.more {P:Program} {loc:List Nat} {N:Nat} {ops:Array Oper} {tv0:T AV} {h:T Blk} {ps ps':List aD} {D:List Ent} {e:Ent} {c:Nat} (p:eZ P β loc N ops tv0 h ps D e c) (hps:∀ x∈ps,x∈ps'):eZ P β loc N ops tv0 h ps' D e c:=by
 obtain ⟨o,st,st',d,g,op,tm,h1,h2,h3,h4,h5,h6,h7⟩:=p;refine ⟨o,st,st',d,g,op,tm,h1,h2,h3,h4,h5,h6,?_⟩;rcases h7 with ⟨q1,q2,q3⟩ | q
 .exact .inl ⟨q1,q2,λhc=>hps _ (q3 hc)⟩
 .exact .inr q
def Sb (listed:Array Bool) (i:Nat):Bool:=listed.getD i false
abbrev anO (ops:Array Oper):List Nat:=nW ops.toList []
def zqj (P:Program) (loc:List Nat) (ops:Array Oper) (tv0:T AV) (D:List Ent) (f:Nat):Prop :=
 ∃ (pre Dc:List Ent) (st:List Nat) (tm:Tm) (o:Oper) (op:WO),D=pre++Dc/\CAN loc st tv0 Dc tm/\ops[f]? = some o/\woA P loc st o.op=some op/\mkB op tm=true/\∀ e∈pre,((anO ops).getD f 0).testBit e.j=false
def zbd (P:Program) (B:Nat) (loc:List Nat) (ops:Array Oper) (tv0:T AV) (E:Env) (w0 w:World) (a:Act) (D:List Ent) (f b:Nat):Prop :=
 ∃ (pre Dc:List Ent) (o:Oper) (aτ:Act) (wτ:World) (obj:Obj) (v:Value),D=pre++Dc/\ops[f]? = some o/\(∀ e∈pre,((anO ops).getD f 0).testBit e.j=false)/\(∀ t∈o.looksAt ops,RVt E loc tv0 Dc aτ t) /\
  wτ.heap.size=b/\(execOp aτ.eval o).run P wτ=.ok (.value v) (wτ.alloc obj)/\w.heap[b]? = some obj/\w0.heap.size<=b/\B<=b/\(∀ id n,E id≠some (b,n))/\(∀ i u,E.fz b i≠some u)/\(∀ t,o.dst=some t->a.tmps.getD t undef=v)
structure Inv (P:Program) (B:Nat) (E0:Env) (w0:World) (loc:List Nat) (N:Nat) (ops:Array Oper) (fr:List Nat) (tv0:T AV) (C:Calls β) (K:Kr β) (r:β) (d0:List Deferred) (listed:Array Bool) (a:Act) (w:World)
  (E:Env) (h:T Blk) (nx:Pa) (tm:Tm) (st:List Nat) (D:List Ent) (ps:List aD) (l:List (Nat×Nat)) (xs:List (RO×Nat×List WO)) (done uw qc fp:Nat) (bs:Nat->Nat):Prop where
 szl:listed.size=ops.size
 sub:∀ i,Sb listed i=true->inD D i\/i∈fr
 wsub:∀ e∈D,gJ ops e.j=true->Sb listed e.j=true
 clo:Closed ops λi=>Sb listed i=true
 xl:rosP P loc N ops (anO ops) fr l st done=some xs
 pok:u9 ops (anO ops) fr l done uw qc fp=true
 dn:∀ i,done.testBit i=true↔inD D i
 wdn:∀ i,inD D i->gJ ops i=true->uw.testBit i=true
 cover:∀ i,i<ops.size->inD D i\/∃ c,(i,c)∈l
 dok:DOk ops D
 pend:∀ pre e D',D=pre++e::D'->Sb listed e.j=false->∃ c,(((l.filter λz=>gJ ops z.1).drop c).all λz=>((anO ops).getD z.1 0).testBit e.j)=true/\eZ P β loc N ops tv0 h ps D' e c
 can:CAN loc st tv0 D tm
 rv:∀ t,(∀ f o,Sb listed f=true->¬ inD D f->ops[f]? = some o->o.dst≠some t)->RVt E loc tv0 (D.filter λe=>Sb listed e.j) a t
 em:∀ f,Sb listed f=true->¬ inD D f->zbd P B loc ops tv0 E w0 w a D f (bs f)
 emi:∀ f f',Sb listed f=true->¬ inD D f->Sb listed f'=true->¬ inD D f'->bs f=bs f'->f=f'
 ck:∀ f∈fr,¬ inD D f->(∀ i,((anO ops).getD f 0).testBit i=true->inD D i)->zqj P loc ops tv0 D f
 sz:a.tmps.size=N
 df:a.defers=d0
 hr:HR P B E h nx w
 ex:Ex E0 E w0 w
 ev:evD xs ps C tm h nx K=.ok r
variable {P:Program} {B:Nat} {E0:Env} {w0:World} {loc:List Nat} {N:Nat} {ops:Array Oper} {fr:List Nat} {tv0:T AV} {C:Calls β} {K:Kr β} {r:β} {d0:List Deferred} {listed:Array Bool} {a:Act} {w:World}
theorem cM {an:List Nat} {y c:Nat} {l:List (Nat×Nat)} {st:List Nat} {xs:List (RO×Nat×List WO)} {done:Nat} (h:rosP P loc N ops an fr ((y,c)::l) st done=some xs) :
  ∃ o x st' cs xs',ops[y]? = some o/\roA P loc st N ops o=some (x,st')/\isW x=zc7 o.op/\chkA P loc ops st' (nowA an fr done (done ||| 2 ^ y))=some cs/\rosP P loc N ops an fr l st' (done ||| 2 ^ y)=some xs'/\xs=(x,c,cs)::xs':=by
 unfold rosP at h;split at h
 .rename_i o ho;split at h
  .rename_i x st' hx;cases hq:(isW x==zc7 o.op) with
   | false=>rw [hq] at h;cases h
   | true =>
    rw [hq] at h;simp only [cond_true] at h;split at h
    .rename_i cs xs' hcs hxs;cases h
     exact ⟨o,x,st',cs,xs',ho,hx,by simpa using hq,hcs,hxs,rfl⟩
    .cases h
  .cases h
 .cases h
theorem zhd {an:List Nat}:∀ {l:List (Nat×Nat)} {st:List Nat} {xs:List (RO×Nat×List WO)} {done:Nat},rosP P loc N ops an fr l st done=some xs->∀ z∈l,∃ o x st1 st2,ops[z.1]? = some o/\roA P loc st1 N ops o=some (x,st2)
 | [],_,_,_,_,z,hz=>by cases hz
 |(y,c)::l,st,xs,done,h,z,hz=>by
  obtain ⟨o,x,st',cs,xs',h1,h2,_,_,h5,_⟩:=cM h;rcases Zaq.1 hz with rfl | hz
  .exact ⟨o,x,st,st',h1,h2⟩
  .exact zhd h5 z hz
theorem zbe {st:List Nat}:∀ {fs:List Nat} {cs:List WO},chkA P loc ops st fs=some cs->∀ f∈fs,∃ o op,ops[f]? = some o/\woA P loc st o.op=some op/\op∈cs
 | [],_,_,f,hf=>by cases hf
 | g::fs,cs,h,f,hf=>by
  unfold chkA at h;rw [Zcb] at h;cases ho:chkO P loc ops st g with
  | none=>simp [ho] at h
  | some op =>
   cases hl:fs.mapM (chkO P loc ops st) with
   | none=>simp [ho,hl] at h
   | some cs' =>
    simp [ho,hl] at h;subst h;rcases Zaq.1 hf with rfl | hf
    .unfold chkO at ho;split at ho
     .rename_i o hq;exact ⟨o,op,hq,ho,Zai ..⟩
     .cases ho
    .obtain ⟨o',op',q1,q2,q3⟩:=zbe (st:=st) hl f hf;exact ⟨o',op',q1,q2,Zam _ q3⟩
theorem cZ {an:List Nat} {f:Nat} (h:oW ops an f=true):∃ o,ops[f]? = some o/\isMk o.op=true/\o.guard=none/\∀ i,(an.getD f 0).testBit i=true->ze4 ops i=false:=by
 unfold oW at h;cases ho:ops[f]? with
 | none=>rw [ho] at h;cases h
 | some o =>
  rw [ho] at h;simp only [Zap] at h;obtain ⟨⟨⟨h1,h2⟩,h3⟩,_⟩:=h;refine ⟨o,rfl,h1,by cases hg:o.guard <;> simp_all,λi hi => ?_⟩;rw [Zaw] at h3;by_cases hlt:i<ops.size
  .have:=h3 i (by simp [hlt]);rw [hi] at this;simpa using this
  .unfold ze4;rw [Array.getElem?_eq_none (by omega)]
theorem zy9 {o:Op} (h:isMk o=true):zc7 o=true:=by cases o <;> first | rfl | cases h
theorem zza {an:List Nat} {f:Nat} (h:oW ops an f=true):gJ ops f=true:=by
 obtain ⟨o,h1,h2,_⟩:=cZ h;simp [gJ,h1,zy9 h2]
theorem zhe {an:List Nat} {f g:Nat} (h:oW ops an f=true) (hg:oW ops an g=true):(an.getD f 0).testBit g=false:=by
 obtain ⟨_,_,_,_,h4⟩:=cZ h;obtain ⟨o,h1,h2,_⟩:=cZ hg;cases hq:(an.getD f 0).testBit g with
 | false=>rfl
 | true=>have:=h4 g hq;simp only [ze4,h1,h2] at this;cases this
theorem DOk.cons {D:List Ent} (hD:DOk ops D) {e:Ent} {o:Oper} (ho:ops[e.j]? = some o) (hd:e.dst=o.dst) (ha:∀ i,((nW ops.toList []).getD e.j 0).testBit i=true->inD D i) (hn:¬ inD D e.j):DOk ops (e::D):=by
 intro pre x D' hx;cases pre with
 | nil=>cases hx;exact ⟨⟨o,ho,hd⟩,ha,hn⟩
 | cons y pre =>
  rw [Zbs] at hx;cases hx
  exact hD pre x D' rfl
theorem qF {done y i:Nat}:(done ||| 2 ^ y).testBit i=true↔done.testBit i=true\/i=y:=by
 rw [Zeo,Zdm,Nat.testBit_two_pow];constructor
 .rintro (h | h)
  .exact .inl h
  .exact .inr (of_decide_eq_true h).symm
 .rintro (h | h)
  .exact .inl h
  .exact .inr (Zac h.symm)
theorem uh {e:Ent} {D:List Ent} {i:Nat}:inD (e::D) i↔inD D i\/i=e.j:=by
 constructor
 .rintro ⟨x,hx,rfl⟩;rcases Zaq.1 hx with rfl | hx
  .exact .inr rfl
  .exact .inl ⟨x,hx,rfl⟩
 .rintro (⟨x,hx,rfl⟩ | rfl)
  .exact ⟨x,Zam _ hx,rfl⟩
  .exact ⟨e,Zai ..,rfl⟩
theorem zbf {y:Nat} {o:Oper} (ho:ops[y]? = some o):gJ ops y=zc7 o.op:=by simp [gJ,ho]
theorem zjx {d y i:Nat}:(d ||| 2 ^ y).testBit i=true↔d.testBit i=true\/i=y:=qF
theorem zfd (hfr:∀ f∈fr,oW ops (anO ops) f=true) {D:List Ent} {done y:Nat} (dn:∀ i,done.testBit i=true↔inD D i) (hy:¬ inD D y) (ck:∀ f∈fr,¬ inD D f->(∀ i,((anO ops).getD f 0).testBit i=true->inD D i)->zqj P loc ops tv0 D f)
  {st':List Nat} {tm':Tm} {cs:List WO} (hcs:chkA P loc ops st' (nowA (anO ops) fr done (done ||| 2 ^ y))=some cs) (hm:∀ o∈cs,mkB o tm'=true) {dst:Option Nat} {av:AV} (hcan:CAN loc st' tv0 (⟨y,dst,av⟩::D) tm') :
  ∀ f∈fr,¬ inD (⟨y,dst,av⟩::D) f->(∀ i,((anO ops).getD f 0).testBit i=true->inD (⟨y,dst,av⟩::D) i)->zqj P loc ops tv0 (⟨y,dst,av⟩::D) f:=by
 intro f hf hnf han;by_cases hold:∀ i,((anO ops).getD f 0).testBit i=true->inD D i
 .obtain ⟨pre,Dc,st,tm,o,op,q1,q2,q3,q4,q5,q6⟩:=ck f hf (λq=>hnf (uh.2 (.inl q))) hold;refine ⟨⟨y,dst,av⟩::pre,Dc,st,tm,o,op,by rw [q1];rfl,q2,q3,q4,q5,λe he => ?_⟩;rcases Zaq.1 he with rfl | he
  .cases hq:((anO ops).getD f 0).testBit y with
   | false=>rfl
   | true=>exact absurd (hold y hq) hy
  .exact q6 e he
 .have hnow:f∈nowA (anO ops) fr done (done ||| 2 ^ y):=by
   unfold nowA;rw [Zbr];refine ⟨hf,?_⟩;rw [Zap];refine ⟨zbb.2 λi hi=>zjx.2 ?_,?_⟩
   .rcases uh.1 (han i hi) with q | q
    .exact .inl ((dn i).2 q)
    .exact .inr q
   .cases hq:Nat.beq ((anO ops).getD f 0 &&& done) ((anO ops).getD f 0) with
    | false=>rfl
    | true=>exact absurd (λi hi=>(dn i).1 (zbb.1 hq i hi)) hold
  obtain ⟨o,op,q1,q2,q3⟩:=zbe hcs f hnow;exact ⟨[],_,st',tm',o,op,rfl,hcan,q1,q2,hm op q3,λe he=>by cases he⟩
theorem qV {b:Nat} {o:Obj} (h:w.heap[b]? = some o):b<w.heap.size:=(Zgy.1 h).1
theorem zbd.keep {E E':Env} {w':World} {D:List Ent} {f b:Nat} (h:zbd P B loc ops tv0 E w0 w a D f b) (X:Ex E E' w w') {a':Act} (ha:∀ o t,ops[f]? = some o->o.dst=some t->a'.tmps.getD t undef=a.tmps.getD t undef):zbd P B loc ops tv0 E' w0 w' a' D f b:=by
 obtain ⟨pre,Dc,o,aτ,wτ,obj,v,h1,h2,h3,h4,h5,h6,h7,h8,h9,h10,h11,h12⟩:=h;have hlt:=qV h7;refine ⟨pre,Dc,o,aτ,wτ,obj,v,h1,h2,h3,λt ht=>(h4 t ht).mono X.le,h5,h6,by rw [X.keep b hlt h10];exact h7,h8,h9,λid n hid => ?_,λi u hu => ?_,λt ht=>by rw [ha o t h2 ht];exact h12 t ht⟩
 .rcases X.new id b n hid with q | ⟨id',n',q⟩
  .omega
  .exact h10 id' n' q
 .rcases X.fzn b i u hu with q | ⟨v',q⟩ | ⟨id',n',q⟩
  .omega
  .exact h11 i v' q
  .exact h10 id' n' q
theorem zbd.more {E:Env} {D:List Ent} {f b:Nat} {e:Ent} (h:zbd P B loc ops tv0 E w0 w a D f b) (he:((anO ops).getD f 0).testBit e.j=false):zbd P B loc ops tv0 E w0 w a (e::D) f b:=by
 obtain ⟨pre,Dc,o,aτ,wτ,obj,v,h1,h2,h3,h4⟩:=h;refine ⟨e::pre,Dc,o,aτ,wτ,obj,v,by rw [h1];rfl,h2,λx hx => ?_,h4⟩;rcases Zaq.1 hx with rfl | hx
 .exact he
 .exact h3 x hx
theorem HR.zqk {E:Env} {h:T Blk} {nx:Pa} (H:HR P B E h nx w) {b n:Nat} {obj:Obj} {x:Blk} (ho:w.heap[b]? = some obj) (hB:B<=b) (hu:∀ id n,E id≠some (b,n)) (hf:∀ i u,E.fz b i≠some u) (hbr:BR P (E.put nx (b,n)) n x obj) :
  HR P B (E.put nx (b,n)) (T.set .no x nx h) nx.succ w:={
 blk id hid:=by
  by_cases e:id=nx
  .subst e;rw [T.get_set_same];exact ⟨_,_,obj,Env.ja _ _ _,ho,hbr⟩
  .rw [T.zk _ _ _ _ _ e] at hid ⊢;obtain ⟨b',n',o',h1,h2,h3⟩:=H.blk id hid;exact ⟨b',n',o',by rw [Env.vo _ _ e];exact h1,h2,h3.mono (Env.tY _ (H.fresh _ (Zaf _)))⟩
 inj id id' b' n' n'' h1 h2 h3 h4:=by
  by_cases e:id=nx
  .by_cases e':id'=nx
   .rw [e,e']
   .subst e;rw [Env.ja] at h3;rw [Env.vo _ _ e'] at h4;cases h3
    exact absurd h4 (hu _ _)
  .by_cases e':id'=nx
   .subst e';rw [Env.ja] at h4;rw [Env.vo _ _ e] at h3;cases h4
    exact absurd h3 (hu _ _)
   .rw [T.zk _ _ _ _ _ e] at h1;rw [T.zk _ _ _ _ _ e'] at h2;rw [Env.vo _ _ e] at h3;rw [Env.vo _ _ e'] at h4;exact H.inj id id' b' n' n'' h1 h2 h3 h4
 fresh id hid:=by
  rw [Pa.aj] at hid;rw [Env.vo _ _ (by rintro rfl;omega)];exact H.fresh id (by omega)
 lt id b' n' hid:=by
  by_cases e:id=nx
  .subst e;rw [Env.ja] at hid;cases hid;exact ⟨hB,qV ho⟩
  .rw [Env.vo _ _ e] at hid;exact H.lt _ _ _ hid
 base:=H.base
 frz b' i v hf':=by
  obtain ⟨h1,h3⟩:=H.frz b' i v hf';refine ⟨h1,λid m hid => ?_⟩;by_cases e:id=nx
  .subst e;rw [Env.ja] at hid;cases hid;exact absurd hf' (hf _ _)
  .rw [Env.vo _ _ e] at hid;rw [T.zk _ _ _ _ _ e];exact h3 id m hid }
theorem Ex.zqk {E E':Env} {w':World} {h:T Blk} {nx:Pa} (X:Ex E E' w w') (H:HR P B E' h nx w') {b n:Nat} (hb:w.heap.size<=b):Ex E (E'.put nx (b,n)) w w':={
 le:=X.le.trans (Env.tY _ (H.fresh _ (Zaf _)))
 os:=X.os
 tape:=X.tape
 output:=X.output
 size:=X.size
 keep:=X.keep
 new id b' n' hid:=by
  by_cases e:id=nx
  .subst e;rw [Env.ja] at hid;cases hid;exact .inl hb
  .rw [Env.vo _ _ e] at hid;exact X.new id b' n' hid
 fzn:=X.fzn
 loop:=X.loop }
theorem zm9 {st:List Nat} {o:Oper} {op:WO} (hc:woA P loc st o.op=some op) (hk:isMk o.op=true) {tm:Tm} {h:T Blk} {nx:Pa} {K1:Kw β} (hok:op.ev C tm h nx K1=.ok r):mkB op tm=true:=by
 have key:(∃ y,op=.box y)\/(∃ z,op=.alloc z)\/(∃ a b c d,op=.qw a b c d)\/(∃ a b c d e,op=.tV a b c d e)\/op=.eX:=by
  cases ho:o.op <;> first | (rw [ho] at hk;cases hk;done) | skip
  all_goals rw [ho] at hc
  all_goals simp only [woA] at hc
  case box=>simp only [Zax] at hc;obtain ⟨y,_,rfl⟩:=hc;exact .inl ⟨_,rfl⟩
  case alloc =>
   split at hc
   .simp only [Zax] at hc;obtain ⟨y,_,rfl⟩:=hc;exact .inr (.inl ⟨_,rfl⟩)
   .cases hc
  case buildSlice =>
   split at hc
   .split at hc
    .split at hc
     .cases hq:Nat.beq _ _ with
      | true=>rw [hq] at hc;cases hc;exact .inr (.inr (.inl ⟨_,_,_,_,rfl⟩))
      | false=>rw [hq] at hc;cases hc
     .cases hc
    .cases hc
   .cases hc
  case makeMap t x =>
   cases x with
   | none=>cases hc;exact .inr (.inr (.inr (.inr rfl)))
   | some x=>cases hc
  case makeSlice =>
   split at hc
   .split at hc
    .split at hc
     .cases hq:Nat.beq _ _ with
      | true=>rw [hq] at hc;cases hc;exact .inr (.inr (.inr (.inl ⟨_,_,_,_,_,rfl⟩)))
      | false=>rw [hq] at hc;cases hc
     .cases hc
    .cases hc
   .cases hc
 rcases key with ⟨y,rfl⟩ | ⟨z,rfl⟩ | ⟨a,b,c,d,rfl⟩ | ⟨e,b,z,l,c,rfl⟩ | rfl
 .have hok:(match (y.ev tm).cells with
   | some l=>jA false l h nx λid h' nx'=>K1 (.ptr id 0) h' nx'
   | none=>.no 39)=.ok r:=hok
  show (y.ev tm).cells.isSome=true;cases hc:(y.ev tm).cells with
  | none=>rw [hc] at hok;cases hok
  | some l=>rfl
 .rfl
 .have hok:(match gL (fe b c) (j8 d tm) with
   | some l=>jA false l h nx λid h' nx'=>K1 (.sl id 0 b (some b) a) h' nx'
   | none=>.no 40)=.ok r:=hok
  show (gL (fe b c) (j8 d tm)).isSome=true;cases hc:gL (fe b c) (j8 d tm) with
  | none=>rw [hc] at hok;cases hok
  | some l=>rfl
 .obtain ⟨k1,n1,e1,hok⟩:=uI (show asInt (l.ev tm) (λ_ l=>asInt (c.ev tm) (λ_ c=>match l,c with
    | .ofNat l,.ofNat c=>bif Nat.ble l c&&Nat.ble c 1000000&&Nat.ble (b*c) 281474976710656 then
      jA false (fe c z) h nx λid h' nx'=>K1 (.sl id 0 l (some c) e) h' nx'
     else .no 41
    | _,_=>.no 41) (.no 41)) (.no 41)=.ok r from hok)
  obtain ⟨k2,n2,e2,hok⟩:=uI hok
  show (match l.ev tm,c.ev tm with
   | .int _ (.ofNat l),.int _ (.ofNat c)=>Nat.ble l c&&Nat.ble c 1000000&&Nat.ble (b*c) 281474976710656
   | _,_=>false)=true
  rw [e1,e2];cases n1 with
  | negSucc n1=>cases hok
  | ofNat n1 =>
   cases n2 with
   | negSucc n2=>cases hok
   | ofNat n2=>exact (jD hok).1
 .rfl
theorem adv (he:uZ ops.toList 0=true) (hc:dB ops (anO ops)=true) (hfr:∀ f∈fr,oW ops (anO ops) f=true):∀ (l:List (Nat×Nat)) {E:Env} {h:T Blk} {nx:Pa} {tm:Tm} {st:List Nat} {D:List Ent} {ps:List aD} {xs:List (RO×Nat×List WO)} {done uw qc fp:Nat} {bs:Nat->Nat},
  Inv P B E0 w0 loc N ops fr tv0 C K r d0 listed a w E h nx tm st D ps l xs done uw qc fp bs ->
  ∃ E' h' nx' tm' st' D' ps' l' xs' done' eu eD fp',Inv P B E0 w0 loc N ops fr tv0 C K r d0 listed a w E' h' nx' tm' st' D' ps' l' xs' done' eu eD fp' bs/\(l'=[]\/∃ y c l'',l'=(y,c)::l''/\gJ ops y=true/\Sb listed y=false)
 | [],_,_,_,_,_,_,_,_,_,_,_,_,_,I=>⟨_,_,_,_,_,_,_,_,_,_,_,_,_,I,.inl rfl⟩
 |(y,c)::l,E,h,nx,tm,st,D,ps,xs,done,uw,qc,fp,bs,I=>by
  have qcs:=zbc I.pok;have hnD:∀ z∈(y,c)::l,¬ inD D z.1:=by
   intro z hz q;have:=qcs z hz;rw [(I.dn z.1).2 q] at this;cases this
  have hnew:¬ inD D y:=hnD (y,c) (Zai ..);obtain ⟨hh1,_,hylt⟩:=pS I.pok;have oZ:∀ i,((anO ops).getD y 0).testBit i=true->inD D i:=λi hi=>(I.dn i).1 (hh1 i hi);obtain ⟨wd',cd',fp',zbg,hwd,hcd,hkind⟩:=q0 I.pok;obtain ⟨o,x,st',cs,xs',ho,hro,hxw,hcs,hxl,rfl⟩:=cM I.xl;have hdn':∀ i (av:AV),(done ||| 2 ^ y).testBit i=true↔inD (⟨y,o.dst,av⟩::D) i:=by
   intro i av;rw [qF,uh,I.dn i]
  have zxe:∀ (av:AV) i,i<ops.size->inD (⟨y,o.dst,av⟩::D) i\/∃ c,(i,c)∈l:=by
   intro av i hi;rcases I.cover i hi with q | ⟨c',q⟩
   .exact .inl (uh.2 (.inl q))
   .rcases Zaq.1 q with q | q
    .cases q;exact .inl (uh.2 (.inr rfl))
    .exact .inr ⟨c',q⟩
  cases hy:gJ ops y with
  | true =>
   cases hly:Sb listed y with
   | false=>exact ⟨_,_,_,_,_,_,_,_,_,_,_,_,_,I,.inr ⟨y,c,l,rfl,hy,hly⟩⟩
   | true =>
    have hyf:y∈fr:=(I.sub y hly).resolve_left hnew;obtain ⟨o',ho',hmk,hgn,zzb⟩:=cZ (hfr y hyf);rw [ho] at ho';cases ho';have hxt:isW x=true:=by rw [hxw,<- zbf ho];exact hy
    obtain ⟨op,d,g,hp,hd,hg,heq⟩:=zxd (β:=β) hro hxt;have hg0:g=none:=by
     unfold qP at hg;rw [hgn] at hg;exact (Option.some.inj hg).symm
    subst hg0;have hev:=I.ev;rw [heq] at hev;have hev:op.ev C tm h nx (λv h' nx'=>wI h' ps (sV d v tm λtm'=>aF cs tm' (evD xs' (oF ps) C tm' h' nx' K)))=.ok r:=hev;obtain ⟨pre,Dc,o'',aτ,wτ,obj,v,e1,e2,e3,e4,e5,e6,e7,e8,e9,e10,e11,e12⟩:=I.em y hly hnew;rw [ho] at e2;cases e2;have qct:∀ t,(o.dst=some t\/t∈o.looksAt ops)->jG D t=jG Dc t:=by
     intro t ht;rw [e1];refine zjv λe hee hd2 => ?_;obtain ⟨p,q,hpq⟩:=Zcq hee;obtain ⟨⟨x2,hx2,hx2d⟩,hx2a,_⟩:=I.dok p e (q++Dc) (by rw [e1,hpq];simp);rcases p8 hc hx2 ho (λq=>hnew ⟨e,by rw [e1];exact Zcr _ hee,q⟩) (by rw [<- hx2d];exact hd2) ht with q2 | q2
     .rw [e3 e hee] at q2;cases q2
     .obtain ⟨e',he',he'2⟩:=hx2a y q2;exact hnew ⟨e',by rw [e1,hpq];simp at he' ⊢;rcases he' with h | h <;> simp [h],he'2⟩
    have F:=FR.only (a:=aτ) I.can (L:=o.looksAt ops) (D':=Dc) (λt ht=>e4 t ht) (λt ht=>(qct t (.inr ht)).symm);have hcw:woA P (loc.map (Ev.only (o.looksAt ops))) (st.map (Ev.only (o.looksAt ops))) o.op=some op:=(cH o.op λx hx=>bG hx).trans hp;obtain ⟨val,blk,hE,obj',n,vf,hblk,hrun,hpost⟩:=zg1 (β:=β) F hcw hmk (zm9 hp hmk hev);have hw1:=hrun wτ;rw [e6] at hw1
    injection hw1 with hw1 hw2
    have hvv:v=vf (bs y):=by rw [<- e5];injection hw1
    have hobj:obj=obj':=by
     have h2:wτ.heap.push obj=wτ.heap.push obj':=congrArg World.heap hw2;have h3:=congrArg (λa:Array Obj=>a[wτ.heap.size]?) h2;simpa using h3
    subst hobj;rw [hE C h nx _] at hev;obtain ⟨hpv,hpb⟩:=hpost E (.refl _) nx (bs y) (I.hr.fresh nx (Zaf _));have hle:E.le (E.put nx (bs y,n)):=Env.tY _ (I.hr.fresh nx (Zaf _));have HR':=I.hr.zqk e7 e9 (λid n'=>e10 id n') e11 hpb;have X':=I.ex.zqk I.hr (nx:=nx) (n:=n) e8;obtain ⟨hk2,hre⟩:=mN hev;obtain ⟨tm',q1,q2⟩:=bW (β:=β) I.can hd y (val nx);rw [q1] at hk2;obtain ⟨hcks,hk3⟩:=nB hk2;have hcl:∀ i,((anO ops).getD y 0).testBit i=true->Sb listed i=true:=dH he I.clo y hylt λo1 ho1 e hee=>I.clo y o1 ho1 hly e hee;have hkd:wd'=(uw ||| 2 ^ y):=by
     rcases hkind with ⟨_,_,q,_⟩ | ⟨_,q,_⟩ | ⟨q,_⟩
     .exact q
     .exact absurd hyf q
     .rw [hy] at q;cases q
    refine adv he hc hfr l (E:=E.put nx (bs y,n)) (h:=T.set .no blk nx h) (nx:=nx.succ) (tm:=tm') (st:=st') (D:=⟨y,o.dst,val nx⟩::D) (ps:=oF ps) (xs:=xs') (done:=done ||| 2 ^ y) (uw:=wd') (qc:=cd') (fp:=fp') (bs:=bs) ?_;refine ⟨I.szl,λi hi=>(I.sub i hi).imp_left λq=>uh.2 (.inl q),?_,I.clo,hxl,zbg,λi=>hdn' i _,?_,zxe _,I.dok.cons ho rfl oZ hnew,?_,q2,?_,?_,?_,zfd hfr I.dn hnew I.ck hcs hcks q2,I.sz,I.df,HR',X',hk3⟩
    .intro e hee hw;rcases Zaq.1 hee with rfl | hee
     .exact hly
     .exact I.wsub e hee hw
    .intro i hi hw;rw [hkd,qF];exact (uh.1 hi).imp (λq=>I.wdn i q hw) id
    .intro pre2 e D2 hpe hs;cases pre2 with
     | nil=>cases hpe;rw [hly] at hs;cases hs
     | cons z pre2 =>
      rw [Zbs] at hpe;cases hpe
      obtain ⟨c1,p1,p2⟩:=I.pend pre2 e D2 rfl hs;simp only [Zcd,hy,if_true] at p1;cases c1 with
      | zero =>
       simp only [Zcw,Zev,Zap] at p1;have:=hcl _ p1.1;rw [hs] at this;cases this
      | succ c0 =>
       refine ⟨c0,by simpa using p1,?_⟩;obtain ⟨o1,s1,s1',d1,g1,op1,tm1,k1,k2,k3,k4,k5,k6,k7⟩:=p2;refine ⟨o1,s1,s1',d1,g1,op1,tm1,k1,k2,k3,k4,k5,k6,?_⟩;rcases k7 with ⟨m1,m2,m3⟩ | m
       .have hm:=m3 (Nat.succ_ne_zero c0);exact .inl ⟨m1,λK'=>hre _ hm K',λhc0=>bU hc0 hm⟩
       .exact .inr m
    .intro t ht;have hfil:((⟨y,o.dst,val nx⟩::D:List Ent).filter λe=>Sb listed e.j)=⟨y,o.dst,val nx⟩::D.filter λe=>Sb listed e.j:=by
      simp only [Zcd,hly,if_true]
     rw [hfil];by_cases hdt:o.dst=some t
     .unfold RVt;rw [j6 hdt,e12 t hdt,hvv];exact ⟨λx hx=>by cases hx;exact hpv,λhn=>by cases hn⟩
     .refine RVt.zfb (j9 hdt) ((I.rv t λf o1 hf1 hf2 hf3 => ?_).mono hle);by_cases hfy:f=y
      .subst hfy;rw [ho] at hf3;cases hf3;exact hdt
      .exact ht f o1 hf1 (λq=>(uh.1 q).elim hf2 hfy) hf3
    .intro f hf1 hf2;have hfD:¬ inD D f:=λq=>hf2 (uh.2 (.inl q));have hff:f∈fr:=(I.sub f hf1).resolve_left hfD;have hne:f≠y:=λq=>hf2 (uh.2 (.inr q));have hem:=(I.em f hf1 hfD).more (e:=⟨y,o.dst,val nx⟩) (zhe (hfr f hff) (hfr y hyf));obtain ⟨pre3,Dc3,o3,aτ3,wτ3,obj3,v3,g1,g2,g3,g4,g5,g6,g7,g8,g9,g10,g11,g12⟩:=hem;refine ⟨pre3,Dc3,o3,aτ3,wτ3,obj3,v3,g1,g2,g3,λt ht=>(g4 t ht).mono hle,g5,g6,g7,g8,g9,λid m hid => ?_,g11,g12⟩;by_cases hidn:id=nx
     .subst hidn;rw [Env.ja] at hid;have:bs y=bs f:=(Prod.mk.inj (Option.some.inj hid)).1;exact hne (I.emi f y hf1 hfD hly hnew this.symm)
     .rw [Env.vo _ _ hidn] at hid;exact g10 id m hid
    .intro f f' q3 q4 q5 q6 q7;exact I.emi f f' q3 (λq=>q4 (uh.2 (.inl q))) q5 (λq=>q6 (uh.2 (.inl q))) q7
  | false =>
   have hxf:isW x=false:=by rw [hxw,<- zbf ho];exact hy
   obtain ⟨op,d,g,hp,hd,hg,heq⟩:=qcr (β:=β) hro hxf;have hyfr:y∉fr:=λq=>by have:=zza (hfr y q);rw [hy] at this;cases this
   have hSy:Sb listed y=false:=by
    cases hq:Sb listed y with
    | false=>rfl
    | true=>exact ((I.sub y hq).elim hnew hyfr).elim
   have hfw:((y,c)::l).filter (λz=>gJ ops z.1)=l.filter λz=>gJ ops z.1:=by
    simp only [Zcd,hy];rfl
   obtain ⟨hk1,hk2⟩:wd'=uw/\((l.filter λz=>gJ ops z.1).drop c).all (λz=>((anO ops).getD z.1 0).testBit y)=true:=by
    rcases hkind with ⟨q,_⟩ | ⟨q,_⟩ | ⟨_,q,_,_,_,q2⟩
    .rw [hy] at q;cases q
    .rw [hy] at q;cases q
    .exact ⟨q,q2⟩
   have hev:=I.ev;rw [heq] at hev
   have go:∀ (av:AV) (tm':Tm) (ps':List aD),CAN loc st' tv0 (⟨y,o.dst,av⟩::D) tm'->(∀ p∈ps,p∈ps')->eZ P β loc N ops tv0 h ps' D ⟨y,o.dst,av⟩ c->aF cs tm' (evD xs' ps' C tm' h nx K)=.ok r ->
     Inv P B E0 w0 loc N ops fr tv0 C K r d0 listed a w E h nx tm' st' (⟨y,o.dst,av⟩::D) ps' l xs' (done ||| 2 ^ y) wd' cd' fp' bs:=by
    intro av tm' ps' hcan hps hpp hev';obtain ⟨hcks,hev'⟩:=nB hev';have hfil:((⟨y,o.dst,av⟩::D:List Ent).filter λe=>Sb listed e.j)=D.filter λe=>Sb listed e.j:=by
     simp only [Zcd,hSy];rfl
    refine ⟨I.szl,λi hi=>(I.sub i hi).imp_left λq=>uh.2 (.inl q),?_,I.clo,hxl,zbg,λi=>hdn' i _,?_,zxe _,I.dok.cons ho rfl oZ hnew,?_,hcan,?_,?_,?_,zfd hfr I.dn hnew I.ck hcs hcks hcan,I.sz,I.df,I.hr,I.ex,hev'⟩
    .intro e hee hw;rcases Zaq.1 hee with rfl | hee
     .rw [hy] at hw;cases hw
     .exact I.wsub e hee hw
    .intro i hi hw;rw [hk1];rcases uh.1 hi with hi | rfl
     .exact I.wdn i hi hw
     .rw [hy] at hw;cases hw
    .intro pre e D' hpe hs;cases pre with
     | nil=>cases hpe;exact ⟨c,hk2,hpp⟩
     | cons z pre =>
      rw [Zbs] at hpe;cases hpe
      obtain ⟨c',q1,q2⟩:=I.pend pre e D' rfl hs;rw [hfw] at q1;exact ⟨c',q1,q2.more hps⟩
    .intro t ht;rw [hfil];refine I.rv t λf o1 hf1 hf2 hf3=>ht f o1 hf1 (λq => ?_) hf3;rcases uh.1 q with q | rfl
     .exact hf2 q
     .rw [hSy] at hf1;cases hf1
    .intro f hf1 hf2;have hfD:¬ inD D f:=λq=>hf2 (uh.2 (.inl q));refine (I.em f hf1 hfD).more ?_;obtain ⟨_,_,_,_,_,_,_,_,g2,_⟩:=I.em f hf1 hfD;have hflt:f<ops.size:=(Zgy.1 g2).1;cases hq:((anO ops).getD f 0).testBit y with
     | false=>rfl
     | true =>
      have:=dH he I.clo f hflt (λo1 ho1 e hee=>I.clo f o1 ho1 hf1 e hee) y hq;rw [hSy] at this;cases this
    .intro f f' q3 q4 q5 q6 q7;exact I.emi f f' q3 (λq=>q4 (uh.2 (.inl q))) q5 (λq=>q6 (uh.2 (.inl q))) q7
   cases hb:jT g tm with
   | true =>
    rw [hb] at hev;obtain ⟨v,hv,hev⟩:=zg8 hev;obtain ⟨tm',q1,q2⟩:=bW (β:=β) I.can hd y v;rw [q1] at hev;refine adv he hc hfr l (go v tm' (addP c op tm v ps) q2 ?_ ?_ hev)
    .intro p hp;unfold addP;cases Nat.beq c 0 with
     | true=>exact hp
     | false=>exact Zam _ hp
    .refine ⟨o,st,st',d,g,op,tm,ho,rfl,hp,hd,hg,I.can,.inl ⟨hb,hv,λhc => ?_⟩⟩;unfold addP;rw [aL hc];exact Zai ..
   | false =>
    rw [hb] at hev;obtain ⟨tm',q1,q2⟩:=bW (β:=β) I.can hd y .u;have hev:sV d .u tm (λtm'=>aF cs tm' (evD xs' ps C tm' h nx K))=.ok r:=hev;rw [q1] at hev;exact adv he hc hfr l (go .u tm' ps q2 (λ_ h=>h) ⟨o,st,st',d,g,op,tm,ho,rfl,hp,hd,hg,I.can,.inr ⟨hb,rfl⟩⟩ hev)
end
end Go.Ev
namespace Go.Ev
open Go
section
variable {β:Type} {P:Program} {B:Nat} {E0:Env} {w0:World} {loc:List Nat} {N:Nat} {ops:Array Oper} {tv0:T AV} {C:Calls β} {K:Kr β} {r:β} {d0:List Deferred} {rd:Option Nat} {n:Nat} {Q:Exit->Act->World->Prop}
theorem zjy {listed:Array Bool} {j:Nat} (hj:j<listed.size) (i:Nat):Sb (listed.setIfInBounds j true) i=(Sb listed i||i==j):=by
 unfold Sb;simp only [Zbq,Zhi];by_cases e:j=i
 .subst e;simp [hj]
 .rw [if_neg e];have:(i==j)=false:=by simpa using Ne.symm e
  rw [this,Zgo]
theorem cT {listed:Array Bool} {j:Nat} (hsz:listed.size=ops.size):j∈Region.ready .any ops listed↔j<ops.size/\Sb listed j=false/\∀ o,ops[j]? = some o->∀ e∈xN o,Sb listed e=true:=by
 unfold Region.ready;rw [Zbr,Zay];constructor
 .rintro ⟨hj,h⟩;rw [Zap] at h;refine ⟨hj,?_,λo ho e he => ?_⟩
  .have h1:=h.1;simp only [Zbq] at h1;unfold Sb;simp only [Zbq];rw [Zhd (by omega)] at h1 ⊢;simpa using h1
  .have h2:=h.2;rw [ho] at h2;simp only [Zcy,Option.getD_some,Zfu] at h2;unfold xN at he;rw [Zao] at he;obtain ⟨x,hx,rfl⟩:=he;rw [Zbr] at hx;have:=h2 x (by simpa using hx.1);rw [hx.2] at this;simpa [Sb] using this
 .rintro ⟨hj,h1,h2⟩;refine ⟨hj,?_⟩;rw [Zap];constructor
  .unfold Sb at h1;simp only [Zbq] at h1 ⊢;rw [Zhd (by omega)] at h1 ⊢;simpa using h1
  .have ho:ops[j]? = some ops[j]:=Zhd hj;rw [ho];simp only [Zcy,Option.getD_some,Zfu];intro x hx;cases hb:Region.binds .any x with
   | false=>rfl
   | true =>
    have:=h2 _ ho x.on (by unfold xN;rw [Zao];exact ⟨x,by rw [Zbr];exact ⟨by simpa using hx,hb⟩,rfl⟩);simpa [Sb] using this
def unl (ops:Array Oper) (listed:Array Bool):Nat:=((List.range ops.size).filter λi => !Sb listed i).length
theorem zll {listed:Array Bool} {j:Nat} (hsz:listed.size=ops.size) (hj:j<ops.size) (hl:Sb listed j=false):unl ops (listed.setIfInBounds j true)<unl ops listed:=by
  unfold unl;have key:∀ (l:List Nat),(l.filter fun i => !Sb (listed.setIfInBounds j true) i).length<=(l.filter fun i => !Sb listed i).length/\(j∈l->(l.filter fun i => !Sb (listed.setIfInBounds j true) i).length<(l.filter fun i => !Sb listed i).length):=by
    intro l
    induction l with
    | nil=>exact ⟨Zaf _,λh=>by cases h⟩
    | cons x l ih =>
      simp only [Zcd,zjy (hsz ▸ hj)] at ih ⊢;by_cases e:x=j
      . subst e;simp only [hl,beq_self_eq_true,Bool.false_or,Zah,Zal,if_true,Zds,if_false,Zbc];exact ⟨by omega,λ_=>by omega⟩
      . have:(x==j)=false:=by simpa using e
        simp only [this,Zgo];cases Sb listed x with
        | true =>
          simp only [Zah,Zds,if_false]
          exact ⟨ih.1,fun h=>ih.2 (by rcases Zaq.1 h with h | h;· exact absurd h.symm e
                                      . exact h)⟩
        | false =>
          simp only [Zal,if_true,Zbc]
          exact ⟨by omega,fun h=>by have:=ih.2 (by rcases Zaq.1 h with h | h;· exact absurd h.symm e
                                                   . exact h);omega⟩
  exact (key _).2 (by simp [hj])
theorem zjz {listed:Array Bool} (hsz:listed.size=ops.size) (he:uZ ops.toList 0=true) (hr:Region.ready .any ops listed=[]):∀ i,i<ops.size->Sb listed i=true:=by
 have qcu:∀ (l:List Oper) (k:Nat),uZ l k=true->∀ i o,l[i]? = some o->∀ e∈xN o,e<k+i:=by
  intro l
  induction l with
  | nil=>intro k _ i o h;simp at h
  | cons x l ih =>
   intro k hk i o h e he;simp only [uZ,Zap,Zaw] at hk;cases i with
   | zero=>simp at h;subst h;have:=yG (hk.1 e he);omega
   | succ i=>have:=ih (k+1) hk.2 i o (by simpa using h) e he;omega
 intro i
 induction i using Nat.strongRecOn with
 | _ i ih =>
  intro hi;cases hb:Sb listed i with
  | true=>rfl
  | false =>
   have:i∈Region.ready .any ops listed:=(cT hsz).2 ⟨hi,hb,λo ho e hee=>by
    have hlt:=qcu ops.toList 0 he i o (by simpa using ho) e hee;exact ih e (by omega) (by omega)⟩
   rw [hr] at this;cases this
end
end Go.Ev
namespace Go.Ev
open Go
section
variable {β:Type} {P:Program} {B:Nat} {E0:Env} {w0:World} {loc:List Nat} {N:Nat} {ops:Array Oper} {tv0:T AV} {C:Calls β} {K:Kr β} {r:β} {d0:List Deferred} {rd:Option Nat} {n:Nat} {Q:Exit->Act->World->Prop}
variable {fr:List Nat}
theorem zlm (he:uZ ops.toList 0=true)
  (hQ:∀ tm' h' nx' E' a' w',TR E' loc tm'.v a'.tmps->a'.tmps.size=N->a'.defers=d0->HR P B E' h' nx' w'->Ex E0 E' w0 w'->K tm' h' nx'=.ok r->Q .normal a' w')
  {listed:Array Bool} {a:Act} {w:World} {E:Env} {h:T Blk} {nx:Pa} {tm:Tm} {st:List Nat} {D:List Ent} {ps:List aD} {l:List (Nat×Nat)} {xs:List (RO×Nat×List WO)} {done uw qc fp:Nat} {bs:Nat->Nat}
  (I:Inv P B E0 w0 loc N ops fr tv0 C K r d0 listed a w E h nx tm st D ps l xs done uw qc fp bs) (hl:l=[]\/∃ y c l'',l=(y,c)::l''/\gJ ops y=true/\Sb listed y=false) (hr:Region.ready .any ops listed=[]):Q .normal a w:=by
 have hall:=zjz I.szl he hr;rcases hl with rfl | ⟨y,c,l'',rfl,_,hy⟩
 .have hxl:=I.xl;simp only [rosP,Option.some.injEq] at hxl;have hev:=I.ev;rw [<- hxl] at hev;have hinD:∀ i,i<ops.size->inD D i:=λi hi=>(I.cover i hi).elim id λ⟨c,hc⟩=>by cases hc
  refine hQ tm h nx E a w (λt p hd hp => ?_) I.sz I.df I.hr I.ex hev;have hf:jG (D.filter λe=>Sb listed e.j) t=jG D t:=by
   refine za8 λe he1 _ => ?_;obtain ⟨p,q,hpq⟩:=Zcq he1;obtain ⟨⟨o,ho,_⟩,_⟩:=I.dok p e q hpq;exact hall e.j (Zgy.1 ho).1
  obtain ⟨h1,h2⟩:=I.rv t λf o _ hf2 hf3=>absurd (hinD f (Zgy.1 hf3).1) hf2;rw [hf] at h1 h2;rw [I.can.v t p hp];cases hw:jG D t with
  | none=>exact h2 hw p hd hp
  | some v=>exact h1 v hw
 .have:=hall y (pS I.pok).2.2;rw [hy] at this;cases this
theorem zna (hC:COk P B C) (he:uZ ops.toList 0=true) (hc:dB ops (nW ops.toList [])=true) (hfr:∀ f∈fr,oW ops (anO ops) f=true)
  (hQ:∀ tm' h' nx' E' a' w',TR E' loc tm'.v a'.tmps->a'.tmps.size=N->a'.defers=d0->HR P B E' h' nx' w'->Ex E0 E' w0 w'->K tm' h' nx'=.ok r->Q .normal a' w') :
  ∀ (fuel:Nat) {listed:Array Bool} {a:Act} {w:World} {E:Env} {h:T Blk} {nx:Pa} {tm:Tm} {st:List Nat} {D:List Ent} {ps:List aD} {l:List (Nat×Nat)} {xs:List (RO×Nat×List WO)} {done uw qc fp:Nat} {bs:Nat->Nat},
   Inv P B E0 w0 loc N ops fr tv0 C K r d0 listed a w E h nx tm st D ps l xs done uw qc fp bs->unl ops listed<=fuel->wpAnyIn (Fd rd) n P .any ops Q fuel listed a w:=by
 intro fuel
 induction fuel with
 | zero =>
  intro listed a w E h nx tm st D ps l xs done uw qc fp bs I0 hu;have hr:Region.ready .any ops listed=[]:=by
   refine List.eq_nil_iff_forall_not_mem.2 λj hj => ?_;obtain ⟨h1,h2,_⟩:=(cT I0.szl).1 hj;have:=zll I0.szl h1 h2;omega
  obtain ⟨_,_,_,_,_,_,_,_,_,_,_,_,_,I,hl⟩:=adv he hc hfr l I0;exact ⟨hr,zlm he hQ I hl hr⟩
 | succ fuel ih =>
  intro listed a w E h nx tm st D ps l xs done uw qc fp bs I0 hu;obtain ⟨E,h,nx,tm,st,D,ps,l,xs,done,uw,qc,fp,I,hl⟩:=adv he hc hfr l I0;refine ⟨λhr=>zlm he hQ I hl hr,λj hj => ?_⟩;obtain ⟨hjlt,hjS,hje⟩:=(cT I.szl).1 hj;have oZ:∀ i,((nW ops.toList []).getD j 0).testBit i=true->Sb listed i=true:=dH he I.clo j hjlt hje;have hlan:∀ k,Sb listed k=true->k<ops.size->∀ i,((nW ops.toList []).getD k 0).testBit i=true->Sb listed i=true:=λk hk hlt =>
   dH he I.clo k hlt λo ho e hee=>I.clo k o ho hk e hee
  have hSlt:∀ k,Sb listed k=true->k<ops.size:=by
   intro k hk;rcases I.sub k hk with ⟨e,he1,he2⟩ | hf
   .obtain ⟨p,q,hpq⟩:=Zcq he1;obtain ⟨⟨o,ho,_⟩,_⟩:=I.dok p e q hpq;rw [he2] at ho;exact (Zgy.1 ho).1
   .obtain ⟨o,ho,_⟩:=cZ (hfr k hf);exact (Zgy.1 ho).1
  have hSc:∀ k,Sb listed k=true->((nW ops.toList []).getD k 0).testBit j=true->Sb listed j=true:=λk hk hb=>hlan k hk (hSlt k hk) j hb;have zql:Closed ops λi=>Sb (listed.setIfInBounds j true) i=true:=by
   intro k o ho hk e hee;simp only [zjy (I.szl ▸ hjlt),Zdm,beq_iff_eq] at hk ⊢;rcases hk with hk | rfl
   .exact .inl (I.clo k o ho hk e hee)
   .exact .inl (hje o ho e hee)
  have hun:unl ops (listed.setIfInBounds j true)<=fuel:=by have:=zll I.szl hjlt hjS;omega
  have ho:ops[j]? = some ops[j]:=Zhd hjlt;have hS':∀ i,Sb (listed.setIfInBounds j true) i=(Sb listed i||i==j):=zjy (I.szl ▸ hjlt);have hSi:∀ i,Sb (listed.setIfInBounds j true) i=true↔Sb listed i=true\/i=j:=by
   intro i;rw [hS',Zdm,beq_iff_eq]
  have zj0:∀ (dst:Option Nat) (v:Value),(a.put dst v).tmps.size=N:=by
   intro dst v;have:(a.put dst v).tmps.size=a.tmps.size:=by cases dst <;> simp [Act.put]
   rw [this];exact I.sz
  have zj1:∀ (dst:Option Nat) (v:Value),(a.put dst v).defers=d0:=by
   intro dst v;have:(a.put dst v).defers=a.defers:=by cases dst <;> rfl
   rw [this];exact I.df
  have hnof:(∀ f,((anO ops).getD j 0).testBit f=true->Sb listed f=true->inD D f)->∀ t,(ops[j].dst=some t\/t∈ops[j].looksAt ops)->∀ f o,Sb listed f=true->¬ inD D f->ops[f]? = some o->o.dst≠some t:=by
   intro hin t ht f o hf1 hf2 hf3 hft;have hne:f≠j:=by rintro rfl;rw [hjS] at hf1;cases hf1
   rcases p8 hc hf3 ho hne hft ht with q | q
   .exact hf2 (hin f q hf1)
   .have:=hSc f hf1 q;rw [hjS] at this;cases this
  by_cases hin:inD D j
  .-- a reading operation that the evaluator has taken
   obtain ⟨e,he1,he2⟩:=hin;obtain ⟨pre,D',hpq⟩:=Zcq he1;subst he2;obtain ⟨⟨o,ho2,hed⟩,hd2,hd3⟩:=I.dok pre e D' hpq;rw [ho] at ho2;cases ho2;obtain ⟨c,hc1,hpp⟩:=I.pend pre e D' hpq hjS;have zxf:¬ inD pre e.j:=by
    rintro ⟨x,hx,hxj⟩;obtain ⟨p,q,hxq⟩:=Zcq hx;obtain ⟨_,_,h3⟩:=I.dok p x (q++e::D') (by rw [hpq,hxq];simp);exact h3 ⟨e,by simp,hxj.symm⟩
   have zxg:∀ x∈pre++[e],((nW ops.toList []).getD e.j 0).testBit x.j=false:=by
    intro x hx;cases hb:((nW ops.toList []).getD e.j 0).testBit x.j with
    | false=>rfl
    | true =>
     obtain ⟨y,hy1,hy2⟩:=hd2 _ hb;rcases Zbb.1 hx with hx | hx
     .obtain ⟨p,q,hxq⟩:=Zcq hx;obtain ⟨_,_,h3⟩:=I.dok p x (q++e::D') (by rw [hpq,hxq];simp);exact absurd ⟨y,by simp [hy1],hy2⟩ h3
     .rw [Zba] at hx;subst hx;exact absurd ⟨y,hy1,hy2⟩ hd3
   have hDeq:D=(pre++[e])++D':=by rw [hpq];simp
   have hlast:∀ t,(ops[e.j].dst=some t\/t∈ops[e.j].looksAt ops)->jG (D.filter λx=>Sb listed x.j) t=jG D' t:=by
    intro t ht;rw [hDeq];exact zba hc (hDeq ▸ I.dok) ho hjS oZ hSc hd3 zxg ht
   have zbh:∀ f,((anO ops).getD e.j 0).testBit f=true->Sb listed f=true->inD D f:=by
    intro f hf _;obtain ⟨y,hy1,hy2⟩:=hd2 f hf;exact ⟨y,by rw [hpq];simp [hy1],hy2⟩
   have hno:=hnof zbh;have hlD:∀ i,(Sb (listed.setIfInBounds e.j true) i=true/\¬ inD D i)↔(Sb listed i=true/\¬ inD D i):=by
    intro i;rw [hSi];constructor
    .rintro ⟨h1 | rfl,h2⟩
     .exact ⟨h1,h2⟩
     .exact absurd ⟨e,he1,rfl⟩ h2
    .rintro ⟨h1,h2⟩;exact ⟨.inl h1,h2⟩
   refine zun r hpp.rec ho (λt ht=>I.rv t (hno t (.inr ht))) (λt ht=>hlast t (.inr ht)) I.hr λv hv=>ih (listed:=listed.setIfInBounds e.j true) (E:=E) (h:=h) (nx:=nx) (tm:=tm) (st:=st) (D:=D) (ps:=ps) (l:=l) (xs:=xs) (done:=done) (uw:=uw) (qc:=qc) (fp:=fp) (bs:=bs) ?_ hun;obtain ⟨o',st1,st1',d1,g1,op1,tm1,k1,k2,k3,k4,k5,k6,k7⟩:=hpp;rw [ho] at k1;cases k1;refine ⟨by simp [I.szl],?_,?_,zql,I.xl,I.pok,I.dn,I.wdn,I.cover,I.dok,?_,I.can,?_,?_,?_,I.ck,zj0 _ _,zj1 _ _,I.hr,I.ex,I.ev⟩
   .intro i hi;rcases (hSi i).1 hi with hi | rfl
    .exact I.sub i hi
    .exact .inl ⟨e,he1,rfl⟩
   .intro x hx hw;rw [hS',I.wsub x hx hw];rfl
   .intro p x q hx hs;rw [hS',Zeq] at hs;exact I.pend p x q hx hs.1
   .intro t ht;rw [hpq];refine zlk (S:=λi=>Sb listed i) (S':=λi=>Sb (listed.setIfInBounds e.j true) i) (λ_ => ?_) I.sz k4 hed hS' hv ⟨zxf,hd3⟩ λt ht x hx hxd => ?_
    .have:=I.rv t λf o h1 h2 h3=>ht f o ((hlD f).2 ⟨h1,h2⟩).1 h2 h3;rw [hpq] at this;exact this
    .cases hb:Sb listed x.j with
     | false=>rfl
     | true =>
      obtain ⟨p,q,hxq⟩:=Zcq hx;obtain ⟨⟨y,hy,hyd⟩,_⟩:=I.dok p x (q++e::D') (by rw [hpq,hxq];simp);rcases p8 hc hy ho (λq=>zxf ⟨x,hx,q⟩) (by rw [<- hyd];exact hxd) (.inl ht) with hq | hq
      .rw [zxg x (Zcr _ hx)] at hq;cases hq
      .have:=hSc _ hb hq;rw [hjS] at this;cases this
   .intro f hf1 hf2;obtain ⟨hf3,_⟩:=(hlD f).1 ⟨hf1,hf2⟩;exact (I.em f hf3 hf2).keep (.refl _ _) λo1 t h1 h2=>xY λh3=>hno t (.inl h3) f o1 hf3 hf2 h1 h2
   .intro f f' h1 h2 h3 h4 h5;exact I.emi f f' ((hlD f).1 ⟨h1,h2⟩).1 h2 ((hlD f').1 ⟨h3,h4⟩).1 h4 h5
  .obtain ⟨c,hmem⟩:=(I.cover j hjlt).resolve_left hin;rcases hl with rfl | ⟨y,c',l'',rfl,hy,hyS⟩
   .cases hmem
   have hnew:∀ z∈(y,c')::l'',¬ inD D z.1:=by
    intro z hz q;have:=zbc I.pok z hz;rw [(I.dn z.1).2 q] at this;cases this
   obtain ⟨hh1,_,hylt⟩:=pS I.pok;obtain ⟨wd',cd',fp',zbg,hwd,hcd,hkind⟩:=q0 I.pok;have hwy:wd'.testBit y=true:=by
    rcases hkind with ⟨_,_,q,_⟩ | ⟨_,_,q,_⟩ | ⟨q,_⟩
    .rw [q];exact d9 _ _
    .rw [q];exact d9 _ _
    .rw [hy] at q;cases q
   by_cases hjy:j=y
   .-- the writing one whose turn it is
    subst hjy;obtain ⟨o,x,st',cs,xs',ho2,hro,hxw,hcs,hxl,rfl⟩:=cM I.xl;rw [ho] at ho2;cases ho2;have hxt:isW x=true:=by rw [hxw,<- zbf ho];exact hy
    obtain ⟨op,d,g,hp,hd,hg,heq⟩:=zxd (β:=β) hro hxt;have hev:=I.ev;rw [heq] at hev;have hlast:∀ t,(ops[j].dst=some t\/t∈ops[j].looksAt ops)->jG (D.filter λx=>Sb listed x.j) t=jG D t:=by
     intro t ht;exact zba (pre:=[]) hc I.dok ho hjS oZ hSc hin (by simp) ht
    have zbh:∀ i,((nW ops.toList []).getD j 0).testBit i=true->inD D i:=λi hi=>(I.dn i).1 (hh1 i hi);have hno:=hnof λf hf _=>zbh f hf;have hwd':wd'=(uw ||| 2 ^ j):=by
     rcases hkind with ⟨_,_,q,_⟩ | ⟨_,_,q,_⟩ | ⟨q,_⟩
     .exact q
     .exact q
     .rw [hy] at q;cases q
    have go:∀ (av:AV) (v:Value) (h':T Blk) (nx':Pa) (E':Env) (w':World) (tm':Tm),VR E' av v->HR P B E' h' nx' w'->Ex E E' w w'->CAN loc st' tv0 (⟨j,ops[j].dst,av⟩::D) tm'->aF cs tm' (evD xs' (oF ps) C tm' h' nx' K)=.ok r ->
      (∀ pre e D',D=pre++e::D'->Sb listed e.j=false->∀ c0,eZ P β loc N ops tv0 h ps D' e (c0+1)->eZ P β loc N ops tv0 h' (oF ps) D' e c0) ->
      wpAnyIn (Fd rd) n P .any ops Q fuel (listed.setIfInBounds j true) (a.put ops[j].dst v) w':=by
     intro av v h' nx' E' w' tm' hv HR' X' hcan hev' qcv;obtain ⟨hcks,hev'⟩:=nB hev';have hlD:∀ i,(Sb (listed.setIfInBounds j true) i=true/\¬ inD (⟨j,ops[j].dst,av⟩::D) i)->(Sb listed i=true/\¬ inD D i):=by
      rintro i ⟨h1,h2⟩;rw [uh,not_or] at h2;rcases (hSi i).1 h1 with h1 | h1
      .exact ⟨h1,h2.1⟩
      .exact absurd h1 h2.2
     refine ih (listed:=listed.setIfInBounds j true) (E:=E') (h:=h') (nx:=nx') (tm:=tm') (st:=st') (D:=⟨j,ops[j].dst,av⟩::D) (ps:=oF ps) (l:=l'') (xs:=xs') (done:=done ||| 2 ^ j) (uw:=wd') (qc:=cd') (fp:=fp') (bs:=bs) ?_ hun;refine ⟨by simp [I.szl],?_,?_,zql,hxl,zbg,?_,?_,?_,I.dok.cons ho rfl zbh hin,?_,hcan,?_,?_,?_,zfd hfr I.dn hin I.ck hcs hcks hcan,zj0 _ _,zj1 _ _,HR',I.ex.trans X',hev'⟩
     .intro i hi;rcases (hSi i).1 hi with hi | rfl
      .exact (I.sub i hi).imp_left λq=>uh.2 (.inl q)
      .exact .inl (uh.2 (.inr rfl))
     .intro e he1 hw;rw [hSi];rcases Zaq.1 he1 with rfl | he1
      .exact .inr rfl
      .exact .inl (I.wsub e he1 hw)
     .intro i;rw [qF,uh,I.dn i]
     .intro i hi hw;rw [hwd',qF];exact (uh.1 hi).imp (λq=>I.wdn i q hw) id
     .intro i hi;rcases I.cover i hi with q | ⟨c1,q⟩
      .exact .inl (uh.2 (.inl q))
      .rcases Zaq.1 q with q | q
       .cases q;exact .inl (uh.2 (.inr rfl))
       .exact .inr ⟨c1,q⟩
     .intro pre e D' hpe hs;rw [hS',Zeq] at hs;cases pre with
      | nil=>cases hpe;simp at hs
      | cons z pre =>
       rw [Zbs] at hpe;cases hpe
       obtain ⟨c1,q1,q2⟩:=I.pend pre e D' rfl hs.1;simp only [Zcd,hy,if_true] at q1;cases c1 with
       | zero =>
        simp only [Zcw,Zev,Zap] at q1;have:=oZ _ q1.1;rw [hs.1] at this;cases this
       | succ c0=>exact ⟨c0,by simpa using q1,qcv pre e D' rfl hs.1 c0 q2⟩
     .intro t ht;have hfil:((⟨j,ops[j].dst,av⟩::D:List Ent).filter λe=>Sb listed e.j)=D.filter λe=>Sb listed e.j:=by
       simp only [Zcd,hjS];rfl
      refine zlk (pre:=[]) (S:=λi=>Sb listed i) (S':=λi=>Sb (listed.setIfInBounds j true) i) (λhdt => ?_) I.sz hd rfl hS' hv ⟨(λ⟨x,hx,_⟩=>by cases hx),hin⟩ (by simp);rw [Zbf,hfil];refine (I.rv t λf o h1 h2 h3 => ?_).mono X'.le;by_cases hfj:f=j
      .subst hfj;rw [ho] at h3;cases h3;exact hdt
      .exact ht f o ((hSi f).2 (.inl h1)) (λq=>(uh.1 q).elim h2 hfj) h3
     .intro f hf1 hf2;obtain ⟨hf3,hf4⟩:=hlD f ⟨hf1,hf2⟩;refine ((I.em f hf3 hf4).keep X' λo1 t h1 h2=>xY λh3=>hno t (.inl h3) f o1 hf3 hf4 h1 h2).more ?_;cases hq:((anO ops).getD f 0).testBit j with
      | false=>rfl
      | true=>have:=hSc f hf3 hq;rw [hjS] at this;cases this
     .intro f f' h1 h2 h3 h4 h5;obtain ⟨k1,k2⟩:=hlD f ⟨h1,h2⟩;obtain ⟨k3,k4⟩:=hlD f' ⟨h3,h4⟩;exact I.emi f f' k1 k2 k3 k4 h5
    refine zuo hC ho hp hg I.can (λt ht=>I.rv t (hno t (.inr ht))) (λt ht=>hlast t (.inr ht)) I.hr hev ?_ ?_
    .intro hb av v h' nx' E' w' hk1 hv HR' X';obtain ⟨hk2,hre⟩:=mN hk1;obtain ⟨tm',q1,q2⟩:=bW (β:=β) I.can hd j av;rw [q1] at hk2;refine go av v h' nx' E' w' tm' hv HR' X' q2 hk2 ?_;intro pre e D' _ _ c0 hpp;obtain ⟨o1,s1,s1',d1,g1,op1,tm1,k1,k2,k3,k4,k5,k6,k7⟩:=hpp;refine ⟨o1,s1,s1',d1,g1,op1,tm1,k1,k2,k3,k4,k5,k6,?_⟩;rcases k7 with ⟨m1,m2,m3⟩ | m
     .have hm:=m3 (Nat.succ_ne_zero c0);exact .inl ⟨m1,λK'=>hre _ hm K',λhc0=>bU hc0 hm⟩
     .exact .inr m
    .intro hb hk2;obtain ⟨tm',q1,q2⟩:=bW (β:=β) I.can hd j .u;rw [q1] at hk2;refine go .u undef h nx E w tm' kB I.hr (.refl _ _) q2 hk2 ?_;intro pre e D' _ _ c0 hpp;obtain ⟨o1,s1,s1',d1,g1,op1,tm1,k1,k2,k3,k4,k5,k6,k7⟩:=hpp;refine ⟨o1,s1,s1',d1,g1,op1,tm1,k1,k2,k3,k4,k5,k6,?_⟩;rcases k7 with ⟨m1,m2,m3⟩ | m
     .exact .inl ⟨m1,m2,λhc0=>bU hc0 (m3 (Nat.succ_ne_zero c0))⟩
     .exact .inr m
   .have hml:(j,c)∈l'':=by
     rcases Zaq.1 hmem with q | q
     .cases q;exact absurd rfl hjy
     .exact q
    by_cases hjf:j∈fr
    .-- something is made ahead of its turn
     obtain ⟨o,ho2,hmk,hgn,zzb⟩:=cZ (hfr j hjf);rw [ho] at ho2;cases ho2;have zbh:∀ i,((anO ops).getD j 0).testBit i=true->inD D i:=by
      intro i hi;refine (I.sub i (oZ i hi)).resolve_right λq => ?_;have:=zhe (hfr j hjf) (hfr i q);rw [hi] at this;cases this
     obtain ⟨pre,Dc,st_c,tm_c,o2,op,e1,e2,e3,e4,e5,e6⟩:=I.ck j hjf hin zbh;rw [ho] at e3;cases e3;have hinc:¬ inD Dc j:=λ⟨x,hx,hxj⟩=>hin ⟨x,by rw [e1];exact Zda _ hx,hxj⟩;have hlast:∀ t,(ops[j].dst=some t\/t∈ops[j].looksAt ops)->jG (D.filter λx=>Sb listed x.j) t=jG Dc t:=by
      intro t ht;rw [e1];exact zba hc (e1 ▸ I.dok) ho hjS oZ hSc hinc e6 ht
     have hno:=hnof λf hf _=>zbh f hf;have hrv:∀ t∈ops[j].looksAt ops,RVt E loc tv0 Dc a t:=λt ht=>(I.rv t (hno t (.inr ht))).zfb (hlast t (.inr ht)).symm;have F:=FR.only (a:=a) e2 (L:=ops[j].looksAt ops) (D':=Dc) hrv (λt ht=>rfl);have hcw:woA P (loc.map (Ev.only (ops[j].looksAt ops))) (st_c.map (Ev.only (ops[j].looksAt ops))) ops[j].op=some op:=(cH ops[j].op λx hx=>bG hx).trans e4;obtain ⟨val,blk,hE,obj,nn,vf,hblk,hrun,hpost⟩:=zg1 (β:=β) F hcw hmk e5;obtain ⟨o3,x3,st1,st2,q1,q2⟩:=zhd I.xl (j,c) hmem;rw [ho] at q1;cases q1;obtain ⟨d3,st3,hd3⟩:∃ d st2,aG loc st1 N ops[j].dst=some (d,st2):=by
      unfold roA at q2;split at q2
      .rename_i g d st₁ hg hd;exact ⟨d,st₁,hd⟩
      .cases q2
     rw [wT ho];have hwant:Region.wanted ops[j] (yielded ops a.tmps)=true:=by simp [Region.wanted,hgn]
     rw [hwant];refine dL (wF hcw) (hrun w) ?_;refine ih (listed:=listed.setIfInBounds j true) (E:=E) (h:=h) (nx:=nx) (tm:=tm) (st:=st) (D:=D) (ps:=ps) (l:=(y,c')::l'') (xs:=xs) (done:=done) (uw:=uw) (qc:=qc) (fp:=fp) (bs:=λi=>if i=j then w.heap.size else bs i) ?_ hun;have hbs:∀ f,Sb listed f=true->¬ inD D f->f≠j/\bs f<w.heap.size:=by
      intro f h1 h2;obtain ⟨_,_,_,_,_,_,_,_,_,_,_,_,_,h7,_⟩:=I.em f h1 h2;exact ⟨(by rintro rfl;rw [hjS] at h1;cases h1),qV h7⟩
     refine ⟨by simp [I.szl],?_,?_,zql,I.xl,I.pok,I.dn,I.wdn,I.cover,I.dok,?_,I.can,?_,?_,?_,I.ck,zj0 _ _,zj1 _ _,I.hr.aY obj,I.ex.trans (Ex.aY E w obj),I.ev⟩
     .intro i hi;rcases (hSi i).1 hi with hi | rfl
      .exact I.sub i hi
      .exact .inr hjf
     .intro x hx hw;rw [hS',I.wsub x hx hw];rfl
     .intro p x q hx hs;rw [hS',Zeq] at hs;exact I.pend p x q hx hs.1
     .intro t ht;have hdt:ops[j].dst≠some t:=ht j ops[j] ((hSi j).2 (.inr rfl)) hin ho;have hfil:(D.filter λe=>Sb (listed.setIfInBounds j true) e.j)=D.filter λe=>Sb listed e.j:=by
       refine Zfm λe hee => ?_;have:(e.j==j)=false:=by simpa using λq=>hin ⟨e,hee,q⟩
       rw [hS',this,Zgo]
      rw [hfil];exact (I.rv t λf o h1 h2 h3=>ht f o ((hSi f).2 (.inl h1)) h2 h3).zqe (xY hdt)
     .intro f hf1 hf2;by_cases hfj:f=j
      .subst hfj;simp only [if_true];refine ⟨pre,Dc,_,a,w,obj,vf w.heap.size,e1,ho,e6,hrv,rfl,hrun w,wN obj,I.ex.size,I.hr.base,λid m hid => ?_,λi u hu => ?_,λt ht => ?_⟩
       .exact absurd (I.hr.lt _ _ _ hid).2 (Zct _)
       .obtain ⟨⟨cc,ty,frz,k1,_⟩,_⟩:=I.hr.frz _ _ _ hu;exact absurd (qV k1) (Zct _)
       .have hlt:t<a.tmps.size:=by
         rw [ht] at hd3;have hsz:=I.sz;simp only [aG] at hd3;split at hd3
         .rename_i p hb1 hb2;rw [hsz];exact yG hb1
         .rename_i hb1 hb2;rw [hsz];exact yG hb1
         .cases hd3
        rw [ht];show (a.tmps.setIfInBounds t (vf w.heap.size)).getD t undef=_;rw [wO hlt,if_pos rfl]
      .have hf3:Sb listed f=true:=((hSi f).1 hf1).resolve_right hfj;simp only [if_neg hfj];exact (I.em f hf3 hf2).keep (Ex.aY E w obj) λo1 t h1 h2=>xY λh3=>hno t (.inl h3) f o1 hf3 hf2 h1 h2
     .intro f f' h1 h2 h3 h4 h5;by_cases hfj:f=j
      .by_cases hfj':f'=j
       .rw [hfj,hfj']
       .have h6:=hbs f' (((hSi f').1 h3).resolve_right hfj') h4;simp only [hfj,if_true,if_neg hfj'] at h5;omega
      .have h6:=hbs f (((hSi f).1 h1).resolve_right hfj) h2;by_cases hfj':f'=j
       .simp only [hfj',if_true,if_neg hfj] at h5;omega
       .simp only [if_neg hfj,if_neg hfj'] at h5;exact I.emi f f' (((hSi f).1 h1).resolve_right hfj) h2 (((hSi f').1 h3).resolve_right hfj') h4 h5
    .-- nothing else can come up
     exfalso
     have hbad:((anO ops).getD j 0).testBit y=true->False:=λq=>by have:=oZ y q;rw [hyS] at this;cases this
     cases hw:gJ ops j with
     | false=>exact hbad (zqh zbg hwy (j,c) hml hw)
     | true =>
      rcases hkind with ⟨_,_,_,_,q⟩ | ⟨_,_,_,q,_⟩ | ⟨q,_⟩
      .rcases zqi (x:=y) zbg (by rw [q];exact d9 _ _) (j,c) hml hw hjf with q | ⟨u,q1,q2,q3,q4⟩
       .exact hbad q
       .have h1:=oZ u.1 q4;rcases I.sub u.1 h1 with h2 | h2
        .exact hnew u (Zam _ q1) h2
        .exact q3 h2
      .exact hbad (zjw (x:=y) zbg (by rw [q];exact d9 _ _) (j,c) hml hw hjf)
      .rw [hy] at q;cases q
theorem zbi (hm:P.follows .mixedOrders=true):cE P B β:=by
 intro C hC loc N rd n ops id cs0 ys E tv a h nx w K r fuel O Q hd ht hN H hk hQ;unfold zpy zxc at hd
 generalize hfrq:(List.range ops.size).filter (oW ops (nW ops.toList []))=fr at hd
 cases hq:(uZ ops.toList 0&&dB ops (nW ops.toList [])&&fr.all (oW ops (nW ops.toList []))&&(List.range ops.size).all (λi=>(permA ops (nW ops.toList []) fr).any λz=>Nat.beq z.1 i)&&u9 ops (nW ops.toList []) fr (permA ops (nW ops.toList []) fr) 0 0 0 0) with
 | false=>rw [hq] at hd;cases hd
 | true =>
  rw [hq] at hd;simp only [cond_true] at hd;simp only [Zap] at hq;obtain ⟨⟨⟨⟨h1,h2⟩,h5⟩,h3⟩,h4⟩:=hq;rw [Zaw] at h3 h5;split at hd
  .rename_i cs rs hcs hrs;cases hd
   have hk:aF cs0 ⟨tv,[]⟩ (evD ys [] C ⟨tv,[]⟩ h nx λtm h nx=>Tm.rec (motive:=λ_=>Out β) (λt _=>K t h nx) tm)=.ok r:=hk;obtain ⟨hcks,hk⟩:=nB hk;have hfalse:∀ i,Sb (Array.replicate ops.size false) i=false:=by
    intro i;unfold Sb;simp only [Zbq,Array.getElem?_replicate];split <;> rfl
   have hno:∀ i,¬ inD [] i:=λi ⟨e,he,_⟩=>by cases he
   have zxh:CAN loc [] tv [] ⟨tv,[]⟩:=⟨λt p _=>rfl,λi t hi=>by simp at hi,λt ht=>by cases ht⟩
   have I:Inv P B E { w with drawn:=w.drawn+1 } loc N ops fr tv C (λtm h nx=>Tm.rec (motive:=λ_=>Out β) (λt _=>K t h nx) tm) r a.defers (Array.replicate ops.size false) a { w with drawn:=w.drawn+1 } E h nx ⟨tv,[]⟩ [] [] [] (permA ops (nW ops.toList []) fr) ys 0 0 0 0 (λ_=>0) :=
    {szl:=by simp
     sub:=λi hi=>by rw [hfalse] at hi;cases hi
     wsub:=λe he=>by cases he
     clo:=λj o _ hj=>by simp only [hfalse] at hj;cases hj
     xl:=hrs
     pok:=h4
     dn:=λi=>by simp [hno]
     wdn:=λi hi=>absurd hi (hno i)
     cover:=λi hi=>by
      have:=h3 i (by simp [hi]);rw [Zft] at this;obtain ⟨z,hz,hzi⟩:=this;exact .inr ⟨z.2,by rw [<- yM hzi];exact hz⟩
     dok:=λpre e D' hx=>by cases pre <;> cases hx
     pend:=λpre e D' hx=>by cases pre <;> cases hx
     can:=zxh
     rv:=λt _=>⟨λv hv=>(by cases hv),λ_ p hdm hp=>ht t p hdm hp⟩
     em:=λf hf=>by rw [hfalse] at hf;cases hf
     emi:=λf f' hf=>by rw [hfalse] at hf;cases hf
     ck:=λf hf _ han=>by
      have hz:(nW ops.toList []).getD f 0=0:=by
       refine Nat.eq_of_testBit_eq λi => ?_;rw [Nat.zero_testBit];cases hq:((nW ops.toList []).getD f 0).testBit i with
       | false=>rfl
       | true=>exact absurd (han i hq) (hno i)
      obtain ⟨o,op,q1,q2,q3⟩:=zbe hcs f (by rw [Zbr];exact ⟨hf,by rw [hz];rfl⟩);exact ⟨[],[],[],_,o,op,rfl,zxh,q1,q2,hcks op q3,λe he=>by cases he⟩
     sz:=hN
     df:=rfl
     hr:=H.of_heap rfl
     ex:=.refl _ _
     ev:=hk }
   refine wpIn_region_any hm (zna (K:=λtm h nx=>Tm.rec (motive:=λ_=>Out β) (λt _=>K t h nx) tm) (r:=r) (d0:=a.defers) (E0:=E) (w0:={ w with drawn:=w.drawn+1 }) (tv0:=tv) hC h1 h2 h5 (λtm' h' nx' E' a' w' q1 q2 q3 q4 q5 q6=>hQ tm'.v h' nx' E' a' w' q1 q2 q3 q4 ((Ex.drew E w).trans q5) (by cases tm';exact q6)) ops.size I ?_);unfold unl;exact Zbe (List.length_filter_le _ _) (by simp)
  .cases hd
end
end Go.Ev
namespace Go.Ev
open Go
open Classical
section
variable {P:Program} {B:Nat}
def SemF (P:Program) (B:Nat) (f:Nat) (args:List AV) (h:T Blk) (nx:Pa) (K:Kw Prop):Prop :=
 ∀ (E:Env) (w:World) (vs:Array Value),HR P B E h nx w->VRL E args vs.toList ->
  ∃ _:Unit,True/\True/\True/\∀ n,oO n P f vs w (CR P B E w K True)
def SemY (P:Program) (B:Nat) (id:Pa) (args:List AV) (h:T Blk) (nx:Pa) (K:Kw Prop):Prop :=
 ∀ (E:Env) (w:World) (b m:Nat) (vs:Array Value),HR P B E h nx w->E id=some (b,m)->VRL E args vs.toList ->
  ∃ L:Loop,w.heap[b]? = some (.loop L)/\vs.size=L.params.size/\∀ n,RoundIn Fence.wide n P b L.fn (bX L.params vs L.tmps) L.assign L.body w (CR P B E w K True)
def CS (P:Program) (B:Nat):Calls Prop:={
 fn f _ args h nx K:=if SemF P B f args h nx K then .ok True else .no 0
 yld id args h nx K:=if SemY P B id args h nx K then .ok True else .no 0
 pk L f:=if ∀ i∈L,f i=.ok True then .ok True else .no 0 }
theorem aC {f:Nat} {p:Pa} {args:List AV} {h:T Blk} {nx:Pa} {K:Kw Prop} {r:Prop}:(CS P B).fn f p args h nx K=.ok r↔SemF P B f args h nx K/\r=True:=by
 show (if SemF P B f args h nx K then Out.ok True else .no 0)=.ok r↔_;by_cases hs:SemF P B f args h nx K
 .simp only [if_pos hs];constructor
  .intro e;cases e;exact ⟨hs,rfl⟩
  .rintro ⟨_,rfl⟩;rfl
 .simp only [if_neg hs];constructor
  .intro e;cases e
  .rintro ⟨h,_⟩;exact absurd h hs
theorem zzc {id:Pa} {args:List AV} {h:T Blk} {nx:Pa} {K:Kw Prop} {r:Prop}:(CS P B).yld id args h nx K=.ok r↔SemY P B id args h nx K/\r=True:=by
 show (if SemY P B id args h nx K then Out.ok True else .no 0)=.ok r↔_;by_cases hs:SemY P B id args h nx K
 .simp only [if_pos hs];constructor
  .intro e;cases e;exact ⟨hs,rfl⟩
  .rintro ⟨_,rfl⟩;rfl
 .simp only [if_neg hs];constructor
  .intro e;cases e
  .rintro ⟨h,_⟩;exact absurd h hs
theorem zxi {L:List Nat} {f:Nat->Out Prop} {r:Prop}:(CS P B).pk L f=.ok r↔(∀ i∈L,f i=.ok True)/\r=True:=by
 show (if ∀ i∈L,f i=.ok True then Out.ok True else .no 0)=.ok r↔_;by_cases hs:∀ i∈L,f i=.ok True
 .simp only [if_pos hs];constructor
  .intro e;cases e;exact ⟨hs,rfl⟩
  .rintro ⟨_,rfl⟩;rfl
 .simp only [if_neg hs];constructor
  .intro e;cases e
  .rintro ⟨h,_⟩;exact absurd h hs
theorem zqm:COk P B (CS P B):={
 fn H hv hk:=by obtain ⟨h1,rfl⟩:=aC.1 hk;exact h1 _ _ _ H hv
 yld H hE hv hk:=by obtain ⟨h1,rfl⟩:=zzc.1 hk;exact h1 _ _ _ _ _ H hE hv
 pk L f r hk i hi:=by obtain ⟨h1,rfl⟩:=zxi.1 hk;exact h1 i hi }
def Fr (h:T Blk) (nx:Pa):Prop:=∀ id,nx.toNat<=id.toNat->T.get .no id h=.no
theorem HR.fr {E:Env} {h:T Blk} {nx:Pa} {w:World} (H:HR P B E h nx w):Fr h nx:=λid hid=>by
 by_cases hb:T.get .no id h=.no
 .exact hb
 .obtain ⟨b,n,o,h1,_⟩:=H.blk id hb;rw [H.fresh id hid] at h1;cases h1
theorem CR.mono {E:Env} {w:World} {K K':Kw Prop} (hK:∀ v h' nx',Fr h' nx'->K v h' nx'=.ok True->K' v h' nx'=.ok True) {e:Ending} {w':World} (h:CR P B E w K True e w'):CR P B E w K' True e w':=by
 cases e <;> first
  | exact h.elim
  |(obtain ⟨av,h',nx',E',h1,h2,h3,h4⟩:=h;exact ⟨av,h',nx',E',hK _ _ _ h3.fr h1,h2,h3,h4⟩)
theorem j7 {f:Nat} {p q:Pa} {args:List AV} {h:T Blk} {nx:Pa} {K K':Kw Prop} (hk:(CS P B).fn f p args h nx K=.ok True) (hK:∀ v h' nx',Fr h' nx'->K v h' nx'=.ok True->K' v h' nx'=.ok True) :
  (CS P B).fn f q args h nx K'=.ok True:=by
 rw [aC] at hk ⊢;refine ⟨λ_ _ _ H hv => ?_,rfl⟩;obtain ⟨fn,h1,h2,h3,h4⟩:=hk.1 _ _ _ H hv;exact ⟨fn,h1,h2,h3,λn=>(h4 n).mono λe w'=>CR.mono hK⟩
theorem zL {fns:T (Option Fn)} (hT:zdc P fns) (hD:cE P B Prop) (fuel:Nat) {f:Nat} {p:Pa} {args:List AV} {h:T Blk} {nx:Pa} {K:Kw Prop}
  (hk:Fr h nx->zO fns fuel (CS P B) (.of f) args h nx K=.ok True):(CS P B).fn f p args h nx K=.ok True:=by
 rw [aC];exact ⟨λ_ _ _ H hv=>dD hT zqm (hD zqm) H hv (hk H.fr),rfl⟩
def uM (w:World) (b i:Nat):Option Value:=match w.heap[b]? with
 | some (.cells c _ _)=>c[i]?
 | _=>none
def cD (E:Env) (h:T Blk) (b:Nat):Prop:=∃ id n,E id=some (b,n)/\T.get .no id h≠.no
def Env.fix (E:Env) (h:T Blk) (w:World) (E':Env) (w':World):Env :=
 ⟨E.nm,λb i=>(o8 b i).orElse λ_=>if cD E h b then none else if w.heap.size<=b\/(E'.fz b i).isSome\/∃ id n,E' id=some (b,n) then uM w' b i else none,λb i v q=>by rw [q];rfl⟩
theorem Env.zfe (E:Env) (h:T Blk) (w:World) (E':Env) (w':World) (b i:Nat):(E.fix h w E' w').fz b i=o8 b i/\o8 b i≠none\/o8 b i=none/\(E.fix h w E' w').fz b i=(if cD E h b then none else if w.heap.size<=b\/(E'.fz b i).isSome\/∃ id n,E' id=some (b,n) then uM w' b i else none):=by
 cases hq:o8 b i with
 | none=>exact .inr ⟨rfl,by show (o8 b i).orElse _=_;rw [hq];rfl⟩
 | some v=>exact .inl ⟨by show (o8 b i).orElse _=_;rw [hq];rfl,by intro e;cases e⟩
theorem HR.laid {P:Program} {B:Nat} {E:Env} {h:T Blk} {nx:Pa} {w:World} (H:HR P B E h nx w) {b i:Nat} {v:Value} (hl:o8 b i=some v):uM w b i=some v:=by
 obtain ⟨⟨c,ty,fr,h1,h2⟩,_⟩:=H.frz b i v (E.lay b i v hl);simp [uM,h1,h2]
mutual
def nn:AV->Bool
 | .ptr _ _=>false
 | .sl _ _ _ _ _=>false
 | .map _=>false
 | .yld _=>false
 | .fn _ _ c=>nns c
 | .bm _ _ c=>nns c
 | .agg l=>nns l
 | .tup l=>nns l
 | .lst _ _ l=>nns l
 | .fp l=>nns l
 | _=>true
def nns:List AV->Bool
 | []=>true
 | a::l=>nn a&&nns l
end
mutual
theorem VR.nn {E E':Env} (hf:∀ b i v,E.fz b i=some v->E'.fz b i=some v):∀ (a:AV) {v:Value},nn a=true->VR E a v->VR E' a v
 | .bool _,_,_,h=>by simpa only [VR] using h
 | .int _ _,_,_,h=>by simpa only [VR] using h
 | .str _,_,_,h=>by simpa only [VR] using h
 | .tK,_,_,h=>by simpa only [VR] using h
 | .ptr _ _,_,g,_=>by simp [Ev.nn] at g
 | .zb,_,_,h=>by simpa only [VR] using h
 | .sl _ _ _ _ _,_,g,_=>by simp [Ev.nn] at g
 | .esl,_,_,h=>by simpa only [VR] using h
 | .sM,_,_,h=>by simpa only [VR] using h
 | .map _,_,g,_=>by simp [Ev.nn] at g
 | .sK,_,_,h=>by simpa only [VR] using h
 | .fn _ _ c,_,g,h=>by
  simp only [VR,Ev.nn] at g h ⊢;obtain ⟨q,vs,r,s⟩:=h;exact ⟨q,vs,r,VRL.nn hf c g s⟩
 | .bm _ _ c,_,g,h=>by
  simp only [VR,Ev.nn] at g h ⊢;obtain ⟨q,vs,r,s⟩:=h;exact ⟨q,vs,r,VRL.nn hf c g s⟩
 | .yld _,_,g,_=>by simp [Ev.nn] at g
 | .agg l,_,g,h=>by simp only [VR,Ev.nn] at g h ⊢;obtain ⟨q,vs,r,s⟩:=h;exact ⟨q,vs,r,VRL.nn hf l g s⟩
 | .tup l,_,g,h=>by simp only [VR,Ev.nn] at g h ⊢;obtain ⟨vs,r,s⟩:=h;exact ⟨vs,r,VRL.nn hf l g s⟩
 | .lst _ _ l,_,g,h=>by
  simp only [VR,Ev.nn] at g h ⊢;obtain ⟨h1,h2,p,c,h3,h4⟩:=h;refine ⟨h1,h2,p,c,h3,h4.imp_right ?_⟩;rintro ⟨b,off,h5,h6,h7⟩;exact ⟨b,off,h5,h6,VRF.nn hf l g h7⟩
 | .fp l,_,g,h=>by
  simp only [VR,Ev.nn] at g h ⊢;obtain ⟨h1,b,off,h2,h3⟩:=h;exact ⟨h1,b,off,h2,VRF.nn hf l g h3⟩
theorem VRL.nn {E E':Env} (hf:∀ b i v,E.fz b i=some v->E'.fz b i=some v):∀ (l:List AV) {vs:List Value},nns l=true->VRL E l vs->VRL E' l vs
 | [],_,_,h=>by simpa only [VRL] using h
 | a::l,_,g,h=>by
  simp only [VRL,nns,Zap] at g h ⊢;obtain ⟨v,m,q,r,s⟩:=h;exact ⟨v,m,q,VR.nn hf a g.1 r,VRL.nn hf l g.2 s⟩
theorem VRF.nn {E E':Env} (hf:∀ b i v,E.fz b i=some v->E'.fz b i=some v):∀ (l:List AV) {b off:Nat},nns l=true->VRF E l b off->VRF E' l b off
 | [],_,_,_,_=>by simp only [VRF]
 | a::l,_,_,g,h=>by
  simp only [VRF,nns,Zap] at g h ⊢;obtain ⟨v,q,r,s⟩:=h;exact ⟨v,hf _ _ _ q,VR.nn hf a g.1 r,VRF.nn hf l g.2 s⟩
end
def zdf (ln:Nat):Option Nat->Prop
 | some k=>ln<=k
 | none=>True
inductive Frz (A:Prop) (N:Pa->Prop) (O:AV->Prop) (h:T Blk):AV->AV->Prop
 | bool b:Frz A N O h (.bool b) (.bool b)
 | int k n:Frz A N O h (.int k n) (.int k n)
 | str s:Frz A N O h (.str s) (.str s)
 | tK:Frz A N O h .tK .tK
 | zb:Frz A N O h .zb .zb
 | esl:Frz A N O h .esl .esl
 | sM:Frz A N O h .sM .sM
 | sK:Frz A N O h .sK .sK
 | oQ e:Frz A N O h .zb (.lst e 0 [])
 | lesl e:Frz A N O h .esl (.lst e 0 [])
 | lst e n l:A->nns l=true->Frz A N O h (.lst e n l) (.lst e n l)
 | fp l:A->nns l=true->Frz A N O h (.fp l) (.fp l)
 | old v:O v->Frz A N O h v v
 | sl id off ln cap esz op m t l:N id->zdf ln cap->T.get .no id h=.cells op m t->off+ln*esz<=m->l.length=ln*esz->l.all gy=true->(∀ (i:Nat) v,l[i]? = some v->Frz A N O h (T.get .u (.of (off+i)) t) v)->Frz A N O h (.sl id off ln cap esz) (.lst esz ln l)
 | ptr id off op m t l:N id->T.get .no id h=.cells op m t->off+l.length<=m->l.all gy=true->(∀ (i:Nat) v,l[i]? = some v->Frz A N O h (T.get .u (.of (off+i)) t) v)->Frz A N O h (.ptr id off) (.fp l)
 | agg l l':l'.length=l.length->l'.all gy=true->(∀ (i:Nat) v v',l[i]? = some v->l'[i]? = some v'->Frz A N O h v v')->Frz A N O h (.agg l) (.agg l')
 | tup l l':l'.length=l.length->(∀ (i:Nat) v v',l[i]? = some v->l'[i]? = some v'->Frz A N O h v v')->Frz A N O h (.tup l) (.tup l')
 | fn f p l l':l'.length=l.length->(∀ (i:Nat) v v',l[i]? = some v->l'[i]? = some v'->Frz A N O h v v')->Frz A N O h (.fn f p l) (.fn f p l')
variable {E E' E1:Env} {h h1:T Blk} {nx nx1:Pa} {w w':World} {B1:Nat}
theorem zdg {A:Prop} {N:Pa->Prop} {O:AV->Prop} (H1:HR P B1 E1 h1 nx1 w') (hfz:A->∀ b i v,E1.fz b i=some v->(E.fix h w E' w').fz b i=some v)
  (hN:∀ id b n,N id->T.get .no id h1≠.no->E1 id=some (b,n)->¬ cD E h b/\(w.heap.size<=b\/∃ id n,E' id=some (b,n))) (hO:∀ v vv,O v->VR E1 v vv->VR (E.fix h w E' w') v vv)
  :
  ∀ {v v':AV},Frz A N O h1 v v'->∀ {vv:Value},VR E1 v vv->VR (E.fix h w E' w') v' vv:=by
 intro v v' hF;have VLR:∀ {l l':List AV},l'.length=l.length->(∀ (i:Nat) v v',l[i]? = some v->l'[i]? = some v'->∀ {vv:Value},VR E1 v vv->VR (E.fix h w E' w') v' vv)->∀ {vs:List Value},VRL E1 l vs->VRL (E.fix h w E' w') l' vs:=by
  intro l l' hlen hi vs hv;refine VRL.sO (by rw [hv.length,hlen]) λi a ha => ?_;have hil:i<l.length:=by rw [<- hlen];exact (Zgv.1 ha).1
  obtain ⟨u,h1,h2⟩:=hv.get (Zgu hil);exact ⟨u,h1,hi i _ _ (Zgu hil) ha h2⟩
 have CEL:∀ {id:Pa} {op:Bool} {m:Nat} {t:T AV} {b n off:Nat} {l:List AV},N id->T.get .no id h1=.cells op m t->E1 id=some (b,n)->off+l.length<=m ->
   (∀ (i:Nat) v,l[i]? = some v->∀ {vv:Value},VR E1 (T.get .u (.of (off+i)) t) vv->VR (E.fix h w E' w') v vv)->VRF (E.fix h w E' w') l b off:=by
  intro id op m t b n off l hn hb hE hle ih;obtain ⟨hnot,hnew⟩:=hN id b n hn (by rw [hb];intro e;cases e) hE;obtain ⟨b',n',c,ty,fr,q1,q2,_,_,_,_,q3⟩:=H1.cells hb;obtain ⟨rfl,rfl⟩:b=b'/\n=n':=by rw [hE] at q1;cases q1;exact ⟨rfl,rfl⟩
  refine VRF.sO λi a hi => ?_;have hil:=(Zgv.1 hi).1;obtain ⟨_,u,q4,q5⟩:=q3 (off+i) (by omega);refine ⟨u,?_,ih i a hi q5⟩;have hcell:uM w' b (off+i)=some u:=by simp [uM,q2,q4]
  rcases Env.zfe E h w E' w' b (off+i) with ⟨e1,e2⟩ | ⟨_,e1⟩
  .obtain ⟨z,hz⟩:=Option.ne_none_iff_exists'.1 e2;rw [e1,hz,<- H1.laid hz,hcell]
  .rw [e1,if_neg hnot,if_pos (hnew.imp_right Or.inr),hcell]
 induction hF with
 | bool b=>intro vv hv;simpa only [VR] using hv
 | int k n=>intro vv hv;simpa only [VR] using hv
 | str s=>intro vv hv;simpa only [VR] using hv
 | tK=>intro vv hv;simpa only [VR] using hv
 | zb=>intro vv hv;simpa only [VR] using hv
 | esl=>intro vv hv;simpa only [VR] using hv
 | sM=>intro vv hv;simpa only [VR] using hv
 | sK=>intro vv hv;simpa only [VR] using hv
 | oQ e=>intro vv hv;simp only [VR] at hv ⊢;exact ⟨rfl,by simp,none,0,hv,.inl (by simp)⟩
 | lesl e=>intro vv hv;simp only [VR] at hv ⊢;obtain ⟨a,c,hv⟩:=hv;exact ⟨rfl,by simp,some a,c,hv,.inl (by simp)⟩
 | lst e n l ha g=>intro vv hv;exact VR.nn (hfz ha) _ (by simpa only [nn] using g) hv
 | fp l ha g=>intro vv hv;exact VR.nn (hfz ha) _ (by simpa only [nn] using g) hv
 | old v ho=>exact hO _ _ ho
 | sl id off ln cap esz op m t l hn hcl hb hle hlen hsc _ ih =>
  intro vv hv;obtain ⟨b,n,c,hE,rfl,hc⟩:=hv.si;simp only [VR];refine ⟨hsc,hlen,_,c,rfl,?_⟩;by_cases h0:ln=0
  .exact .inl ⟨h0,by intro q;cases q⟩
  .refine .inr ⟨b,off,rfl,?_,CEL hn hb hE (by rw [hlen];exact hle) ih⟩;cases cap with
   | none=>exact hc.1
   | some k=>rw [show c=k from hc];exact hcl
 | ptr id off op m t l hn hb hle hsc _ ih =>
  intro vv hv;obtain ⟨b,n,hE,rfl⟩:=hv.tX;exact zln hsc (CEL hn hb hE hle ih)
 | agg l l' hlen hsc _ ih =>
  intro vv hv;obtain ⟨_,vs,rfl,hvs⟩:=hv.ak;simp only [VR];exact ⟨hsc,vs,rfl,VLR hlen ih hvs⟩
 | tup l l' hlen _ ih =>
  intro vv hv;obtain ⟨vs,rfl,hvs⟩:=hv.zff;exact dJ (VLR hlen ih hvs)
 | fn f p l l' hlen _ ih =>
  intro vv hv;simp only [VR] at hv ⊢;obtain ⟨h1,vs,rfl,hvs⟩:=hv;exact ⟨h1,vs,rfl,VLR hlen ih hvs⟩
def u7 (h h':T Blk):Prop:=∀ id,T.get .no id h≠.no->T.get .no id h'=T.get .no id h
variable {E2:Env} {h':T Blk} {nx':Pa}
mutual
theorem VR.back (hE:E.le E') (hn:E2.nm=E.nm) (hf:∀ b i v,E'.fz b i=some v->E2.fz b i=some v):∀ (a:AV) {u v:Value},VR E a u->VR E' a v->VR E2 a v
 | .bool _,_,_,_,h=>by simpa only [VR] using h
 | .int _ _,_,_,_,h=>by simpa only [VR] using h
 | .str _,_,_,_,h=>by simpa only [VR] using h
 | .tK,_,_,_,h=>by simpa only [VR] using h
 | .ptr id off,_,_,g,h=>by
  simp only [VR] at g h ⊢;obtain ⟨b,n,q,_⟩:=g;obtain ⟨b',n',q',r⟩:=h;rw [hE.nm _ _ q] at q';cases q';exact ⟨b,n,by rw [hn];exact q,r⟩
 | .zb,_,_,_,h=>by simpa only [VR] using h
 | .sl id off ln cap esz,_,_,g,h=>by
  simp only [VR] at g h ⊢;obtain ⟨b,n,c,q,_⟩:=g;obtain ⟨b',n',c',q',r⟩:=h;rw [hE.nm _ _ q] at q';cases q';exact ⟨b,n,c',by rw [hn];exact q,r⟩
 | .esl,_,_,_,h=>by simpa only [VR] using h
 | .sM,_,_,_,h=>by simpa only [VR] using h
 | .map id,_,_,g,h=>by
  simp only [VR] at g h ⊢;obtain ⟨b,n,q,_⟩:=g;obtain ⟨b',n',q',r⟩:=h;rw [hE.nm _ _ q] at q';cases q';exact ⟨b,n,by rw [hn];exact q,r⟩
 | .sK,_,_,_,h=>by simpa only [VR] using h
 | .fn _ _ c,_,_,g,h=>by
  simp only [VR] at g h ⊢;obtain ⟨q,vs,r,s⟩:=h;obtain ⟨_,vs',r',s'⟩:=g;exact ⟨q,vs,r,VRL.back hE hn hf c s' s⟩
 | .bm _ _ c,_,_,g,h=>by
  simp only [VR] at g h ⊢;obtain ⟨q,vs,r,s⟩:=h;obtain ⟨_,vs',r',s'⟩:=g;exact ⟨q,vs,r,VRL.back hE hn hf c s' s⟩
 | .yld id,_,_,g,h=>by
  simp only [VR] at g h ⊢;obtain ⟨b,n,q,_⟩:=g;obtain ⟨b',n',q',r⟩:=h;rw [hE.nm _ _ q] at q';cases q';exact ⟨b,n,by rw [hn];exact q,r⟩
 | .agg l,_,_,g,h=>by
  simp only [VR] at g h ⊢;obtain ⟨q,vs,r,s⟩:=h;obtain ⟨_,vs',r',s'⟩:=g;exact ⟨q,vs,r,VRL.back hE hn hf l s' s⟩
 | .tup l,_,_,g,h=>by
  simp only [VR] at g h ⊢;obtain ⟨vs,r,s⟩:=h;obtain ⟨vs',r',s'⟩:=g;exact ⟨vs,r,VRL.back hE hn hf l s' s⟩
 | .lst e n l,_,_,g,h=>by
  simp only [VR] at g h ⊢;obtain ⟨_,_,_,_,_,g4⟩:=g;obtain ⟨h1,h2,p,c,h3,h4⟩:=h;refine ⟨h1,h2,p,c,h3,?_⟩;by_cases h0:n=0
  .rcases h4 with q | ⟨b',off',e1,_⟩
   .exact .inl q
   .exact .inl ⟨h0,by rw [e1];intro q;cases q⟩
  .obtain ⟨b,off,_,_,gg⟩:=g4.resolve_left (λq=>h0 q.1);obtain ⟨b',off',e1,e2,hh⟩:=h4.resolve_left (λq=>h0 q.1);exact .inr ⟨b',off',e1,e2,VRF.back hE hn hf l gg hh⟩
 | .fp l,_,_,g,h=>by
  simp only [VR] at g h ⊢;obtain ⟨_,b,off,_,gg⟩:=g;obtain ⟨h1,b',off',e,hh⟩:=h;exact ⟨h1,b',off',e,VRF.back hE hn hf l gg hh⟩
theorem VRL.back (hE:E.le E') (hn:E2.nm=E.nm) (hf:∀ b i v,E'.fz b i=some v->E2.fz b i=some v):∀ (l:List AV) {us vs:List Value},VRL E l us->VRL E' l vs->VRL E2 l vs
 | [],_,_,_,h=>by simpa only [VRL] using h
 | a::l,_,_,g,h=>by
  simp only [VRL] at g h ⊢;obtain ⟨v,m,q,r,s⟩:=h;obtain ⟨_,_,_,r',s'⟩:=g;exact ⟨v,m,q,VR.back hE hn hf a r' r,VRL.back hE hn hf l s' s⟩
theorem VRF.back (hE:E.le E') (hn:E2.nm=E.nm) (hf:∀ b i v,E'.fz b i=some v->E2.fz b i=some v):∀ (l:List AV) {b off b' off':Nat},VRF E l b off->VRF E' l b' off'->VRF E2 l b' off'
 | [],_,_,_,_,_,_=>by simp only [VRF]
 | a::l,_,_,_,_,g,h=>by
  simp only [VRF] at g h ⊢;obtain ⟨v,q,r,s⟩:=h;obtain ⟨_,_,r',s'⟩:=g;exact ⟨v,hf _ _ _ q,VR.back hE hn hf a r' r,VRF.back hE hn hf l s' s⟩
end
theorem BR.back (hE:E.le E') (hn:E2.nm=E.nm) (hf:∀ b i v,E'.fz b i=some v->E2.fz b i=some v) (h2:E.le E2) {n:Nat} {b:Blk} {o o':Obj} (hl:∀ L:Loop,o=.loop L->∃ L':Loop,o'=.loop L'/\r9 L' L)
  (g:BR P E n b o) (g':BR P E' n b o'):BR P E2 n b o':=by
 cases b with
 | no=>trivial
 | cells op m t =>
  obtain ⟨c,ty,fr,rfl,_,_,_,_,h6⟩:=g;obtain ⟨c',ty',fr',rfl,k2,k3,k4,k5,k6⟩:=g';refine ⟨c',ty',fr',rfl,k2,k3,k4,k5,λi hi => ?_⟩;obtain ⟨_,u,_,r⟩:=h6 i hi;obtain ⟨a,v,q',r'⟩:=k6 i hi;exact ⟨a,v,q',VR.back hE hn hf _ r r'⟩
 | map k l =>
  obtain ⟨es,rfl,_,_,h4⟩:=g;obtain ⟨es',rfl,k2,k3,k4⟩:=g';refine ⟨es',rfl,k2,k3,λi x y hi => ?_⟩;obtain ⟨e,_,_,r,s⟩:=h4 i x y hi;obtain ⟨e',q',b',r',s'⟩:=k4 i x y hi;exact ⟨e',q',b',VR.back hE hn hf _ r r',VR.back hE hn hf _ s s'⟩
 | loop st j tm ps x y =>
  obtain ⟨L,loc,N,rfl,s1,s2,s3,s4,s5,s6,s7,s8⟩:=g;obtain ⟨L',rfl,S⟩:=hl L rfl;obtain ⟨L1,loc1,N1,e1,t1,t2,_⟩:=g';cases e1
  refine ⟨L',loc,N,rfl,t1,t2,by rw [S.tmps];exact s3.mono h2,by rw [S.tmps];exact s4,s5,by rw [S.params];exact s6,by rw [S.assign];exact s7,by rw [S.body];exact s8⟩
 | iter m k seen c =>
  obtain ⟨bm,nm,g1,rfl,g2⟩:=g;obtain ⟨bm',nm',g3,rfl,g4⟩:=g';exact ⟨bm',nm',by show E2.nm m=_;rw [hn];rw [hE.nm _ _ g1] at g3;cases g3;exact g1,rfl,g4⟩
theorem zbj (H:HR P B E h nx w) (H':HR P B E' h' nx' w') (X:Ex E E' w w') (hk:u7 h h') :
  HR P B (E.fix h w E' w') h nx w'/\Ex E (E.fix h w E' w') w w'/\(∀ b i v,E'.fz b i=some v->(E.fix h w E' w').fz b i=some v):=by
 have hlive:∀ b,cD E h b->∃ id n,E id=some (b,n)/\E' id=some (b,n)/\T.get .no id h≠.no/\T.get .no id h'≠.no:=by
  rintro b ⟨id,n,h1,h2⟩;exact ⟨id,n,h1,X.le.nm _ _ h1,h2,by rw [hk id h2];exact h2⟩
 have hfz:∀ b i v,E'.fz b i=some v->(E.fix h w E' w').fz b i=some v:=by
  intro b i v hf;obtain ⟨⟨c,ty,fr,q1,q2⟩,q3⟩:=H'.frz b i v hf;have hcell:uM w' b i=some v:=by simp [uM,q1,q2]
  rcases Env.zfe E h w E' w' b i with ⟨e1,e2⟩ | ⟨_,e1⟩
  .obtain ⟨z,hz⟩:=Option.ne_none_iff_exists'.1 e2;rw [e1,hz,<- H'.laid hz,hcell]
  rw [e1,if_neg]
  .rw [if_pos (.inr (.inl (by rw [hf];rfl))),hcell]
  .intro ho;obtain ⟨id,n,_,h2,_,h4⟩:=hlive b ho;exact h4 (q3 id n h2)
 have hle:E.le (E.fix h w E' w'):=⟨λ_ _ h=>h,λb i v hf=>hfz b i v (X.le.fz b i v hf)⟩;refine ⟨⟨?_,H.inj,H.fresh,?_,Zbe H.base X.size,?_⟩,⟨hle,X.os,X.tape,X.output,X.size,X.keep,λid b n hid=>.inr ⟨id,n,hid⟩,?_,X.loop⟩,hfz⟩
 .intro id hid;obtain ⟨b,n,o,h1,h2,h3⟩:=H.blk id hid;obtain ⟨b',n',o',k1,k2,k3⟩:=H'.blk id (by rw [hk id hid];exact hid);rw [X.le.nm _ _ h1] at k1;cases k1;rw [hk id hid] at k3;refine ⟨b,n,o',h1,k2,BR.back (E2:=E.fix h w E' w') X.le rfl hfz hle (λL hL => ?_) h3 k3⟩;rw [hL] at h2;obtain ⟨L',q1,q2⟩:=X.loop b L h2;rw [k2] at q1;cases q1;exact ⟨L',rfl,q2⟩
 .intro id b n hid;have:=H.lt id b n hid;exact ⟨this.1,Zdc this.2 X.size⟩
 .intro b i v hf;rcases Env.zfe E h w E' w' b i with ⟨e1,e2⟩ | ⟨_,e1⟩
  .rw [e1] at hf;exact ⟨(H'.frz b i v (E'.lay b i v hf)).1,(H.frz b i v (E.lay b i v hf)).2⟩
  rw [e1] at hf;by_cases ho:cD E h b
  .rw [if_pos ho] at hf;cases hf
  .rw [if_neg ho] at hf;have hf:uM w' b i=some v:=by
    split at hf
    .exact hf
    .cases hf
   refine ⟨?_,λid n hid => ?_⟩
   .unfold uM at hf;split at hf
    .rename_i c ty fr q;exact ⟨c,ty,fr,q,hf⟩
    .cases hf
   .exact Classical.not_not.1 λhne=>ho ⟨id,n,hid,hne⟩
 .intro b i v hf;rcases Env.zfe E h w E' w' b i with ⟨e1,e2⟩ | ⟨_,e1⟩
  .rw [e1] at hf;exact .inr (.inl ⟨v,E.lay b i v hf⟩)
  rw [e1] at hf;split at hf
  .cases hf
  .split at hf
   .rename_i hc;rcases hc with hc | hc | ⟨id,n,hc⟩
    .exact .inl hc
    .obtain ⟨u,hu⟩:=Option.isSome_iff_exists.1 hc;exact X.fzn b i u hu
    .rcases X.new id b n hc with q | ⟨id',n',q⟩
     .exact .inl q
     .exact .inr (.inr ⟨id',n',q⟩)
   .cases hf
def Pure (P:Program) (B:Nat) (f:Nat) (args:List AV) (Q:AV->Prop):Prop :=
 ∀ (p:Pa) (h:T Blk) (nx:Pa) (K:Kw Prop),(∀ v,Q v->Fr h nx->K v h nx=.ok True)->(CS P B).fn f p args h nx K=.ok True
abbrev sj (h h':T Blk):AV->AV->Prop :=
 Frz True (λid=>T.get .no id h=.no) (λv=>(∃ id off,v=.ptr id off/\T.get .no id h≠.no)\/(∃ id,v=.yld id/\T.get .no id h≠.no)\/(∃ id,v=.map id/\T.get .no id h≠.no)\/(∃ id off ln cap esz,v=.sl id off ln cap esz/\T.get .no id h≠.no)) h'
theorem zfg (H:HR P B E h nx w) (H':HR P B E' h' nx' w') (X:Ex E E' w w') (hk:u7 h h') {v v':AV} (hF:sj h h' v v') {vv:Value} (hv:VR E' v vv):VR (E.fix h w E' w') v' vv:=by
 obtain ⟨_,_,hfz⟩:=zbj H H' X hk;refine zdg H' (λ_=>hfz) (λid b n hn hne hE => ?_) (λv vv ho hv => ?_) hF hv
 .refine ⟨λho => ?_,.inr ⟨id,n,hE⟩⟩;obtain ⟨id',n',h1,h2⟩:=ho;have h3:=H'.inj id id' b n n' hne (by rw [hk id' h2];exact h2) hE (X.le.nm _ _ h1);rw [h3] at hn;exact h2 hn
 .have key:∀ id,T.get .no id h≠.no->∀ x,E' id=some x->E id=some x:=by
   intro id hid x hx;obtain ⟨b,n,o,h1,_⟩:=H.blk id hid;rw [X.le.nm _ _ h1] at hx;rw [<- hx];exact h1
  rcases ho with ⟨id,off,rfl,hid⟩ | ⟨id,rfl,hid⟩ | ⟨id,rfl,hid⟩ | ⟨id,off,ln,cap,esz,rfl,hid⟩
  .simp only [VR] at hv ⊢;obtain ⟨b,n,h1,h2⟩:=hv;exact ⟨b,n,key id hid _ h1,h2⟩
  .simp only [VR] at hv ⊢;obtain ⟨b,n,h1,h2⟩:=hv;exact ⟨b,n,key id hid _ h1,h2⟩
  .simp only [VR] at hv ⊢;obtain ⟨b,n,h1,h2⟩:=hv;exact ⟨b,n,key id hid _ h1,h2⟩
  .simp only [VR] at hv ⊢;obtain ⟨b,n,c,h1,h2⟩:=hv;exact ⟨b,n,c,key id hid _ h1,h2⟩
theorem zzd {f:Nat} {p:Pa} {args:List AV} {h:T Blk} {nx:Pa} {K:Kw Prop} {Q:AV->Prop} (hk:Fr h nx->∀ K:Kw Prop,(∀ v h' nx',Fr h' nx'->u7 h h'->(∃ v',sj h h' v v'/\Q v')->K v h' nx'=.ok True)->(CS P B).fn f (.of f) args h nx K=.ok True)
  (hK:∀ v,Q v->Fr h nx->K v h nx=.ok True):(CS P B).fn f p args h nx K=.ok True:=by
 rw [aC];refine ⟨λE w vs H hv => ?_,rfl⟩;have hk:=hk H.fr (λv h' nx'=>if u7 h h'/\∃ v',sj h h' v v'/\Q v' then .ok True else .no 0) (λv h' nx' _ h1 h2=>if_pos ⟨h1,h2⟩);rw [aC] at hk;obtain ⟨fn,h1,h2,h3,h4⟩:=hk.1 E w vs H hv;refine ⟨fn,h1,h2,h3,λn=>(h4 n).mono λe w' he => ?_⟩
 cases e <;> first
  | exact he.elim
  |(obtain ⟨av,h',nx',E',k1,k2,k3,k4⟩:=he
    by_cases hc:u7 h h'/\∃ v',sj h h' av v'/\Q v'
    .obtain ⟨hkp,v',hF,hQ⟩:=hc;obtain ⟨r1,r2,_⟩:=zbj H k3 k4 hkp;exact ⟨v',h,nx,_,hK v' hQ H.fr,zfg H k3 k4 hkp hF k2,r1,r2⟩
    .dsimp only at k1;rw [if_neg hc] at k1;cases k1)
theorem zup {f:Nat} {args:List AV} {Q:AV->Prop} (hk:∀ (h:T Blk) (nx:Pa) (K:Kw Prop),Fr h nx->(∀ v h' nx',Fr h' nx'->u7 h h'->(∃ v',sj h h' v v'/\Q v')->K v h' nx'=.ok True)->(CS P B).fn f (.of f) args h nx K=.ok True):Pure P B f args Q :=
 λ_ h nx _ hK=>zzd (λhf K=>hk h nx K hf) hK
def capB (ln:Nat):Option Nat->Bool
 | some k=>Nat.ble ln k
 | none=>true
def fzA:Nat->T Blk->AV->Option AV
 | 0,_,_=>none
 | d+1,h,v=>match v with
  | .sl id off ln cap esz=>match T.get .no id h with
   | .cells _ m t=>bif Nat.ble (off+ln*esz) m&&capB ln cap then match (yR t off (ln*esz)).mapM (fzA d h) with
     | some l=>bif l.all gy then some (.lst esz ln l) else none
     | none=>none
    else none
   | _=>none
  | .agg l=>match l.mapM (fzA d h) with
   | some l=>bif l.all gy then some (.agg l) else none
   | none=>none
  | .tup l=>(l.mapM (fzA d h)).map .tup
  | .bool b=>some (.bool b)
  | .int k n=>some (.int k n)
  | .str s=>some (.str s)
  | .tK=>some .tK
  | .zb=>some .zb
  | .sM=>some .sM
  | .sK=>some .sK
  | _=>none
theorem wK {α β:Type} {f:α->Option β}:∀ {l:List α} {l':List β},l.mapM f=some l'->l'.length=l.length/\∀ (i:Nat) a b,l[i]? = some a->l'[i]? = some b->f a=some b
 | [],l',h=>by simp at h;subst h;exact ⟨rfl,λi a b h=>by simp at h⟩
 | a::l,l',h=>by
  rw [Zcb] at h;cases ha:f a with
  | none=>simp [ha] at h
  | some b =>
   cases hl:l.mapM f with
   | none=>simp [ha,hl] at h
   | some m =>
    simp [ha,hl] at h;subst h;obtain ⟨h1,h2⟩:=wK hl;refine ⟨by simp [h1],λi x y hx hy => ?_⟩;cases i with
    | zero=>simp at hx hy;subst hx;subst hy;exact ha
    | succ i=>exact h2 i x y (by simpa using hx) (by simpa using hy)
theorem zfh {O:AV->Prop}:∀ (d:Nat) {h:T Blk} {v v':AV},fzA d h v=some v'->Frz False (λ_=>True) O h v v'
 | 0,_,_,_,hf=>by simp [fzA] at hf
 | d+1,h,v,v',hf=>by
  unfold fzA at hf;split at hf
  .rename_i id off ln cap esz;split at hf
   .rename_i op m t hb;cases hc:(Nat.ble (off+ln*esz) m&&capB ln cap) with
    | false=>rw [hc,cond_false] at hf;cases hf
    | true =>
     rw [hc,cond_true] at hf;split at hf
     .rename_i l hl;cases hs:l.all gy with
      | false=>simp [hs] at hf
      | true =>
       simp [hs] at hf;subst hf;obtain ⟨h1,h2⟩:=wK hl;rw [gO] at h1;rw [Zap] at hc;refine .sl _ _ _ _ _ op m t _ trivial ?_ hb (yG hc.1) h1 hs λi v hi => ?_
       .cases cap with
        | none=>trivial
        | some k=>exact yG hc.2
       .have hil:=(Zgv.1 hi).1;exact zfh d (h2 i _ _ (yF t off _ i (by omega)) hi)
     .cases hf
   .cases hf
  .rename_i l;split at hf
   .rename_i l' hl;cases hs:l'.all gy with
    | false=>simp [hs] at hf
    | true =>
     simp [hs] at hf;subst hf;obtain ⟨h1,h2⟩:=wK hl;exact .agg _ _ h1 hs λi v v' hi hi'=>zfh d (h2 i _ _ hi hi')
   .cases hf
  .rename_i l;simp only [Zax] at hf;obtain ⟨l',hl,rfl⟩:=hf;obtain ⟨h1,h2⟩:=wK hl;exact .tup _ _ h1 λi v v' hi hi'=>zfh d (h2 i _ _ hi hi')
  .cases hf;exact .bool _
  .cases hf;exact .int _ _
  .cases hf;exact .str _
  .cases hf;exact .tK
  .cases hf;exact .zb
  .cases hf;exact .sM
  .cases hf;exact .sK
  .cases hf
def endK:Kw AV:=λv h _=>match fzA 20 h v with
 | some v'=>.ok v'
 | none=>.no 1
theorem znb {C:Calls AV} (hC:∀ B,COk P B C) {f:Nat} {args:List AV} {r:AV} (ha:nns args=true) (hk:C.fn f (.of f) args .e .z endK=.ok r) :
  Pure P B f args (· = r):=by
 intro p h nx K hK;rw [aC];refine ⟨λE w vs H hv => ?_,rfl⟩
 have Hc:HR P w.heap.size ⟨λ_=>none,E.fz,E.lay⟩ .e .z w:={
  blk:=λid hid=>hid.elim (T.rV _ id)
  inj:=λid id' b n n' h1=>(h1 (T.rV _ id)).elim
  fresh:=λ_ _=>rfl
  lt:=λid b n hid=>by cases hid
  base:=Zaf _
  frz:=λb i v hf=>⟨(H.frz b i v hf).1,λid n hid=>by cases hid⟩ }
 obtain ⟨fn,h1,h2,h3,h4⟩:=(hC w.heap.size).fn Hc (VRL.nn (E:=E) (E':=⟨λ_=>none,E.fz,E.lay⟩) (λ_ _ _ q=>q) _ ha hv) hk;refine ⟨fn,h1,h2,h3,λn=>(h4 n).mono λe w' he => ?_⟩
 cases e <;> first
  | exact he.elim
  |(obtain ⟨av,h',nx',E1,k1,k2,k3,k4⟩:=he
    have hkeep:∀ b,b<w.heap.size->w'.heap[b]? = w.heap[b]? := λb hb=>k4.keep b hb λid n hid=>by cases hid
    have H':HR P B E h nx w':={
     blk:=λid hid=>by
      obtain ⟨b,n,o,q1,q2,q3⟩:=H.blk id hid;exact ⟨b,n,o,q1,by rw [hkeep b (H.lt _ _ _ q1).2];exact q2,q3⟩
     inj:=H.inj
     fresh:=H.fresh
     lt:=λid b n hid=>⟨(H.lt id b n hid).1,Zdc (H.lt id b n hid).2 k4.size⟩
     base:=Zbe H.base k4.size
     frz:=λb i v hf=>by
      obtain ⟨⟨c,ty,fr,q1,q2⟩,q3⟩:=H.frz b i v hf;exact ⟨⟨c,ty,fr,by rw [hkeep b (Zgy.1 q1).1];exact q1,q2⟩,q3⟩ }
    have X':Ex E E w w':=⟨.refl _,k4.os,k4.tape,k4.output,k4.size,λb hb _=>hkeep b hb,λid b n hid=>.inr ⟨id,n,hid⟩,λ_ _ v h=>.inr (.inl ⟨v,h⟩),k4.loop⟩;obtain ⟨r1,r2,_⟩:=zbj H H' X' (λ_ _=>rfl);have hz:fzA 20 h' av=some r:=by
     unfold endK at k1;cases hq:fzA 20 h' av with
     | none=>simp [hq] at k1
     | some v'=>simp [hq] at k1;rw [k1]
    refine ⟨r,h,nx,_,hK r rfl H.fr,zdg (A:=False) (N:=λ_=>True) (O:=λ_=>False) k3 (λq=>q.elim) (λid b n _ _ hE=>⟨λho => ?_,.inl ?_⟩) (λ_ _ q=>q.elim) (zfh 20 hz) k2,r1,r2⟩
    .obtain ⟨id0,n0,q1,_⟩:=ho;have hb:=(H.lt _ _ _ q1).2;rcases k4.new id b n hE with hge | ⟨_,_,q⟩
     .omega
     .cases q
    .rcases k4.new id b n hE with hge | ⟨_,_,q⟩
     .exact hge
     .cases q)
def JOk (P:Program) (B:Nat) (J:Nat->List AV->T Blk->Option (AV×T Blk)):Prop :=
 ∀ {E:Env} {h:T Blk} {nx:Pa} {w:World} {f:Nat} {args:List AV} {vs:Array Value} {v:AV} {h2:T Blk},HR P B E h nx w->VRL E args vs.toList->J f args h=some (v,h2) ->
  ∃ _:Unit,True/\True/\True/\∀ n,oO n P f vs w λe w'=>∃ u E',e=.returned u/\VR E' v u/\HR P B E' h2 nx w'/\Ex E E' w w'
theorem zlo {J:Nat->List AV->T Blk->Option (AV×T Blk)} (hJ:JOk P B J) {f:Nat} {p:Pa} {args:List AV} {h h2:T Blk} {nx:Pa} {K:Kw Prop} {v:AV} (hj:J f args h=some (v,h2)) (hk:K v h2 nx=.ok True):(CS P B).fn f p args h nx K=.ok True:=by
 rw [aC];refine ⟨λE w vs H hv => ?_,rfl⟩;obtain ⟨fn,h1,h2,h3,h4⟩:=hJ H hv hj;refine ⟨fn,h1,h2,h3,λn=>(h4 n).mono λe w' he => ?_⟩;obtain ⟨u,E',rfl,q1,q2,q3⟩:=he;exact ⟨v,_,nx,E',hk,q1,q2,q3⟩
theorem HR.zqn {E:Env} {h h':T Blk} {nx:Pa} {w:World} (H:HR P B E h nx w) (hk:u7 h' h):HR P B E h' nx w:={
 blk:=λid hid=>by
  have e:=hk id hid;obtain ⟨b,n,o,q1,q2,q3⟩:=H.blk id (by rw [e];exact hid);exact ⟨b,n,o,q1,q2,by rw [<- e];exact q3⟩
 inj:=λid id' b n n' h1 h2 h3 h4=>H.inj id id' b n n' (by rw [hk id h1];exact h1) (by rw [hk id' h2];exact h2) h3 h4
 fresh:=H.fresh
 lt:=H.lt
 base:=H.base
 frz:=λb i v hf=>by
  obtain ⟨h1,h2⟩:=H.frz b i v hf;refine ⟨h1,λid n hid => ?_⟩;by_cases hb:T.get .no id h'=.no
  .exact hb
  .have:=h2 id n hid;rw [hk id hb] at this;exact this }
inductive FrzL (h h':T Blk):List AV->List AV->Prop
 | nil:FrzL h h' [] []
 | cons {a a' l l'}:sj h h' a a'->FrzL h h' l l'->FrzL h h' (a::l) (a'::l')
theorem zfi {E E':Env} {h h':T Blk} {nx nx':Pa} {w w':World} (H:HR P B E h nx w) (H':HR P B E' h' nx' w') (X:Ex E E' w w') (hk:u7 h h'):∀ {l l':List AV},FrzL h h' l l'->∀ {vs:List Value},VRL E' l vs->VRL (E.fix h w E' w') l' vs
 | _,_,.nil,vs,hv=>by simpa only [VRL] using hv
 | _,_,.cons h1 h2,vs,hv=>by
  simp only [VRL] at hv ⊢;obtain ⟨v,vs',rfl,q1,q2⟩:=hv;exact ⟨v,vs',rfl,zfg H H' X hk h1 q1,zfi H H' X hk h2 q2⟩
theorem fB {f:Nat} {p:Pa} {args args':List AV} {h h':T Blk} {nx:Pa} {K:Kw Prop} (hk:u7 h' h) (hF:FrzL h' h args args') (hc:(CS P B).fn f p args' h' nx K=.ok True):(CS P B).fn f p args h nx K=.ok True:=by
 rw [aC] at hc ⊢;refine ⟨λE w vs H hv => ?_,rfl⟩;have H0:=H.zqn hk;obtain ⟨r1,r2,r3⟩:=zbj H0 H (Ex.refl E w) hk;obtain ⟨fn,h1,h2,h3,h4⟩:=hc.1 _ w vs r1 (zfi H0 H (Ex.refl E w) hk hF hv);refine ⟨fn,h1,h2,h3,λn=>(h4 n).mono λe w' he => ?_⟩
 cases e <;> first
  | exact he.elim
  |(obtain ⟨av,h2,nx',E1,k1,k2,k3,k4⟩:=he
    exact ⟨av,h2,nx',E1,k1,k2,k3,r2.trans k4⟩)
inductive Plain:AV->Prop
 | bool b:Plain (.bool b)
 | int k n:Plain (.int k n)
 | str s:Plain (.str s)
 | tK:Plain .tK
 | zb:Plain .zb
 | sM:Plain .sM
 | sK:Plain .sK
 | tup l:(∀ v∈l,Plain v)->Plain (.tup l)
theorem Plain.any {E E':Env}:∀ {v:AV},Plain v->∀ {u:Value},VR E v u->VR E' v u:=by
 intro v hp
 induction hp with
 | tup l _ ih =>
  intro u hu;obtain ⟨vs,rfl,hv⟩:=hu.zff;simp only [VR];refine ⟨vs,rfl,VRL.sO hv.length λi a ha => ?_⟩;obtain ⟨x,q1,q2⟩:=hv.get ha;exact ⟨x,q1,ih a (Zad ha) q2⟩
 | _=>intro u hu;simpa only [VR] using hu
theorem zhf {f:Nat} {p:Pa} {args args':List AV} {h:T Blk} {nx:Pa} {K:Kw Prop} {Q:AV->Prop} (hF:FrzL .e h args args') (hn:nns args'=true) (hq:∀ B,Pure P B f args' Q) (hpl:∀ v,Q v->Plain v) (hK:∀ v,Q v->Fr h nx->K v h nx=.ok True):(CS P B).fn f p args h nx K=.ok True:=by
 rw [aC];refine ⟨λE w vs H hv => ?_,rfl⟩;have hke:u7 .e h:=λid hid=>(hid (T.rV _ id)).elim;have H0:=H.zqn hke;obtain ⟨r1,r2,r3⟩:=zbj H0 H (Ex.refl E w) hke
 have r1':HR P w.heap.size ⟨λ_=>none,(E.fix .e w E w).fz,(E.fix .e w E w).lay⟩ .e .z w:={
  blk:=λid hid=>hid.elim (T.rV _ id)
  inj:=λid id' b n n' h1=>(h1 (T.rV _ id)).elim
  fresh:=λ_ _=>rfl
  lt:=λid b n hid=>by cases hid
  base:=Zaf _
  frz:=λb i v hf=>⟨(r1.frz b i v hf).1,λid n hid=>by cases hid⟩ }
 have hv':=VRL.nn (E:=E.fix .e w E w) (E':=⟨λ_=>none,(E.fix .e w E w).fz,(E.fix .e w E w).lay⟩) (λ_ _ _ q=>q) _ hn (zfi H0 H (Ex.refl E w) hke hF hv);have hc:=hq w.heap.size p .e .z (λv _ _=>if Q v then .ok True else .no 0) (λv hv _=>if_pos hv);rw [aC] at hc;obtain ⟨fn,h1,h2,h3,h4⟩:=hc.1 _ w vs r1' hv';refine ⟨fn,h1,h2,h3,λn=>(h4 n).mono λe w' he => ?_⟩
 cases e <;> first
  | exact he.elim
  |(obtain ⟨av,h',nx',E1,k1,k2,k3,k4⟩:=he
    have hQ:Q av:=by
     by_cases hq:Q av
     .exact hq
     .have k1':(if Q av then (Out.ok True:Out Prop) else .no 0)=.ok True:=k1;rw [if_neg hq] at k1';cases k1'
    have hkeep:∀ b,b<w.heap.size->w'.heap[b]? = w.heap[b]? := λb hb=>k4.keep b hb λid n hid=>by cases hid
    have H':HR P B E h nx w':={
     blk:=λid hid=>by
      obtain ⟨b,n,o,q1,q2,q3⟩:=H.blk id hid;exact ⟨b,n,o,q1,by rw [hkeep b (H.lt _ _ _ q1).2];exact q2,q3⟩
     inj:=H.inj
     fresh:=H.fresh
     lt:=λid b n hid=>⟨(H.lt id b n hid).1,Zdc (H.lt id b n hid).2 k4.size⟩
     base:=Zbe H.base k4.size
     frz:=λb i v hf=>by
      obtain ⟨⟨c,ty,fr,q1,q2⟩,q3⟩:=H.frz b i v hf;exact ⟨⟨c,ty,fr,by rw [hkeep b (Zgy.1 q1).1];exact q1,q2⟩,q3⟩ }
    exact ⟨av,h,nx,E,hK av hQ H.fr,(hpl av hQ).any k2,H',⟨.refl _,k4.os,k4.tape,k4.output,k4.size,λb hb _=>hkeep b hb,λid b n hid=>.inr ⟨id,n,hid⟩,λ_ _ v h=>.inr (.inl ⟨v,h⟩),k4.loop⟩⟩)
def zxj (b:Blk):Bool:=match b with
 | .no=>true
 | _=>false
def fzB:Nat->T Blk->T Blk->AV->Option AV
 | 0,_,_,_=>none
 | d+1,h',h,v=>match v with
  | .sl id off ln cap esz=>match T.get .no id h with
   | .cells _ m t=>bif Nat.ble (off+ln*esz) m&&capB ln cap&&zxj (T.get .no id h') then match (yR t off (ln*esz)).mapM (fzB d h' h) with
     | some l=>bif l.all gy then some (.lst esz ln l) else none
     | none=>none
    else none
   | _=>none
  | .agg l=>match l.mapM (fzB d h' h) with
   | some l=>bif l.all gy then some (.agg l) else none
   | none=>none
  | .lst e n l=>bif nns l then some (.lst e n l) else none
  | .tup l=>(l.mapM (fzB d h' h)).map .tup
  | .bool b=>some (.bool b)
  | .int k n=>some (.int k n)
  | .str s=>some (.str s)
  | .zb=>some .zb
  | .tK=>some .tK
  | .sM=>some .sM
  | .sK=>some .sK
  | _=>none
theorem zfj {h' h:T Blk}:∀ (d:Nat) {v v':AV},fzB d h' h v=some v'->sj h' h v v'
 | 0,_,_,hf=>by simp [fzB] at hf
 | d+1,v,v',hf=>by
  unfold fzB at hf;split at hf
  .rename_i id off ln cap esz;split at hf
   .rename_i op m t hb;cases hc:(Nat.ble (off+ln*esz) m&&capB ln cap&&zxj (T.get .no id h')) with
    | false=>rw [hc,cond_false] at hf;cases hf
    | true =>
     rw [hc,cond_true] at hf;split at hf
     .rename_i l hl;cases hs:l.all gy with
      | false=>simp [hs] at hf
      | true =>
       simp [hs] at hf;subst hf;obtain ⟨h1,h2⟩:=wK hl;rw [gO] at h1;rw [Zap,Zap] at hc;have hno:T.get .no id h'=.no:=by
        have:=hc.2;cases hq:T.get .no id h' <;> first | rfl | (rw [hq] at this;cases this)
       refine .sl _ _ _ _ _ op m t _ hno ?_ hb (yG hc.1.1) h1 hs λi v hi => ?_
       .cases cap with
        | none=>trivial
        | some k=>exact yG hc.1.2
       .have hil:=(Zgv.1 hi).1;exact zfj d (h2 i _ _ (yF t off _ i (by omega)) hi)
     .cases hf
   .cases hf
  .rename_i l;split at hf
   .rename_i l' hl;cases hs:l'.all gy with
    | false=>simp [hs] at hf
    | true =>
     simp [hs] at hf;subst hf;obtain ⟨h1,h2⟩:=wK hl;exact .agg _ _ h1 hs λi v v' hi hi'=>zfj d (h2 i _ _ hi hi')
   .cases hf
  .rename_i e n l;cases hq:nns l with
   | false=>simp [hq] at hf
   | true=>simp [hq] at hf;subst hf;exact .lst _ _ _ trivial hq
  .rename_i l;simp only [Zax] at hf;obtain ⟨l',hl,rfl⟩:=hf;obtain ⟨h1,h2⟩:=wK hl;exact .tup _ _ h1 λi v v' hi hi'=>zfj d (h2 i _ _ hi hi')
  .cases hf;exact .bool _
  .cases hf;exact .int _ _
  .cases hf;exact .str _
  .cases hf;exact .zb
  .cases hf;exact .tK
  .cases hf;exact .sM
  .cases hf;exact .sK
  .cases hf
end
end Go.Ev
namespace Go.Ev
open Go
abbrev OP:=Out Prop
theorem nr {α:Sort _} {a b:α} (h:a=b):a=b:=h
def gV (zero:List AV) (ps:List (Nat×Nat×AV)) (K:AV->OP):OP:=match gL zero ps with
  | some l=>K (.agg l)
  | none=>.no 2
def za (op:BinOp) (c:Cls) (x y:AV) (K:AV->OP):OP:=zpm c op x y K
def xI (esz:Nat) (x:AV) (lo hi mx:Option AV) (K:AV->OP):OP:=zar esz x lo hi mx K
def j4 (x:AV) (lo hi:Option AV) (K:AV->OP):OP:=tH x (λs =>
  match bnd hi s.length s.length with
   | none=>.no 18
   | some h=>match bnd lo h 0 with
    | none=>.no 18
    | some l=>K (.str ((s.drop l).take (h-l)))) (.no 18)
def sMin (mx:Bool) (x:AV) (xs:List AV) (K:AV->OP):OP:=match minA mx x xs with
  | some v=>K v
  | none=>.no 22
abbrev KW3:=AV->T Blk->Pa->OP
def yT (z:List AV) (h:T Blk) (nx:Pa) (K:KW3):OP:=jA false z h nx λid h' nx'=>K (.ptr id 0) h' nx'
def y3 (esz ln:Nat) (zero:List AV) (ps:List (Nat×Nat×AV)) (h:T Blk) (nx:Pa) (K:KW3):OP:=match gL (fe ln zero) ps with
  | some l=>jA false l h nx λid h' nx'=>K (.sl id 0 ln (some ln) esz) h' nx'
  | none=>.no 40
def zi9 (h:T Blk) (nx:Pa) (K:KW3):OP:=T.fq .no (.map 0 []) nx h λh'=>K (.map nx) h' nx.succ
def tJ (esz bytes:Nat) (s x:AV) (h:T Blk) (nx:Pa) (K:KW3):OP:=appA esz bytes s x h nx K
def gOk (g:AV) (want:Bool):Bool:=match g with
 | .bool b=>b==want
 | _=>false
def sG (g:AV) (want:Bool) (op:(AV->OP)->OP) (k:AV->OP):OP:=gK (gOk g want) op k
def sGW (g:AV) (want:Bool) (op:KW3->OP) (h:T Blk) (nx:Pa) (k:KW3):OP:=gKW (gOk g want) op h nx k
def zX (a b:AV) (k:OP):OP:=bif aX a b then k else .no 90
def sChk (b:Bool) (k:OP):OP:=bif b then k else .no 91
@[simp] theorem jL (k:OP):sChk true k=k:=nr rfl
def yV (c:AV) (a b:OP):OP:=asBool c (λt=>Bool.rec b a t) (.no 60)
def pq.blk (O:pq Prop) (id:Nat) (K:Ks Prop):pq Prop:=⟨λi=>bif Nat.beq i id then K else O.ex i,O.rt⟩
theorem yD (O:pq Prop) (id:Nat) (K:Ks Prop):(O.blk id K).ex id=K:=by
 show (bif Nat.beq id id then K else O.ex id)=K;rw [Zbz];rfl
theorem kV (O:pq Prop) (id:Nat) (K:Ks Prop):(O.blk id K).rt=O.rt:=rfl
def zf (res:List RV) (K:Kw Prop):Ks Prop:=λtm h nx=>resA res tm h λl=>K (resV l) h nx
def fnO (res:List RV) (K:Kw Prop):pq Prop:=⟨λ_ _ _ _=>.no 82,zf res K⟩
theorem zQ (res:List RV) (K:Kw Prop):(fnO res K).rt=zf res K:=rfl
theorem yC {fns:T (Option Fn)} {f:Nat} {F:Fn} (hF:T.get none (.of f) fns=some F) (C:Calls Prop) (N:Nat) (K:Kw Prop) (args:List AV) (h:T Blk) (nx:Pa) :
  zO fns N C (.of f) args h nx K=kW F.params args F.init λtm=>IR.run F.body C N (fnO F.res K) (zf F.res K) tm h nx:=by
 unfold zO;rw [hF];rfl
section
variable {C:Calls Prop} {N:Nat} {O:pq Prop} {K:Ks Prop}
theorem zJ (id:Nat) (b:IR) (tm:T AV) (h:T Blk) (nx:Pa):IR.run (.block id b) C N O K tm h nx=IR.run b C N (O.blk id K) K tm h nx:=rfl
theorem yB {b:IR} (Inv:Nat->T AV->T Blk->Pa->Prop)
  (hs:∀ m tm h nx (R:Ks Prop),Inv m tm h nx->(∀ m' tm' h' nx',m'<m->Inv m' tm' h' nx'->R tm' h' nx'=.ok True)->IR.run b C N O R tm h nx=.ok True) :
  ∀ {m:Nat} {tm:T AV} {h:T Blk} {nx:Pa},m<N->Inv m tm h nx->IR.run (.loop b) C N O K tm h nx=.ok True:=by
 have key:∀ (n m:Nat) tm h nx,m<n->Inv m tm h nx->(Nat.rec (motive:=λ_=>Ks Prop) (λ_ _ _=>.no 61) (λ_ ihn=>IR.run b C N O ihn) n:Ks Prop) tm h nx=.ok True:=by
  intro n
  induction n with
  | zero=>intro m tm h nx hm;omega
  | succ n ih=>intro m tm h nx hm hi;exact hs m tm h nx _ hi λm' tm' h' nx' hlt hi'=>ih m' tm' h' nx' (by omega) hi'
 intro m tm h nx hm hi;exact key N m tm h nx hm hi
end
abbrev I (z:Int):AV:=.int .i64 z
section
variable {K:AV->OP} {k:IntKind} {a b:Int}
theorem qY {z:Int} (h : -9223372036854775808<=z/\z<=9223372036854775807):IntKind.wrap .i64 z=z:=Go.IntWalk.i64_in _ h
@[simp] theorem zT (a b:AV):yO (.bool true) a b K=K a:=nr rfl
@[simp] theorem zW (a b:AV):yO (.bool false) a b K=K b:=nr rfl
theorem yZ (a:AV) (l:List AV):di 0 (.tup (a::l)) K=K a:=nr rfl
theorem jC (a b:AV) (l:List AV):di 1 (.tup (a::b::l)) K=K b:=nr rfl
theorem jW (a b c:AV) (l:List AV):di 2 (.tup (a::b::c::l)) K=K c:=nr rfl
theorem jP (a:AV) (l:List AV):zgr 0 none (.agg (a::l)) K=K a:=nr rfl
theorem jK (a b:AV) (l:List AV):zgr 1 none (.agg (a::b::l)) K=K b:=nr rfl
theorem jO (a b c:AV) (l:List AV):zgr 2 none (.agg (a::b::c::l)) K=K c:=nr rfl
theorem yN (op:(AV->OP)->OP):sG (.bool true) true op K=op K:=nr rfl
theorem yJ (op:(AV->OP)->OP):sG (.bool false) false op K=op K:=nr rfl
@[simp] theorem jB (b:Bool):sNot (.bool b) K=K (.bool !b):=nr rfl
theorem jg (h : -9223372036854775808<=a+b/\a+b<=9223372036854775807):za .add .int (I a) (I b) K=K (I (a+b)):=by
 show (wu (kK .i64 (iadd a b)) λz=>K (.int .i64 z))=_;simp [qY h]
theorem xg (h : -9223372036854775808<=a-b/\a-b<=9223372036854775807):za .sub .int (I a) (I b) K=K (I (a-b)):=by
 show (wu (kK .i64 (a-b)) λz=>K (.int .i64 z))=_;simp [qY h]
theorem nk (h : -9223372036854775808<=a*b/\a*b<=9223372036854775807):za .mul .int (I a) (I b) K=K (I (a*b)):=by
 show (wu (kK .i64 (a*b)) λz=>K (.int .i64 z))=_;simp [qY h]
theorem zxk:za .add .int (.int k a) (.int k b) K=K (.int k (k.wrap (a+b))):=by
 cases k <;> (show (wu (kK _ (iadd a b)) λz=>K (.int _ z))=_;simp)
theorem qcw:za .mul .int (.int k a) (.int k b) K=K (.int k (k.wrap (a*b))):=by
 cases k <;> (show (wu (kK _ (a*b)) λz=>K (.int _ z))=_;simp)
@[simp] theorem qf:za .eql .int (.int k a) (.int k b) K=K (.bool (decide (a=b))):=by
 have:za .eql .int (.int k a) (.int k b) K=K (.bool (ieq a b)):=by cases k <;> rfl
 rw [this,xM];rfl
@[simp] theorem qj:za .neq .int (.int k a) (.int k b) K=K (.bool (!decide (a=b))):=by
 have:za .neq .int (.int k a) (.int k b) K=K (.bool (!ieq a b)):=by cases k <;> rfl
 rw [this,xM];rfl
@[simp] theorem yu:za .lss .int (.int k a) (.int k b) K=K (.bool (decide (a<b))):=by
 have:za .lss .int (.int k a) (.int k b) K=K (.bool (ilt a b)):=by cases k <;> rfl
 rw [this,xL]
@[simp] theorem rq:za .leq .int (.int k a) (.int k b) K=K (.bool (decide (a<=b))):=by
 have:za .leq .int (.int k a) (.int k b) K=K (.bool (!ilt b a)):=by cases k <;> rfl
 rw [this,xL,mO]
@[simp] theorem kg:za .gtr .int (.int k a) (.int k b) K=K (.bool (decide (b<a))):=by
 have:za .gtr .int (.int k a) (.int k b) K=K (.bool (ilt b a)):=by cases k <;> rfl
 rw [this,xL]
@[simp] theorem bq:za .geq .int (.int k a) (.int k b) K=K (.bool (decide (b<=a))):=by
 have:za .geq .int (.int k a) (.int k b) K=K (.bool (!ilt a b)):=by cases k <;> rfl
 rw [this,xL,mO]
@[simp] theorem zD (a b:OP):yV (.bool true) a b=a:=nr rfl
@[simp] theorem zC (a b:OP):yV (.bool false) a b=b:=nr rfl
@[simp] theorem yU (op:(AV->OP)->OP):sG (.bool true) false op K=K .u:=nr rfl
@[simp] theorem yY (op:(AV->OP)->OP):sG (.bool false) true op K=K .u:=nr rfl
@[simp] theorem zS (e n:Nat) (l:List AV):sLen (.lst e n l) K=K (I n):=nr rfl
@[simp] theorem yH:sLen .zb K=K (I 0):=nr rfl
@[simp] theorem yL (id:Pa) (off n:Nat) (c:Option Nat) (e:Nat):sLen (.sl id off n c e) K=K (I n):=nr rfl
theorem zj2 {e n i:Nat} {l:List AV} (h:i<n):zN e (.lst e n l) (.int k (i:Int)) K=K (.fp (l.drop (i*e))):=by
 show (bif Nat.ble (i+1) n&&Nat.beq e e then _ else _)=_;rw [Zak h,Zbz];rfl
@[simp] theorem zqo (h:T Blk) (v:AV) (l:List AV):zH (.fp (v::l)) h K=K v:=nr rfl
theorem zj3 {h:T Blk} {l:List AV} {i:Nat} {v:AV} (hv:l[i]? = some v):zH (.fp (l.drop i)) h K=K v:=by
 have hi:=(Zgv.1 hv).1;rw [Zav hi,zqo];rw [Zgu hi] at hv;rw [Option.some.inj hv]
end
theorem znc:∀ a:AV,aX a a=true:=by
 have paR:∀ p:Pa,paEq p p=true:=by intro p;induction p <;> simp_all [paEq]
 have byR:∀ s:List UInt8,j5 s s=true:=λs=>xh.2 rfl;have kR:∀ k:IntKind,vB k k=true:=by intro k;cases k <;> rfl
 intro a;refine AV.rec (motive_1:=λa=>aX a a=true) (motive_2:=λl=>vL l l=true) ?_ ?_ ?_ ?_ ?_ ?_ ?_ ?_ ?_ ?_ ?_ ?_ ?_ ?_ ?_ ?_ ?_ ?_ ?_ ?_ a
 all_goals intros
 all_goals simp_all [aX,vL,Zbz,zle]
 rename_i cap _;cases cap <;> simp [zle,Zbz]
@[simp] theorem zF (a:AV) (k:OP):zX a a k=k:=by unfold zX;rw [znc];rfl
theorem zhg {F:Fn} {p:Pa}:∀ (l:List (Nat×Fn)) (t:T (Option Fn)),T.get none p (l.foldl (λt (x:Nat×Fn)=>T.fq none (some x.2) (.of x.1) t λt=>t) t)=some F->T.get none p t=some F\/∃ x∈l,p=.of x.1/\x.2=F
 | [],t,h=>.inl h
 | x::l,t,h=>by
  rw [Zco] at h;rcases zhg l _ h with h | ⟨y,hy,h1,h2⟩
  .rw [T.jo] at h;by_cases e:p=.of x.1
   .subst e;rw [T.get_set_same] at h;exact .inr ⟨x,Zai ..,rfl,Option.some.inj h⟩
   .rw [T.zk _ _ _ _ _ e] at h;exact .inl h
  .exact .inr ⟨y,Zam _ hy,h1,h2⟩
theorem zqp {P:Program} {t:T (Option Fn)} {l:List (Nat×Fn)} (ht:l.foldl (λt (x:Nat×Fn)=>T.fq none (some x.2) (.of x.1) t λt=>t) .e=t)
  (h:∀ x∈l,∃ (f:Func) (loc:List Nat),P.funcs[x.1]? = some f/\(f.name == "runtime.NumGoroutine")=false/\fnA P f loc=some x.2):zdc P t:=by
 intro i F hF;rw [<- ht] at hF;rcases zhg l .e hF with q | ⟨x,hx,h1,rfl⟩
 .rw [T.rV] at q;cases q
 .rw [Pa.zqq h1];exact h x hx
end Go.Ev
namespace Go.Ev
open Go
theorem pO (t:T AV) (l new:List AV) (n:Nat) (h:yR t 0 n=l):yR (jN new t n) 0 (n+new.length)=l++new:=by
 have hl:l.length=n:=by rw [<- h];simp
 apply Zbp;intro i;by_cases hi:i<n+new.length
 .rw [yF _ _ _ _ hi,Zbd,uB];by_cases h2:i<n
  .rw [Zha (by omega),<- h,yF _ _ _ _ h2,Zbd,if_neg (by omega)]
  .rw [Zgx (by omega),hl,if_pos (by omega)];rw [Zgu (by omega)];simp [Zaa,Zgu (show i-n<new.length by omega)]
 .rw [Zgz (by simp;omega),Zgz (by simp;omega)]
theorem qZ {e e' off n i:Nat} {id:Pa} {cap:Option Nat} {k:IntKind} {K:AV->OP} (h:i<n):zN e (.sl id off n cap e') (.int k (i:Int)) K=K (.ptr id (off+i*e)):=by
 show (bif Nat.ble (i+1) n then dw (off+i*e) (λo=>K (.ptr id o)) else _)=_;rw [Zak h,y4];rfl
theorem zdh {off n:Nat} {id:Pa} {op:Bool} {t:T AV} {h:T Blk} {K:AV->OP} (hb:T.get .no id h=.cells op n t) (hi:off<n):zH (.ptr id off) h K=K (T.get .u (.of off) t):=by
 show qb (T.get .no id h) _ _=_;rw [hb];show (bif Nat.ble (off+1) n then K (T.get .u (.of off) t) else _)=_;rw [Zak hi];rfl
theorem zj4 {off n:Nat} {id:Pa} {op:Bool} {t:T AV} {h:T Blk} {nx:Pa} {v:AV} {K:KW3} (hb:T.get .no id h=.cells op n t) (hi:off<n) (hv:v.cells=some [v]) :
  yA 1 (.ptr id off) v h nx K=K .u (T.set .no (.cells op n (T.set .u v (.of off) t)) id h) nx:=by
 show qb (T.get .no id h) _ _=_;rw [hb];show (match v.cells with | some c=>bif Nat.beq c.length 1&&Nat.ble (off+1) n then uW c t off (λt'=>T.fq (β:=OP) Blk.no (Blk.cells op n t') id h λh'=>K AV.u h' nx) else Out.no 42 | none=>Out.no 42)=_;rw [hv];show (bif Nat.beq 1 1&&Nat.ble (off+1) n then _ else _)=_;rw [Zak hi];show uW [v] t off _=_;rw [jQ,T.jo];rfl
end Go.Ev
