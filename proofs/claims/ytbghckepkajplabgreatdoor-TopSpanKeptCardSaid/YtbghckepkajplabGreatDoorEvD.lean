import Derived.Test.YtbghckepkajplabGreatDoorEvC
import Derived.Laws.Externs
import Derived.Shelf.Spec.BitsCarry
set_option linter.unusedSimpArgs false
set_option linter.unusedVariables false
noncomputable section
namespace Go.Ev
open Go
def uf (o:Option Pa) (e n:Nat):AV:=match o with
 | none=>.zb
 | some id=>.sl id 0 n none e
def cellV (o:Option Pa) (n:Nat):AV:=match o with
 | none=>.zb
 | some id=>.sl id 0 n (some n) 1
inductive Ob where
 | arr (id:Pa) (l:List AV)
 | row (o:Option Pa) (e n:Nat) (l:List AV)
 | tab (id:Pa) (rs:List (Option Pa)) (ll:List (List AV))
 | gro (o:Option Pa) (e n:Nat) (l:List AV)
 | map (id:Pa) (l:List (AV×AV))
 | iter (id mid:Pa) (n:Nat) (seen:List Nat) (c:Nat)
 | raw (id:Pa) (b:Blk)
def Ob.names:Ob->List Pa
 | .arr id _=>[id]
 | .row o _ _ _=>o.toList
 | .tab id rs _=>id::rs.filterMap (λo=>o)
 | .gro o _ _ _=>o.toList
 | .map id _=>[id]
 | .iter id _ _ _ _=>[id]
 | .raw id _=>[id]
def jr (h:T Blk) (id:Pa) (l:List AV):Prop:=∃ op t,T.get .no id h=.cells op l.length t/\yR t 0 l.length=l
def zqr (rs:List (Option Pa)) (ll:List (List AV)):List AV:=List.zipWith (λo l=>cellV o (List.length l)) rs ll
def Ob.holds (h:T Blk):Ob->Prop
 | .arr id l=>jr h id l
 | .row o e n l=>match o with
  | none=>l=[]/\n=0
  | some id=>∃ m t,T.get .no id h=.cells true m t/\l.length=n*e/\n*e<=m/\e∣m/\yR t 0 (n*e)=l
 | .tab id rs ll=>jr h id (zqr rs ll)/\rs.length=ll.length/\(∀ (i:Nat) (r:Pa),rs[i]? = some (some r)->∃ l,ll[i]? = some l/\jr h r l)/\∀ (i:Nat) l,rs[i]? = some none->ll[i]? = some l->l=[]
 | .gro o e n l=>match o with
  | none=>l=[]/\n=0
  | some id=>∃ t,T.get .no id h=.cells true (n*e) t/\l.length=n*e/\yR t 0 (n*e)=l
 | .map id l=>T.get .no id h=.map l.length l
 | .iter id mid n seen c=>T.get .no id h=.iter mid n seen c
 | .raw id b=>T.get .no id h=b/\b≠.no
theorem jr.congr {h h':T Blk} {id:Pa} {l:List AV} (H:jr h id l) (e:T.get .no id h'=T.get .no id h):jr h' id l:=by
 obtain ⟨op,t,h1,h2⟩:=H;exact ⟨op,t,by rw [e];exact h1,h2⟩
theorem Ob.holds.congr {h h':T Blk}:∀ {x:Ob},x.holds h->(∀ n∈x.names,T.get .no n h'=T.get .no n h)->x.holds h'
 | .arr id l,H,e=>jr.congr H (e id (by simp [Ob.names]))
 | .row none _ _ l,H,_=>H
 | .row (some id) _ _ l,H,e=>by
  obtain ⟨m,t,h1,h2⟩:=H;exact ⟨m,t,by rw [e id (by simp [Ob.names])];exact h1,h2⟩
 | .tab id rs ll,H,e=>by
  obtain ⟨h1,h2,h3,h4⟩:=H;refine ⟨h1.congr (e id (by simp [Ob.names])),h2,λi r hr => ?_,h4⟩;obtain ⟨l,q1,q2⟩:=h3 i r hr;exact ⟨l,q1,q2.congr (e r (by simp [Ob.names];exact .inr (Zad hr)))⟩
 | .gro none _ _ l,H,_=>H
 | .gro (some id) _ _ l,H,e=>by
  obtain ⟨t,h1,h2⟩:=H;exact ⟨t,by rw [e id (by simp [Ob.names])];exact h1,h2⟩
 | .map id l,H,e=>(e id (by simp [Ob.names])).trans H
 | .iter id _ _ _ _,H,e=>(e id (by simp [Ob.names])).trans H
 | .raw id _,H,e=>⟨(e id (by simp [Ob.names])).trans H.1,H.2⟩
theorem Ob.holds.live {h:T Blk}:∀ {x:Ob},x.holds h->∀ n∈x.names,T.get .no n h≠.no
 | .arr id l,⟨op,t,h1,_⟩,n,hn=>by
  simp [Ob.names] at hn;subst hn;rw [h1];intro e;cases e
 | .row none _ _ l,H,n,hn=>by simp [Ob.names] at hn
 | .row (some id) _ _ l,⟨m,t,h1,h2⟩,n,hn=>by
  simp [Ob.names] at hn;subst hn;rw [h1];intro e;cases e
 | .tab id rs ll,⟨⟨op,t,h1,_⟩,h2,h3,h4⟩,n,hn=>by
  simp [Ob.names] at hn;rcases hn with rfl | hn
  .rw [h1];intro e;cases e
  .obtain ⟨i,hi⟩:=Zau.1 hn;obtain ⟨l,_,op,t,q,_⟩:=h3 i n hi;rw [q];intro e;cases e
 | .gro none _ _ l,H,n,hn=>by simp [Ob.names] at hn
 | .gro (some id) _ _ l,⟨t,h1,h2⟩,n,hn=>by
  simp [Ob.names] at hn;subst hn;rw [h1];intro e;cases e
 | .map id l,H,n,hn=>by
  simp [Ob.names] at hn;subst hn;have H:T.get .no n h=.map l.length l:=H;rw [H];intro e;cases e
 | .iter id mid k seen c,H,n,hn=>by
  simp [Ob.names] at hn;subst hn;have H:T.get .no n h=.iter mid k seen c:=H;rw [H];intro e;cases e
 | .raw id b,⟨h1,h2⟩,n,hn=>by
  simp [Ob.names] at hn;subst hn;rw [h1];exact h2
structure Hp (h0 h:T Blk) (nx:Pa) (L:List Ob):Prop where
 keep:u7 h0 h
 own:∀ x∈L,x.holds h
 off:∀ n∈L.flatMap Ob.names,T.get .no n h0=.no
 nd:(L.flatMap Ob.names).Nodup
 fr:Fr h nx
variable {h0 h h':T Blk} {nx:Pa} {L L':List Ob} {K:KW3} {k i n c:Nat} {id:Pa} {l:List AV} {v:AV}
theorem Hp.init (hf:Fr h nx):Hp h h nx []:=⟨λ_ _=>rfl,by simp,by simp,by simp,hf⟩
theorem Hp.cast (H:Hp h0 h nx L) (e:L=L'):Hp h0 h nx L':=e ▸ H
theorem Hp.drop {x:Ob} (H:Hp h0 h nx (x::L)):Hp h0 h nx L:=⟨H.keep,λy hy=>H.own y (Zam _ hy),λn hn=>H.off n (by rw [Zcx];exact Zda _ hn),
 by have:=H.nd;rw [Zcx] at this;exact (Zcf.1 this).2.1,H.fr⟩
theorem Hp.perm (H:Hp h0 h nx L) (hp:L.Perm L'):Hp h0 h nx L':=⟨H.keep,λx hx=>H.own x (hp.mem_iff.2 hx),λn hn=>H.off n ((hp.flatMap_right Ob.names).mem_iff.2 hn),(hp.flatMap_right Ob.names).nodup_iff.1 H.nd,H.fr⟩
theorem Hp.lt (H:Hp h0 h nx L) {x:Ob} (hx:x∈L) {m:Pa} (hm:m∈x.names):m≠nx:=by
 rintro rfl;exact (H.own x hx).live _ hm (H.fr _ (Zaf _))
theorem Hp.zqs (H:Hp h0 h nx L):T.get .no nx h0=.no:=by
 by_cases e:T.get .no nx h0=.no
 .exact e
 .have:=H.keep nx e;rw [H.fr nx (Zaf _)] at this;exact this.symm
theorem Hp.new (H:Hp h0 h nx L) {b:Blk} {x:Ob} (hn:x.names=[nx]) (hx:∀ h',T.get .no nx h'=b->x.holds h'):Hp h0 (T.set .no b nx h) nx.succ (x::L):=by
 have other:∀ j,j≠nx->T.get .no j (T.set .no b nx h)=T.get .no j h:=λj hj=>T.zk _ _ _ _ _ hj;refine ⟨λj hj => ?_,λy hy => ?_,λm hm => ?_,?_,λj hj => ?_⟩
 .rw [other j (by rintro rfl;exact hj H.zqs)];exact H.keep j hj
 .rcases Zaq.1 hy with rfl | hy
  .exact hx _ (T.get_set_same _ _ _ _)
  .exact (H.own y hy).congr λm hm=>other m (H.lt hy hm)
 .rw [Zcx,hn] at hm;rcases Zbb.1 hm with hm | hm
  .rw [Zba.1 hm];exact H.zqs
  .exact H.off m hm
 .rw [Zcx,hn];refine Zcf.2 ⟨by simp,H.nd,?_⟩;rintro a ha b hb rfl;rw [Zba.1 ha] at hb;obtain ⟨y,hy,hb⟩:=Zby.1 hb;exact H.lt hy hb rfl
 .rw [Pa.aj] at hj;rw [other j (by rintro rfl;omega)];exact H.fr j (by omega)
theorem Hp.upd (H:Hp h0 h nx L) {b:Blk} {x x':Ob} (hk:L[k]? = some x) (hm:id∈x.names) (hn:x'.names=x.names) (hx:x'.holds (T.set .no b id h)):Hp h0 (T.set .no b id h) nx (L.set k x'):=by
 have hkl:=(Zgv.1 hk).1;have hxm:=Zad hk;have other:∀ j,j≠id->T.get .no j (T.set .no b id h)=T.get .no j h:=λj hj=>T.zk _ _ _ _ _ hj;have hid:T.get .no id h0=.no:=H.off id (Zby.2 ⟨x,hxm,hm⟩);have hL:L=L.take k++x::L.drop (k+1):=by
  rw [Zgu hkl] at hk;rw [<- Option.some.inj hk];simp
 have hS:L.set k x'=L.take k++x'::L.drop (k+1):=by rw [Zfo,if_pos hkl]
 have hfl:(L.set k x').flatMap Ob.names=L.flatMap Ob.names:=by
  conv=>rhs;rw [hL]
  rw [hS];simp [hn]
 have hnd:=H.nd;rw [hL] at hnd;simp only [List.flatMap_append,Zcx] at hnd;have hnot:∀ y,y∈L.take k\/y∈L.drop (k+1)->id∉y.names:=by
  intro y hy hi;rcases hy with hy | hy
  .exact (Zcf.1 hnd).2.2 id (Zby.2 ⟨y,hy,hi⟩) id (Zcr _ hm) rfl
  .exact (Zcf.1 (Zcf.1 hnd).2.1).2.2 id hm id (Zby.2 ⟨y,hy,hi⟩) rfl
 refine ⟨λj hj => ?_,λy hy => ?_,?_,by rw [hfl];exact H.nd,λj hj => ?_⟩
 .rw [other j (by rintro rfl;exact hj hid)];exact H.keep j hj
 .rw [hS] at hy;have step:∀ y,y∈L.take k\/y∈L.drop (k+1)->y.holds (T.set .no b id h):=λy hy =>
   (H.own y (by rw [hL];rcases hy with hy | hy <;> simp [hy])).congr λm hm'=>other m (by rintro rfl;exact hnot y hy hm')
  rcases Zbb.1 hy with hy | hy
  .exact step y (.inl hy)
  .rcases Zaq.1 hy with rfl | hy
   .exact hx
   .exact step y (.inr hy)
 .rw [hfl];exact H.off
 .rw [other j (by rintro rfl;exact (H.own x hxm).live _ hm (H.fr _ hj))];exact H.fr j hj
theorem mJ (l:List AV):yR (jN l .e 0) 0 l.length=l:=by
 have:=pO .e [] l 0 rfl;simpa using this
theorem Hp.zfk (H:Hp h0 h nx L) (op:Bool) (l:List AV):Hp h0 (T.set .no (.cells op l.length (jN l .e 0)) nx h) nx.succ (.arr nx l::L) :=
 H.new rfl λh' e=>⟨op,_,e,mJ l⟩
theorem Hp.box (H:Hp h0 h nx L) (hv:v.cells=some l) (hK:∀ id h' nx',Hp h0 h' nx' (.arr id l::L)->K (.ptr id 0) h' nx'=.ok True):qm v h nx K=.ok True:=by
 unfold qm;rw [hv];show jA false l h nx _=_;rw [yW];exact hK _ _ _ (H.zfk false l)
theorem Hp.alloc (H:Hp h0 h nx L) (hK:∀ id h' nx',Hp h0 h' nx' (.arr id l::L)->K (.ptr id 0) h' nx'=.ok True):yT l h nx K=.ok True:=by
 unfold yT;rw [yW];exact hK _ _ _ (H.zfk false l)
theorem Hp.qw {esz n:Nat} {zero:List AV} {ps:List (Nat×Nat×AV)} (H:Hp h0 h nx L) (hf:gL (fe n zero) ps=some l) (hK:∀ id h' nx',Hp h0 h' nx' (.arr id l::L)->K (.sl id 0 n (some n) esz) h' nx'=.ok True):y3 esz n zero ps h nx K=.ok True:=by
 unfold y3;rw [hf];show jA false l h nx _=_;rw [yW];exact hK _ _ _ (H.zfk false l)
theorem zbk (n:Nat) (z:AV):fe n [z]=List.replicate n z:=by
 induction n with
 | zero=>rfl
 | succ n ih=>show [z]++fe n [z]=_;rw [ih];rfl
theorem Hp.mkN {kl kc:IntKind} {esz bytes:Nat} {zero:List AV} {x y:Int} (H:Hp h0 h nx L) (hx:x=(n:Int)) (hy:y=(c:Int)) (h1:n<=c) (h2:c<=1000000) (h3:bytes*c<=281474976710656)
  (hK:∀ id h' nx',Hp h0 h' nx' (.arr id (fe c zero)::L)->K (.sl id 0 n (some c) esz) h' nx'=.ok True):uG esz bytes zero (.int kl x) (.int kc y) h nx K=.ok True:=by
 subst hx;subst hy;show (bif Nat.ble n c&&Nat.ble c 1000000&&Nat.ble (bytes*c) 281474976710656 then jA false (fe c zero) h nx (λid h' nx'=>K (.sl id 0 n (some c) esz) h' nx') else Out.no 41)=_;rw [Zak h1,Zak h2,Zak h3];simp only [Zgp,cond_true];rw [yW];exact hK _ _ _ (H.zfk false _)
theorem Hp.mk1 {kl kc:IntKind} {bytes:Nat} {z:AV} {x y:Int} (n:Nat) (H:Hp h0 h nx L) (hx:x=(n:Int)) (hy:y=(n:Int)) (h2:n<=1000000) (h3:bytes<=281474976)
  (hK:∀ id h' nx',Hp h0 h' nx' (.arr id (List.replicate n z)::L)->K (.sl id 0 n (some n) 1) h' nx'=.ok True):uG 1 bytes [z] (.int kl x) (.int kc y) h nx K=.ok True :=
 H.mkN hx hy (Zaf _) h2 (by have:=Zbl h3 h2;omega) (by rw [zbk];exact hK)
theorem jr.load {op:AV->OP} (H:jr h id l) (hi:l[i]? = some v):zH (.ptr id i) h op=op v:=by
 obtain ⟨o,t,h1,h2⟩:=H;have hil:=(Zgv.1 hi).1;rw [zdh h1 hil];have:=yF t 0 l.length i hil;rw [h2,hi,Zbd] at this;rw [Option.some.inj this]
theorem Hp.load {op:AV->OP} (H:Hp h0 h nx L) (hk:L[k]? = some (.arr id l)) (hi:l[i]? = some v):zH (.ptr id i) h op=op v :=
 jr.load (H.own _ (Zad hk)) hi
theorem zj5 (t:T AV) (l:List AV) (i:Nat) (hi:i<l.length) (v:AV) (h:yR t 0 l.length=l):yR (T.set .u v (.of i) t) 0 l.length=l.set i v:=by
 apply Zbp;intro j;by_cases hj:j<l.length
 .rw [yF _ _ _ _ hj,Zbd,T.zbl,Zhm];by_cases e:j=i
  .subst e;simp [hj]
  .rw [if_neg e,if_neg (λq=>e q.symm)];have:=yF t 0 l.length j hj;rw [h,Zbd] at this;exact this.symm
 .rw [Zgz (by simp;omega),Zgz (by simp;omega)]
theorem jr.set {op:Bool} {t:T AV} (h1:T.get .no id h=.cells op l.length t) (h2:yR t 0 l.length=l) (hi:i<l.length):jr (T.set .no (.cells op l.length (T.set .u v (.of i) t)) id h) id (l.set i v) :=
 ⟨op,T.set .u v (.of i) t,by rw [T.get_set_same,Zat],by rw [Zat];exact zj5 t l i hi v h2⟩
theorem Hp.store (H:Hp h0 h nx L) (hk:L[k]? = some (.arr id l)) (hi:i<l.length) (hv:v.cells=some [v]) (hK:∀ h',Hp h0 h' nx (L.set k (.arr id (l.set i v)))->K .u h' nx=.ok True):yA 1 (.ptr id i) v h nx K=.ok True:=by
 obtain ⟨o,t,h1,h2⟩:jr h id l:=H.own _ (Zad hk);rw [zj4 h1 hi hv];exact hK _ (H.upd hk (by simp [Ob.names]) rfl (jr.set h1 h2 hi))
theorem sIx {e':Nat} {cap:Option Nat} {kk:IntKind} {j:Int} {op:AV->OP} (hj:j=(i:Int)) (hi:i<n):zN 1 (.sl id 0 n cap e') (.int kk j) op=op (.ptr id i):=by
 subst hj;rw [qZ hi];simp
theorem xu {e:Nat} {kk:IntKind} {j:Int} {op:AV->OP} (hj:j=(i:Int)) (hi:i<n):zN e (.lst e n l) (.int kk j) op=op (.fp (l.drop (i*e))):=by
 subst hj;rw [zj2 hi]
def rD:AV->Bool
 | .bool _ | .int _ _ | .str _ | .tK | .zb | .esl | .sM | .sK=>true
 | .lst _ _ l=>nns l
 | .fp l=>nns l
 | _=>false
theorem rD.gy:∀ {v:AV},rD v=true->Ev.gy v=true:=by
 intro v h;cases v <;> first | rfl | (simp [rD] at h)
theorem rD.nn:∀ {v:AV},rD v=true->Ev.nn v=true:=by
 intro v h;cases v <;> first | rfl | (simp [rD] at h;done) | (simpa [rD,Ev.nn] using h)
theorem qJ:∀ {l:List AV},(∀ v∈l,rD v=true)->nns l=true
 | [],_=>rfl
 | a::l,h=>by simp [nns,rD.nn (h a (by simp)),qJ (l:=l) λv hv=>h v (by simp [hv])]
theorem zK {N:Pa->Prop} {O:AV->Prop} {hh:T Blk}:∀ {v:AV},rD v=true->Frz True N O hh v v:=by
 intro v h
 cases v <;> first
  |(simp [rD] at h;done)
  | exact .bool _ | exact .int _ _ | exact .str _ | exact .tK | exact .zb | exact .esl | exact .sM | exact .sK
  | exact .lst _ _ _ trivial h
  | exact .fp _ trivial h
theorem jr.frz {N:Pa->Prop} {O:AV->Prop} {cap:Option Nat} {e n:Nat} (H:jr h id l) (hid:N id) (hcap:zdf n cap) (hl:l.length=n*e) (hf:∀ v∈l,rD v=true):Frz True N O h (.sl id 0 n cap e) (.lst e n l):=by
 obtain ⟨op,t,h1,h2⟩:=H;refine .sl _ _ _ _ _ op _ t _ hid hcap h1 (by omega) hl (Zaw.2 λv hv=>rD.gy (hf v hv)) λi v hi => ?_;have:=yF t 0 l.length i (Zgv.1 hi).1;rw [h2,hi] at this;rw [<- Option.some.inj this];exact zK (hf v (Zad hi))
theorem Hp.zbm {cap:Option Nat} {e n:Nat} (H:Hp h0 h nx L) (hk:L[k]? = some (.arr id l)) (hcap:zdf n cap) (hl:l.length=n*e) (hf:∀ v∈l,rD v=true):sj h0 h (.sl id 0 n cap e) (.lst e n l) :=
 jr.frz (H.own _ (Zad hk)) (H.off id (Zby.2 ⟨_,Zad hk,by simp [Ob.names]⟩)) hcap hl hf
theorem zV {P:Program} {B:Nat} {f:Nat} {args:List AV} {Q:AV->Prop}
  (hk:∀ (h:T Blk) (nx:Pa) (K:Kw Prop),Hp h h nx []->(∀ v h' nx' L v',Hp h h' nx' L->sj h h' v v'->Q v'->K v h' nx'=.ok True)->(CS P B).fn f (.of f) args h nx K=.ok True):Pure P B f args Q :=
 zup λh nx K hf hK=>hk h nx K (Hp.init hf) λv h' nx' _ v' H hF hQ=>hK v h' nx' H.fr H.keep ⟨v',hF,hQ⟩
theorem jI {N:Pa->Prop} {O:AV->Prop} {hh:T Blk} {a b a' b':AV} (h1:Frz True N O hh a a') (h2:Frz True N O hh b b'):Frz True N O hh (.tup [a,b]) (.tup [a',b']):=by
 refine .tup _ _ rfl λi v v' hi hi' => ?_
 match i with
 | 0=>simp at hi hi';subst hi;subst hi';exact h1
 | 1=>simp at hi hi';subst hi;subst hi';exact h2
 | i+2=>simp at hi
theorem zhh {N:Pa->Prop} {O:AV->Prop} {hh:T Blk} {a b c a' b' c':AV} (h1:Frz True N O hh a a') (h2:Frz True N O hh b b') (h3:Frz True N O hh c c'):Frz True N O hh (.tup [a,b,c]) (.tup [a',b',c']):=by
 refine .tup _ _ rfl λi v v' hi hi' => ?_
 match i with
 | 0=>simp at hi hi';subst hi;subst hi';exact h1
 | 1=>simp at hi hi';subst hi;subst hi';exact h2
 | 2=>simp at hi hi';subst hi;subst hi';exact h3
 | i+3=>simp at hi
end Go.Ev
namespace Go.Ev
open Go
def rowL {α:Type} (W:Nat) (d:Nat->α):List α:=(List.range W).map d
section
variable {α:Type} {W:Nat} {d d':Nat->α} {j:Nat} {v:α}
@[simp] theorem zxl:(rowL W d).length=W:=by simp [rowL]
theorem zqt (hj:j<W):(rowL W d)[j]? = some (d j):=by simp [rowL,hj]
theorem znd (l:List α) (z:α):l=rowL l.length (λi=>l.getD i z):=by
 apply Zbp;intro i;by_cases hi:i<l.length
 .rw [zqt hi];simp [Zaa,hi]
 .rw [Zgz (by omega),Zgz (by simp;omega)]
variable {N k:Nat} {D D':Nat->Nat->α}
end
end Go.Ev
namespace Go.Ev
open Go
abbrev encI (l:List Int):AV:=.lst 1 l.length (l.map I)
abbrev uz (ll:List (List Int)):AV:=.lst 1 ll.length (ll.map encI)
theorem zze (l:List Int):nns (l.map I)=true:=qJ λv hv=>by
 obtain ⟨x,_,rfl⟩:=Zao.1 hv;rfl
theorem zdi (l:List Int):rD (encI l)=true:=zze l
theorem rH {l:List Int} {i:Nat} {x:Int} (h:l[i]? = some x):(l.map I)[i]? = some (I x):=by rw [Zgw,h];rfl
theorem getT {ll:List (List Int)} {i:Nat} {l:List Int} (h:ll[i]? = some l):(ll.map encI)[i]? = some (encI l):=by rw [Zgw,h];rfl
theorem ldL {h:T Blk} {l:List AV} {i:Nat} {v:AV} {op:AV->OP} (hv:l[i]? = some v):zH (.fp (l.drop (i*1))) h op=op v:=by rw [Zcn];exact zj3 hv
end Go.Ev
namespace Go.Ev
open Go
variable {h0 h h':T Blk} {nx:Pa} {L L':List Ob} {K:KW3} {k i n c:Nat} {id:Pa} {l:List AV} {v:AV}
theorem bK {x:Ob} (hk:L[k]? = some x):L=L.take k++x::L.drop (k+1)/\∀ x',L.set k x'=L.take k++x'::L.drop (k+1):=by
 have hkl:=(Zgv.1 hk).1;refine ⟨?_,λx'=>by rw [Zfo,if_pos hkl]⟩;rw [Zgu hkl] at hk;rw [<- Option.some.inj hk];simp
theorem Hp.front {x:Ob} (H:Hp h0 h nx L) (hk:L[k]? = some x):Hp h0 h nx (x::(L.take k++L.drop (k+1))):=by
 obtain ⟨e1,_⟩:=bK hk;refine H.perm ?_
 conv=>lhs;rw [e1]
 exact Zer
theorem Hp.back {x x':Ob} (hk:L[k]? = some x) (H:Hp h0 h nx (x'::(L.take k++L.drop (k+1)))):Hp h0 h nx (L.set k x'):=by
 obtain ⟨_,e2⟩:=bK hk;rw [e2];exact H.perm List.perm_middle.symm
theorem Hp.kill (H:Hp h0 h nx (.gro (some id) c n l::L)):Hp h0 (T.set .no .no id h) nx L:=by
 have hid:T.get .no id h0=.no:=H.off id (by simp [Ob.names]);have H3:=H.drop;have nd:=H.nd;simp only [Zcx,Ob.names,Option.toList] at nd;have hni:id∉L.flatMap Ob.names:=λhi=>(Zcf.1 nd).2.2 id (by simp) id hi rfl;have other:∀ j,j≠id->T.get .no j (T.set .no .no id h)=T.get .no j h:=λj hj=>T.zk _ _ _ _ _ hj;refine ⟨λj hj => ?_,λy hy => ?_,H3.off,H3.nd,λj hj => ?_⟩
 .rw [other j (by rintro rfl;exact hj hid)];exact H.keep j hj
 .exact (H3.own y hy).congr λm hm=>other m (by rintro rfl;exact hni (Zby.2 ⟨y,hy,hm⟩))
 .by_cases e:j=id
  .subst e;exact T.get_set_same _ _ _ _
  .rw [other j e];exact H.fr j hj
theorem zbn:u7 (T.set .no .no id h) h:=λj hj=>by
 by_cases e:j=id
 .subst e;exact (hj (T.get_set_same _ _ _ _)).elim
 .exact (T.zk _ _ _ _ _ e).symm
theorem Hp.appN {esz bytes:Nat} {o:Option Pa} {x:AV} {new:List AV} (H:Hp h0 h nx L) (hk:L[k]? = some (.gro o esz n l)) (hx:∀ (no:OP) (K':List AV->Nat->OP),dR x h no K'=K' new c) (hne:new.length=c*esz) (hs:new.all gy=true)
  (he:1<=esz) (hb:bytes*1000000<=70368744177664) (hlim:n+c<=1000000) (hK:∀ o' h' nx',(o≠none\/1<=c->o'≠none)->Hp h0 h' nx' (L.set k (.gro o' esz (n+c) (l++new)))->K (uf o' esz (n+c)) h' nx'=.ok True) :
  tJ esz bytes (uf o esz n) x h nx K=.ok True:=by
 have hc:(Nat.ble (bytes*1000000) 70368744177664&&Nat.beq new.length (c*esz)&&Nat.ble 1 esz&&new.all gy)=true:=by
  simp only [Zap,hs,and_true];exact ⟨⟨Zak hb,by rw [hne];exact Zbz _⟩,Zak he⟩
 unfold tJ appA;rw [hx,hc,cond_true];have own:=H.own _ (Zad hk);have HF:=H.front hk;cases o with
 | none =>
  obtain ⟨rfl,rfl⟩:=own;by_cases hc0:c=0
  .subst hc0;obtain rfl:new=[]:=by simpa using hne
   show K .zb h nx=_;refine hK none _ _ (λq=>by rcases q with q | q <;> first | exact (q rfl).elim | omega) (H.cast ?_);rw [(bK hk).2];exact (bK hk).1
  .show (bif Nat.beq c 0 then K .zb h nx else bif Nat.ble c 1000000 then jA true new h nx (λid h' nx'=>K (.sl id 0 c none esz) h' nx') else .no 31)=_;rw [aL hc0,Zak (by omega),cond_false,cond_true];rw [yW];rw [Zbd] at hK;refine hK (some nx) _ _ (λ_=>by simp) (Hp.back hk (Hp.new HF.drop (x:=.gro (some nx) esz c ([]++new)) rfl λh' e => ?_));refine ⟨_,by rw [e,hne],by simp [hne],?_⟩;have:=mJ new;rw [hne] at this;simpa using this
 | some id =>
  obtain ⟨t,hb,hl,hrd⟩:=own;show (bif Nat.beq esz esz&&Nat.ble (n+c) 1000000 then qb (T.get .no id h) _ (.no 35) else .no 36)=_;rw [hb,Zbz,Zak hlim];have hwr:=pO t l new (n*esz) hrd;rw [hne,<- Zbu] at hwr;by_cases hc0:c=0
  .subst hc0;obtain rfl:new=[]:=by simpa using hne
   show (bif Nat.ble (0+n*esz) (n*esz) then (bif Nat.ble (0+(n+0)*esz) (n*esz) then vN id 0 n none esz true (n*esz) t [] 0 h nx K else _) else _)=_;rw [Zak (by omega),Zak (by simp),cond_true,cond_true];unfold vN;rw [jQ,T.jo,y4,Zbd];exact hK (some id) _ _ (λ_=>by simp) (H.upd hk (by simp [Ob.names]) rfl ⟨_,T.get_set_same _ _ _ _,by simp [hl],hwr⟩)
  .have hlt:n*esz<(n+c)*esz:=by
    rw [Zbu];have:1*1<=c*esz:=Zbl (by omega) he;omega
   show (bif Nat.ble (0+n*esz) (n*esz) then (bif Nat.ble (0+(n+c)*esz) (n*esz) then vN id 0 n none esz true (n*esz) t new c h nx K else (bif true&&Nat.beq (0+n*esz) (n*esz)&&Nat.beq 0 0 then nE id n esz (n*esz) t new c h nx K else .no 33)) else _)=_;rw [Zak (by omega),bleF (by omega),aZ (Zbd _)];simp only [Zbz,Zgp,cond_true,cond_false];unfold nE;rw [jQ,y4,T.jo,T.jo,y4];refine hK (some nx) _ _ (λ_=>by simp) (Hp.back hk (Hp.new (b:=.cells true (n*esz+c*esz) (jN new t (n*esz))) HF.kill rfl λh' e => ?_));exact ⟨_,by rw [e,Zbu],by simp [hl,hne,Zbu],hwr⟩
theorem Hp.zj6 {o:Option Pa} {e:Nat} (H:Hp h0 h nx (.gro o e n l::L)) (hf:∀ v∈l,rD v=true):∃ h',u7 h' h/\Hp h0 h' nx L/\sj h' h (uf o e n) (.lst e n l):=by
 cases o with
 | none =>
  obtain ⟨rfl,rfl⟩:=H.own _ (Zai ..);exact ⟨h,λ_ _=>rfl,H.drop,.oQ e⟩
 | some id =>
  refine ⟨_,zbn,H.kill,?_⟩;obtain ⟨t,h1,h2,h3⟩:=H.own _ (Zai ..);refine .sl _ _ _ _ _ true _ t _ (T.get_set_same _ _ _ _) trivial h1 (by omega) h2 (Zaw.2 λv hv=>rD.gy (hf v hv)) λi v hi => ?_;have:=yF t 0 (n*e) i (by rw [<- h2];exact (Zgv.1 hi).1);rw [h3,hi] at this;rw [<- Option.some.inj this];exact zK (hf v (Zad hi))
theorem Hp.zbo {o:Option Pa} {e:Nat} (H:Hp h0 h nx L) (hk:L[k]? = some (.gro o e n l)) (hf:∀ v∈l,rD v=true):sj h0 h (uf o e n) (.lst e n l):=by
 have own:=H.own _ (Zad hk);have hoff:=H.off;cases o with
 | none=>obtain ⟨rfl,rfl⟩:=own;exact .oQ e
 | some id =>
  obtain ⟨t,h1,h2,h3⟩:=own;refine .sl _ _ _ _ _ true _ t _ (hoff id (Zby.2 ⟨_,Zad hk,by simp [Ob.names]⟩)) trivial h1 (by omega) h2 (Zaw.2 λv hv=>rD.gy (hf v hv)) λi v hi => ?_;have:=yF t 0 (n*e) i (by rw [<- h2];exact (Zgv.1 hi).1);rw [h3,hi] at this;rw [<- Option.some.inj this];exact zK (hf v (Zad hi))
theorem jr.rd {cap:Option Nat} {e:Nat} (H:jr h id l) (hl:l.length=n*e) (no:OP) (K':List AV->Nat->OP):dR (.sl id 0 n cap e) h no K'=K' l n:=by
 obtain ⟨op,t,h1,h2⟩:=H;show qb (T.get .no id h) (λ_ m t=>bif Nat.ble (0+n*e) m then K' (yR t 0 (n*e)) n else no) no=_;rw [h1];show (bif Nat.ble (0+n*e) l.length then K' (yR t 0 (n*e)) n else no)=_;rw [Zak (by omega),cond_true,<- hl,h2]
theorem m5 {P:Program} {B f:Nat} {p:Pa} {cap args:List AV}:zc3 (CS P B) (.fn f p cap) args h nx K=(CS P B).fn f p (args++cap) h nx K:=nr rfl
theorem zbp (o:Option Pa) (e n:Nat):(uf o e n).cells=some [uf o e n]:=by cases o <;> rfl
end Go.Ev
namespace Go.Ev
open Go
variable {h0 h h':T Blk} {nx:Pa} {L L':List Ob} {K:KW3} {k i n c:Nat} {id:Pa} {l:List AV} {v:AV} {P:Program} {B:Nat}
abbrev u8 (v:Nat):AV:=.int .u8 (v:Int)
theorem aQ {n i:Nat} {seen:List Nat}:i∈u5 n seen↔i<n/\i∉seen:=by
 simp [u5]
theorem zj7 {n i:Nat} {seen:List Nat} (h:i<n) (hs:i∉seen):(u5 n (i::seen)).length+1=(u5 n seen).length:=by
 have nd:(u5 n seen).Nodup:=List.Pairwise.filter _ Zdi;have e:u5 n (i::seen)=(u5 n seen).erase i:=by
  rw [nd.erase_eq_filter];simp only [u5,List.filter_filter]
  congr 1
  funext j
  by_cases hj:j=i
  .subst hj;simp
  .simp [hj]
 rw [e,List.length_erase_of_mem (aQ.2 ⟨h,hs⟩)];have:0<(u5 n seen).length:=List.length_pos_of_mem (aQ.2 ⟨h,hs⟩);omega
theorem Hp.range {es:List (AV×AV)} (H:Hp h0 h nx L) (hk:L[k]? = some (.map id es)) (hK:∀ it h' nx',Hp h0 h' nx' (.iter it id es.length [] es.length::L)->K (.ptr it 0) h' nx'=.ok True):zi6 (.map id) h nx K=.ok True:=by
 have own:T.get .no id h=.map _ _:=H.own _ (Zad hk);show ni (T.get .no id h) _ _=_;rw [own];show T.fq Blk.no (.iter id es.length [] es.length) nx h (λh'=>K (.ptr nx 0) h' nx.succ)=_;rw [T.jo];exact hK _ _ _ (H.new rfl λh' e=>e)
theorem Hp.next {es:List (AV×AV)} {it:Pa} {j:Nat} {seen:List Nat} (H:Hp h0 h nx L) (hk:L[k]? = some (.iter it id es.length seen c)) (hm:L[j]? = some (.map id es))
  (hK0:(∀ i,i<es.length->i∈seen)->K (.tup [.bool false]) h nx=.ok True)
  (hK1:∀ (i:Nat) a b h',i<es.length->i∉seen->es[i]? = some (a,b)->Hp h0 h' nx (L.set k (.iter it id es.length (i::seen) es.length))->K (.tup [.bool true,a,b]) h' nx=.ok True):zor (CS P B) (.ptr it 0) h nx K=.ok True:=by
 have own:T.get .no it h=.iter _ _ _ _:=H.own _ (Zad hk);have own2:T.get .no id h=.map _ _:=H.own _ (Zad hm);show aK (T.get .no it h) _ _=_;rw [own];show ni (T.get .no id h) _ _=_;rw [own2]
 show (bif Nat.beq es.length es.length then (match u5 es.length seen with
  | []=>K (.tup [.bool false]) h nx
  | i::is=>(CS P B).pk (i::is) λi=>match es[i]? with
   | some (a,b)=>T.fq Blk.no (.iter id es.length (i::seen) es.length) it h λh'=>K (.tup [.bool true,a,b]) h' nx
   | none=>.no 56) else .no 56)=_
 rw [Zbz,cond_true];cases hl:u5 es.length seen with
 | nil =>
  refine hK0 λi hi=>Classical.byContradiction λhn => ?_;have:=aQ.2 ⟨hi,hn⟩;rw [hl] at this;cases this
 | cons i is =>
  refine zxi.2 ⟨λq hq => ?_,rfl⟩;rw [<- hl] at hq;obtain ⟨h1,h2⟩:=aQ.1 hq;have e:es[q]? = some (es[q].1,es[q].2):=Zgu h1;rw [e];simp only [T.jo];exact hK1 q _ _ _ h1 h2 e (H.upd hk (by simp [Ob.names]) rfl (T.get_set_same _ _ _ _))
theorem Hp.entry {es:List (AV×AV)} {it:Pa} {j i:Nat} {seen:List Nat} {a b:AV} {op:AV->OP} (H:Hp h0 h nx L) (hk:L[k]? = some (.iter it id es.length (i::seen) es.length)) (hm:L[j]? = some (.map id es)) (he:es[i]? = some (a,b)):zi7 (.ptr it 0) h op=op (.tup [a,b]):=by
 have own:T.get .no it h=.iter _ _ _ _:=H.own _ (Zad hk);have own2:T.get .no id h=.map _ _:=H.own _ (Zad hm);show aK (T.get .no it h) _ _=_;rw [own];show ni (T.get .no id h) _ _=_;rw [own2];show (bif Nat.beq es.length es.length then (match es[i]? with | some (a,b)=>op (.tup [a,b]) | none=>.no 54) else .no 54)=_;rw [Zbz,cond_true,he]
theorem Hp.eX (H:Hp h0 h nx L) (hK:∀ id h' nx',Hp h0 h' nx' (.map id []::L)->K (.map id) h' nx'=.ok True):zi9 h nx K=.ok True:=by
 unfold zi9;rw [T.jo];exact hK _ _ _ (H.new rfl λh' e=>e)
theorem Hp.zi {op:AV->OP} (H:Hp h0 h nx L) (hk:L[k]? = some (.arr id l)) (hl:l.length=n):zI n (.ptr id 0) h op=op (.agg l):=by
 obtain ⟨o,t,h1,h2⟩:=H.own _ (Zad hk);show qb (T.get .no id h) _ _=_;rw [h1];show (bif Nat.ble (0+n) l.length then op (.agg (yR t 0 n)) else .no 8)=_;rw [Zak (by omega),cond_true,<- hl,h2]
theorem Hp.jc {l2:List AV} (H:Hp h0 h nx L) (hk:L[k]? = some (.arr id l)) (hl:l.length=n) (hl2:l2.length=n) (hK:∀ h',Hp h0 h' nx (L.set k (.arr id l2))->K .u h' nx=.ok True):yA n (.ptr id 0) (.agg l2) h nx K=.ok True:=by
 obtain ⟨o,t,h1,h2⟩:=H.own _ (Zad hk);show qb (T.get .no id h) _ _=_;rw [h1];show (bif Nat.beq l2.length n&&Nat.ble (0+n) l.length then uW l2 t 0 (λt'=>T.fq Blk.no (.cells o l.length t') id h λh'=>K .u h' nx) else .no 42)=_;rw [aZ hl2,Zak (by omega)];simp only [Zgp,cond_true];rw [jQ,T.jo];refine hK _ (H.upd hk (by simp [Ob.names]) rfl ⟨o,_,by rw [T.get_set_same,hl,hl2],?_⟩);apply Zbp;intro i;by_cases hi:i<l2.length
 .rw [yF _ _ _ _ hi,Zbd,uB,if_pos (by omega)];simp [Zaa,hi]
 .rw [Zgz (by simp;omega),Zgz (by omega)]
theorem sFx {o p:Nat} {op:AV->OP}:zM p (.ptr id o) op=op (.ptr id (o+p)):=by
 show dw (o+p) (λo=>op (.ptr id o))=_;rw [y4]
theorem Hp.zdj {o:Option Pa} {j:Nat} (H:Hp h0 h nx L) (hk:L[k]? = some (.gro o 1 n l)) (hj:l[j]? = some v):∃ id,(∀ (kk:IntKind) (op:AV->OP),zN 1 (uf o 1 n) (.int kk (j:Int)) op=op (.ptr id j))/\∀ op:AV->OP,zH (.ptr id j) h op=op v:=by
 have own:=H.own _ (Zad hk);have hjl:=(Zgv.1 hj).1;cases o with
 | none=>obtain ⟨rfl,_⟩:=own;simp at hj
 | some id =>
  obtain ⟨t,h1,h2,h3⟩:=own;refine ⟨id,λkk op=>by rw [uf,qZ (by omega)];simp,λop => ?_⟩;rw [zdh h1 (by omega)];have:=yF t 0 (n*1) j (by omega);rw [h3,hj,Zbd] at this;rw [Option.some.inj this]
theorem Hp.oH {o:Option Pa} {e:Nat} {op:AV->OP} (H:Hp h0 h nx L) (hk:L[k]? = some (.gro o e n l)):sLen (uf o e n) op=op (I n):=by
 cases o with
 | none=>obtain ⟨_,rfl⟩:=H.own _ (Zad hk);rfl
 | some id=>rfl
end Go.Ev
namespace Go.Ev
open Go
variable {h0 h:T Blk} {nx:Pa} {L:List Ob}
theorem vK {i n d:Nat} (h:i<=n):bnd (some (I (i:Int))) n d=some i:=by
 show (bif Nat.ble i n then some i else none)=_;rw [Zak h];rfl
theorem Hp.qcx {k e n i:Nat} {o:Option Pa} {l:List AV} {op:AV->OP} (H:Hp h0 h nx L) (hk:L[k]? = some (.gro o e n l)) (hi:i<=n):xI e (uf o e n) none (some (I (i:Int))) none op=op (uf o e i):=by
 cases o with
 | none =>
  obtain ⟨_,rfl⟩:=H.own _ (Zad hk);obtain rfl:i=0:=by omega
  rfl
 | some id =>
  show (bif Nat.beq e e then (match bnd (some (I (i:Int))) n n with | none=>Out.no 17 | some h=>match bnd none h 0 with | none=>.no 17 | some l=>bif Nat.beq l 0 then op (.sl id 0 h none e) else _) else _)=_;rw [Zbz,cond_true,vK hi]
  rfl
end Go.Ev
namespace Go.Ev
open Go
def tEq:T AV->T AV->Bool
 | .e,.e=>true
 | .n l v r,.n l' v' r'=>aX v v'&&tEq l l'&&tEq r r'
 | _,_=>false
theorem zj8:∀ {a b:T AV},tEq a b=true->a=b
 | .e,.e,_=>rfl
 | .e,.n ..,h=>by simp [tEq] at h
 | .n ..,.e,h=>by simp [tEq] at h
 | .n l v r,.n l' v' r',h=>by
  simp only [tEq,Zap] at h;rw [dF h.1.1,zj8 h.1.2,zj8 h.2]
def esEq:List (AV×AV)->List (AV×AV)->Bool
 | [],[]=>true
 |(a,b)::l,(c,d)::m=>aX a c&&aX b d&&esEq l m
 | _,_=>false
theorem zlp:∀ {a b:List (AV×AV)},esEq a b=true->a=b
 | [],[],_=>rfl
 | [],_::_,h=>by simp [esEq] at h
 | _::_,[],h=>by simp [esEq] at h
 |(a,b)::l,(c,d)::m,h=>by
  simp only [esEq,Zap] at h;rw [dF h.1.1,dF h.1.2,zlp h.2]
def nD:Blk->Blk->Bool
 | .no,_=>true
 | .cells op n t,.cells op' n' t'=>op==op'&&Nat.beq n n'&&tEq t t'
 | .map n l,.map n' l'=>Nat.beq n n'&&esEq l l'
 | _,_=>false
theorem zj9:∀ {a b:Blk},nD a b=true->a≠.no->b=a:=by
 intro a b h hn
 cases a <;> cases b <;> first
  | exact (hn rfl).elim
  |(simp [nD] at h;done)
  |(simp only [nD,Zap] at h
    first
     |(obtain ⟨⟨h1,h2⟩,h3⟩:=h;rw [eq_of_beq h1,yM h2,zj8 h3])
     |(rw [yM h.1,zlp h.2]))
def zbq:T Blk->T Blk->Bool
 | .e,_=>true
 | .n l v r,.n l' v' r'=>nD v v'&&zbq l l'&&zbq r r'
 | .n ..,.e=>false
theorem zbr:∀ {h h':T Blk},zbq h h'=true->∀ id,T.get .no id h≠.no->T.get .no id h'=T.get .no id h
 | .e,_,_,id,hn=>(hn (T.rV _ id)).elim
 | .n ..,.e,h,_,_=>by simp [zbq] at h
 | .n l v r,.n l' v' r',h,id,hn=>by
  simp only [zbq,Zap] at h;cases id with
  | z=>rw [T.zlq] at hn ⊢;rw [T.zlq];exact zj9 h.1.1 hn
  | l p=>rw [T.zdk] at hn ⊢;rw [T.zdk];exact zbr h.1.2 p hn
  | r p=>rw [T.zdl] at hn ⊢;rw [T.zdl];exact zbr h.2 p hn
def allEq (f:Nat->Out AV) (v:AV):List Nat->Bool
 | []=>true
 | i::l=>match f i with
  | .ok u=>bif aX u v then allEq f v l else false
  | .no _=>false
theorem zhi {f:Nat->Out AV} {v:AV}:∀ {l:List Nat},allEq f v l=true->∀ i∈l,f i=.ok v
 | [],_,i,hi=>by simp at hi
 | j::l,h,i,hi=>by
  simp only [allEq] at h;cases hf:f j with
  | no=>simp [hf] at h
  | ok u =>
   rw [hf] at h;cases hq:aX u v with
   | false=>simp [hq] at h
   | true =>
    simp [hq] at h;rcases Zaq.1 hi with rfl | hi
    .rw [hf,dF hq]
    .exact zhi h i hi
def zqu (L:List Nat) (f:Nat->Out AV):Out AV:=match L with
 | []=>.no 70
 | i::l=>match f i with
  | .ok v=>bif allEq f v l then .ok v else .no 71
  | .no n=>.no n
theorem zqv {L:List Nat} {f:Nat->Out AV} {r:AV} (h:zqu L f=.ok r):∀ i∈L,f i=.ok r:=by
 cases L with
 | nil=>cases h
 | cons i l =>
  simp only [zqu] at h;cases hf:f i with
  | no=>simp [hf] at h
  | ok v =>
   rw [hf] at h;cases hq:allEq f v l with
   | false=>simp [hq] at h
   | true =>
    simp [hq] at h;subst h;intro j hj;rcases Zaq.1 hj with rfl | hj
    .exact hf
    .exact zhi hq j hj
def letK (h:T Blk):Kw AV:=λv h' _=>bif zbq h h' then (match fzB 20 h h' v with
 | some v'=>.ok v'
 | none=>.no 72) else .no 73
def d8 (S:Nat->Bool) (J:Nat->List AV->T Blk->Option (AV×T Blk)) (fns:T (Option Fn)) (fuel:Nat) (n:Nat):Calls AV :=
 Nat.rec ⟨λ_ _ _ _ _ _=>.no 80,λ_ _ _ _ _=>.no 81,λ_ _=>.no 79⟩ (λ_ C=>⟨λf p args h nx K=>Option.rec (motive:=λ_=>Out AV)
  (Bool.rec (zO fns fuel C p args h nx K) (Out.rec (motive:=λ_=>Out AV) (λv=>K v h nx) (λn=>.no n) (zO fns fuel C p args h nx (letK h))) (S f))
  (λx=>Prod.rec (motive:=λ_=>Out AV) (λv h=>K v h nx) x) (J f args h),ze3 fuel C,zqu⟩) n
variable {P:Program} {B:Nat}
theorem zdm {S:Nat->Bool} {J:Nat->List AV->T Blk->Option (AV×T Blk)} {fns:T (Option Fn)} (hT:zdc P fns) (hD:cE P B AV) (hJ:JOk P B J) (fuel:Nat):∀ n,COk P B (d8 S J fns fuel n)
 | 0=>⟨λ_ _ hk=>(by cases hk),λ_ _ _ hk=>(by cases hk),λ_ _ _ hk=>(by cases hk)⟩
 | n+1=>by
  have ih:=zdm (S:=S) hT hD hJ fuel n;refine ⟨λ{E h nx w f args vs K r} H hv hk => ?_,λH hE hv hk=>zcw ih (hD ih) H hE hv hk,λ_ _ _ hk=>zqv hk⟩
  have hk:Option.rec (motive:=λ_=>Out AV)
   (Bool.rec (zO fns fuel (d8 S J fns fuel n) (.of f) args h nx K) (Out.rec (motive:=λ_=>Out AV) (λv=>K v h nx) (λn=>.no n) (zO fns fuel (d8 S J fns fuel n) (.of f) args h nx (letK h))) (S f))
   (λx=>Prod.rec (motive:=λ_=>Out AV) (λv h=>K v h nx) x) (J f args h)=.ok r:=hk
  cases hj:J f args h with
  | none =>
   rw [hj] at hk;cases hs:S f with
   | false=>rw [hs] at hk;exact dD hT ih (hD ih) H hv hk
   | true =>
    rw [hs] at hk;have hk:Out.rec (motive:=λ_=>Out AV) (λv=>K v h nx) (λn=>.no n) (zO fns fuel (d8 S J fns fuel n) (.of f) args h nx (letK h))=.ok r:=hk;cases hc:zO fns fuel (d8 S J fns fuel n) (.of f) args h nx (letK h) with
    | no m=>rw [hc] at hk;cases hk
    | ok v' =>
     rw [hc] at hk;have hk:K v' h nx=.ok r:=hk;obtain ⟨fn,h1,h2,h3,h4⟩:=dD hT ih (hD ih) H hv hc;refine ⟨fn,h1,h2,h3,λn=>(h4 n).mono λe w' he => ?_⟩
     cases e <;> first
      | exact he.elim
      |(obtain ⟨av,h',nx',E',k1,k2,k3,k4⟩:=he
        unfold letK at k1;cases hq:zbq h h' with
        | false=>simp [hq] at k1
        | true =>
         rw [hq,cond_true] at k1;cases hz:fzB 20 h h' av with
         | none=>simp [hz] at k1
         | some v2 =>
          simp [hz] at k1;subst k1;have hkp:u7 h h':=zbr hq;obtain ⟨r1,r2,_⟩:=zbj H k3 k4 hkp;exact ⟨v2,h,nx,_,hk,zfg H k3 k4 hkp (zfj 20 hz) k2,r1,r2⟩)
  | some x =>
   obtain ⟨v,h2⟩:=x;rw [hj] at hk;obtain ⟨fn,h1,h2,h3,h4⟩:=hJ H hv hj;refine ⟨fn,h1,h2,h3,λn=>(h4 n).mono λe w' he => ?_⟩;obtain ⟨u,E',rfl,q1,q2,q3⟩:=he;exact ⟨v,_,nx,E',hk,q1,q2,q3⟩
theorem vZ {S:Nat->Bool} {J:Nat->List AV->T Blk->Option (AV×T Blk)} {fns:T (Option Fn)} (hT:zdc P fns) (hm:P.follows .mixedOrders=true) (hJ:∀ B,JOk P B J) {fuel n f:Nat} {args:List AV} {r:AV} (ha:nns args=true) (hk:(d8 S J fns fuel n).fn f (.of f) args .e .z endK=.ok r) :
  Pure P B f args (· = r):=znb (λB=>zdm hT (zbi hm) (hJ B) fuel n) ha hk
end Go.Ev
namespace Go.Ev
open Go Classical
variable {P:Program}
def zqw (tab:Nat->List (List AV×AV)) (J:Nat->List AV->T Blk->Option (AV×T Blk)) (f:Nat) (args:List AV) (h:T Blk):Option (AV×T Blk):=match (tab f).find? (λe=>vL e.1 args) with
 | some e=>some (e.2,h)
 | none=>J f args h
def zka (P:Program) (f:Nat) (l:List (List AV×AV)):Prop:=∀ e∈l,∀ B,Pure P B f e.1 (· = e.2)
theorem zuq {tab:Nat->List (List AV×AV)} {J:Nat->List AV->T Blk->Option (AV×T Blk)} {B:Nat} (hm:∀ f,zka P f (tab f)) (hJ:JOk P B J):JOk P B (zqw tab J):=by
 intro E h nx w f args vs v h2 H hv hj;unfold zqw at hj;split at hj
 case h_2=>exact hJ H hv hj
 rename_i e he;cases hj
 have hq:=List.find?_some he;have hin:=List.mem_of_find?_eq_some he;have ea:e.1=args:=qN hq;have hc:=hm f e hin B .z h nx (λv h2 nx2=>if v=e.2/\h2=h/\nx2=nx then .ok True else .no 0) (λv hv _=>if_pos ⟨hv,rfl,rfl⟩);rw [ea,aC] at hc;obtain ⟨fn,h1,h2,h3,h4⟩:=hc.1 _ w vs H hv;refine ⟨fn,h1,h2,h3,λn=>(h4 n).mono λe' w' he' => ?_⟩
 cases e' <;> first
  | exact he'.elim
  |(obtain ⟨av,h2,nx',E1,k1,k2,k3,k4⟩:=he'
    have k1':(if av=e.2/\h2=h/\nx'=nx then (Out.ok True:Out Prop) else .no 0)=.ok True:=k1;split at k1'
    .rename_i hh;obtain ⟨rfl,rfl,rfl⟩:=hh;exact ⟨_,E1,rfl,k2,k3,k4⟩
    .cases k1')
end Go.Ev
namespace Go.Ev
open Go
abbrev KTm:=Tm->T Blk->Pa->OP
section
variable {C:Calls Prop} {N:Nat} {O:pq Prop} {K:Ks Prop}
theorem zA (a b:IR) (tm:T AV) (h:T Blk) (nx:Pa):IR.run (.seq a b) C N O K tm h nx=IR.run a C N O (IR.run b C N O K) tm h nx:=rfl
theorem jJ (l:List RO) (tm:T AV) (h:T Blk) (nx:Pa):IR.run (.reg l) C N O K tm h nx=zZ l C ⟨tm,[]⟩ h nx (λtm h nx=>K tm.v h nx):=rfl
theorem zB (c:Arg) (a b:IR) (tm:T AV) (h:T Blk) (nx:Pa):IR.run (.cond c a b) C N O K tm h nx=yV (c.ev ⟨tm,[]⟩) (IR.run a C N O K tm h nx) (IR.run b C N O K tm h nx):=rfl
theorem zE (tm:T AV) (h:T Blk) (nx:Pa):IR.run .skip C N O K tm h nx=K tm h nx:=rfl
theorem zY (i:Nat) (tm:T AV) (h:T Blk) (nx:Pa):IR.run (.exit i) C N O K tm h nx=O.ex i tm h nx:=rfl
theorem zG (tm:T AV) (h:T Blk) (nx:Pa):IR.run .ret C N O K tm h nx=O.rt tm h nx:=rfl
end
theorem zbs (want:Bool) (op:(AV->OP)->OP) {K:AV->OP}:sG .u want op K=K .u:=nr rfl
theorem yE {fns:T (Option Fn)} {f:Nat} {F:Fn} {b:IR} {fr:T AV} {args:List AV} {C:Calls Prop} {N:Nat} {K:Kw Prop} {h:T Blk} {nx:Pa} (h1:T.get none (.of f) fns=some F) (h2:∀ k:T AV->OP,kW F.params args F.init k=k fr) (h3:F.body=b):zO fns N C (.of f) args h nx K=IR.run b C N (fnO F.res K) (zf F.res K) fr h nx:=by
 rw [yC h1,h2,h3]
end Go.Ev
namespace Go.Ev
open Go
theorem bP {β:Type}:∀ l:List RO,evD (β:=β) (l.map λo=>(o,0,[])) []=zZ l
 | []=>rfl
 | .s op::l=>by
  have ih:=bP (β:=β) l;show (λC tm h nx K=>op.ev tm h λv=>evD (l.map λo=>(o,0,[])) [] C ⟨tm.v,v::tm.s⟩ h nx K)=_;rw [ih];rfl
 | .q d op::l=>by
  have ih:=bP (β:=β) l;show (λC tm h nx K=>op.ev tm h λv=>zld d v tm λtm'=>evD (l.map λo=>(o,0,[])) [] C tm' h nx K)=_;rw [ih];rfl
 | .p d g op::l=>by
  have ih:=bP (β:=β) l;show (λC tm h nx K=>gP g tm (op.ev tm h) λv=>sV d v tm λtm'=>evD (l.map λo=>(o,0,[])) [] C tm' h nx K)=_;rw [ih];rfl
 | .w d g op::l=>by
  have ih:=bP (β:=β) l;show (λC tm h nx K=>gW g tm (λk=>op.ev C tm h nx λv h' nx'=>k v h' nx') h nx λv h' nx'=>sV d v tm λtm'=>evD (l.map λo=>(o,0,[])) [] C tm' h' nx' K)=_;rw [ih];rfl
theorem zjb {β:Type} {C:Calls β} {N:Nat} {O:pq β} {K:Ks β} (l:List RO) (tm:T AV) (h:T Blk) (nx:Pa):IR.run (.wm [] (l.map λo=>(o,0,[]))) C N O K tm h nx=zZ l C ⟨tm,[]⟩ h nx (λtm h nx=>K tm.v h nx):=by
 have e:IR.run (.wm [] (l.map λo=>(o,0,[]))) C N O K tm h nx=evD (l.map λo=>(o,0,[])) [] C ⟨tm,[]⟩ h nx (λtm h nx=>K tm.v h nx):=rfl;rw [e,bP]
end Go.Ev
