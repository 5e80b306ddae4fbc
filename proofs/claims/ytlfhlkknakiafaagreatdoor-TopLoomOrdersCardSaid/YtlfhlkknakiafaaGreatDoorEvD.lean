import Derived.Test.YtlfhlkknakiafaaGreatDoorEvC
import Derived.Laws.Externs
import Derived.Shelf.Spec.BitsCarry
set_option linter.unusedSimpArgs false
set_option linter.unusedVariables false
noncomputable section
namespace Go.Ev
open Go
def ve (o:Option Pa) (e n:Nat):AV:=match o with
 | none=>.zn
 | some id=>.sl id 0 n none e
def cellV (o:Option Pa) (n:Nat):AV:=match o with
 | none=>.zn
 | some id=>.sl id 0 n (some n) 1
inductive Ob where
 | arr (id:Pa) (l:List AV)
 | row (o:Option Pa) (e n:Nat) (l:List AV)
 | tab (id:Pa) (rs:List (Option Pa)) (ll:List (List AV))
 | gro (o:Option Pa) (e n:Nat) (l:List AV)
 | map (id:Pa) (l:List (AV×AV))
 | iter (id mid:Pa) (n:Nat) (seen:List Nat) (c:Nat)
 | raw (id:Pa) (b:Blk)
def Ob.names:Ob->List Pa
 | .arr id _=>[id]
 | .row o _ _ _=>o.toList
 | .tab id rs _=>id::rs.filterMap (fun o=>o)
 | .gro o _ _ _=>o.toList
 | .map id _=>[id]
 | .iter id _ _ _ _=>[id]
 | .raw id _=>[id]
def ug (h:T Blk) (id:Pa) (l:List AV):Prop:=∃ op t,T.get .no id h=.cells op l.length t/\yL t 0 l.length=l
def qL (rs:List (Option Pa)) (ll:List (List AV)):List AV:=List.zipWith (fun o l=>cellV o (List.length l)) rs ll
def Ob.holds (h:T Blk):Ob->Prop
 | .arr id l=>ug h id l
 | .row o e n l=>match o with
  | none=>l=[]/\n=0
  | some id=>∃ m t,T.get .no id h=.cells true m t/\l.length=n*e/\n*e<=m/\e∣m/\yL t 0 (n*e)=l
 | .tab id rs ll=>ug h id (qL rs ll)/\rs.length=ll.length/\(∀ (i:Nat) (r:Pa),rs[i]? = some (some r)->∃ l,ll[i]? = some l/\ug h r l)/\∀ (i:Nat) l,rs[i]? = some none->ll[i]? = some l->l=[]
 | .gro o e n l=>match o with
  | none=>l=[]/\n=0
  | some id=>∃ t,T.get .no id h=.cells true (n*e) t/\l.length=n*e/\yL t 0 (n*e)=l
 | .map id l=>T.get .no id h=.map l.length l
 | .iter id mid n seen c=>T.get .no id h=.iter mid n seen c
 | .raw id b=>T.get .no id h=b/\b≠.no
theorem ug.congr {h h':T Blk} {id:Pa} {l:List AV} (H:ug h id l) (e:T.get .no id h'=T.get .no id h):ug h' id l:=by
 obtain ⟨op,t,h1,h2⟩:=H;exact ⟨op,t,by rw [e];exact h1,h2⟩
theorem Ob.holds.congr {h h':T Blk}:∀ {x:Ob},x.holds h->(∀ n∈x.names,T.get .no n h'=T.get .no n h)->x.holds h'
 | .arr id l,H,e=>ug.congr H (e id (by simp [Ob.names]))
 | .row none _ _ l,H,_=>H
 | .row (some id) _ _ l,H,e=>by
  obtain ⟨m,t,h1,h2⟩:=H;exact ⟨m,t,by rw [e id (by simp [Ob.names])];exact h1,h2⟩
 | .tab id rs ll,H,e=>by
  obtain ⟨h1,h2,h3,h4⟩:=H;refine ⟨h1.congr (e id (by simp [Ob.names])),h2,fun i r hr => ?_,h4⟩;obtain ⟨l,q1,q2⟩:=h3 i r hr;exact ⟨l,q1,q2.congr (e r (by simp [Ob.names];exact .inr (Zad hr)))⟩
 | .gro none _ _ l,H,_=>H
 | .gro (some id) _ _ l,H,e=>by
  obtain ⟨t,h1,h2⟩:=H;exact ⟨t,by rw [e id (by simp [Ob.names])];exact h1,h2⟩
 | .map id l,H,e=>(e id (by simp [Ob.names])).trans H
 | .iter id _ _ _ _,H,e=>(e id (by simp [Ob.names])).trans H
 | .raw id _,H,e=>⟨(e id (by simp [Ob.names])).trans H.1,H.2⟩
theorem Ob.holds.live {h:T Blk}:∀ {x:Ob},x.holds h->∀ n∈x.names,T.get .no n h≠.no
 | .arr id l,⟨op,t,h1,_⟩,n,hn=>by
  simp [Ob.names] at hn;subst hn;rw [h1];intro e;cases e
 | .row none _ _ l,H,n,hn=>by simp [Ob.names] at hn
 | .row (some id) _ _ l,⟨m,t,h1,h2⟩,n,hn=>by
  simp [Ob.names] at hn;subst hn;rw [h1];intro e;cases e
 | .tab id rs ll,⟨⟨op,t,h1,_⟩,h2,h3,h4⟩,n,hn=>by
  simp [Ob.names] at hn;rcases hn with rfl | hn
  ·rw [h1];intro e;cases e
  ·obtain ⟨i,hi⟩:=List.mem_iff_getElem?.1 hn;obtain ⟨l,_,op,t,q,_⟩:=h3 i n hi;rw [q];intro e;cases e
 | .gro none _ _ l,H,n,hn=>by simp [Ob.names] at hn
 | .gro (some id) _ _ l,⟨t,h1,h2⟩,n,hn=>by
  simp [Ob.names] at hn;subst hn;rw [h1];intro e;cases e
 | .map id l,H,n,hn=>by
  simp [Ob.names] at hn;subst hn;have H:T.get .no n h=.map l.length l:=H;rw [H];intro e;cases e
 | .iter id mid k seen c,H,n,hn=>by
  simp [Ob.names] at hn;subst hn;have H:T.get .no n h=.iter mid k seen c:=H;rw [H];intro e;cases e
 | .raw id b,⟨h1,h2⟩,n,hn=>by
  simp [Ob.names] at hn;subst hn;rw [h1];exact h2
structure Hp (h0 h:T Blk) (nx:Pa) (L:List Ob):Prop where
 keep:kJ h0 h
 own:∀ x∈L,x.holds h
 off:∀ n∈L.flatMap Ob.names,T.get .no n h0=.no
 nd:(L.flatMap Ob.names).Nodup
 fr:Fr h nx
variable {h0 h h':T Blk} {nx:Pa} {L L':List Ob} {K:KW3} {k i n c:Nat} {id:Pa} {l:List AV} {v:AV}
theorem Hp.init (hf:Fr h nx):Hp h h nx []:=⟨fun _ _=>rfl,by simp,by simp,by simp,hf⟩
theorem Hp.cast (H:Hp h0 h nx L) (e:L=L'):Hp h0 h nx L':=e ▸ H
theorem Hp.drop {x:Ob} (H:Hp h0 h nx (x::L)):Hp h0 h nx L:=⟨H.keep,fun y hy=>H.own y (Zat _ hy),fun n hn=>H.off n (by rw [Zcd];exact Zfk _ hn),
 by have:=H.nd;rw [Zcd] at this;exact (List.nodup_append.1 this).2.1,H.fr⟩
theorem Hp.perm (H:Hp h0 h nx L) (hp:L.Perm L'):Hp h0 h nx L':=⟨H.keep,fun x hx=>H.own x (hp.mem_iff.2 hx),fun n hn=>H.off n ((hp.flatMap_right Ob.names).mem_iff.2 hn),(hp.flatMap_right Ob.names).nodup_iff.1 H.nd,H.fr⟩
theorem Hp.lt (H:Hp h0 h nx L) {x:Ob} (hx:x∈L) {m:Pa} (hm:m∈x.names):m≠nx:=by
 rintro rfl;exact (H.own x hx).live _ hm (H.fr _ (Zaf _))
theorem Hp.zqn (H:Hp h0 h nx L):T.get .no nx h0=.no:=by
 by_cases e:T.get .no nx h0=.no
 ·exact e
 ·have:=H.keep nx e;rw [H.fr nx (Zaf _)] at this;exact this.symm
theorem Hp.new (H:Hp h0 h nx L) {b:Blk} {x:Ob} (hn:x.names=[nx]) (hx:∀ h',T.get .no nx h'=b->x.holds h'):Hp h0 (T.set .no b nx h) nx.succ (x::L):=by
 have other:∀ j,j≠nx->T.get .no j (T.set .no b nx h)=T.get .no j h:=fun j hj=>T.yh _ _ _ _ _ hj;refine ⟨fun j hj => ?_,fun y hy => ?_,fun m hm => ?_,?_,fun j hj => ?_⟩
 ·rw [other j (by rintro rfl;exact hj H.zqn)];exact H.keep j hj
 ·rcases List.mem_cons.1 hy with rfl | hy
  ·exact hx _ (T.get_set_same _ _ _ _)
  ·exact (H.own y hy).congr fun m hm=>other m (H.lt hy hm)
 ·rw [Zcd,hn] at hm;rcases List.mem_append.1 hm with hm | hm
  ·rw [List.mem_singleton.1 hm];exact H.zqn
  ·exact H.off m hm
 ·rw [Zcd,hn];refine List.nodup_append.2 ⟨by simp,H.nd,?_⟩;rintro a ha b hb rfl;rw [List.mem_singleton.1 ha] at hb;obtain ⟨y,hy,hb⟩:=List.mem_flatMap.1 hb;exact H.lt hy hb rfl
 ·rw [Pa.tZ] at hj;rw [other j (by rintro rfl;omega)];exact H.fr j (by omega)
theorem Hp.upd (H:Hp h0 h nx L) {b:Blk} {x x':Ob} (hk:L[k]? = some x) (hm:id∈x.names) (hn:x'.names=x.names) (hx:x'.holds (T.set .no b id h)):Hp h0 (T.set .no b id h) nx (L.set k x'):=by
 have hkl:=(List.getElem?_eq_some_iff.1 hk).1;have hxm:=Zad hk;have other:∀ j,j≠id->T.get .no j (T.set .no b id h)=T.get .no j h:=fun j hj=>T.yh _ _ _ _ _ hj;have hid:T.get .no id h0=.no:=H.off id (List.mem_flatMap.2 ⟨x,hxm,hm⟩);have hL:L=L.take k++x::L.drop (k+1):=by
  rw [List.getElem?_eq_getElem hkl] at hk;rw [<- Option.some.inj hk];simp
 have hS:L.set k x'=L.take k++x'::L.drop (k+1):=by rw [Zdi,if_pos hkl]
 have hfl:(L.set k x').flatMap Ob.names=L.flatMap Ob.names:=by
  conv=>rhs;rw [hL]
  rw [hS];simp [hn]
 have hnd:=H.nd;rw [hL] at hnd;simp only [Zfs,Zcd] at hnd;have hnot:∀ y,y∈L.take k\/y∈L.drop (k+1)->id∉y.names:=by
  intro y hy hi;rcases hy with hy | hy
  ·exact (List.nodup_append.1 hnd).2.2 id (List.mem_flatMap.2 ⟨y,hy,hi⟩) id (Zdp _ hm) rfl
  ·exact (List.nodup_append.1 (List.nodup_append.1 hnd).2.1).2.2 id hm id (List.mem_flatMap.2 ⟨y,hy,hi⟩) rfl
 refine ⟨fun j hj => ?_,fun y hy => ?_,?_,by rw [hfl];exact H.nd,fun j hj => ?_⟩
 ·rw [other j (by rintro rfl;exact hj hid)];exact H.keep j hj
 ·rw [hS] at hy;have step:∀ y,y∈L.take k\/y∈L.drop (k+1)->y.holds (T.set .no b id h):=fun y hy =>
   (H.own y (by rw [hL];rcases hy with hy | hy <;> simp [hy])).congr fun m hm'=>other m (by rintro rfl;exact hnot y hy hm')
  rcases List.mem_append.1 hy with hy | hy
  ·exact step y (.inl hy)
  ·rcases List.mem_cons.1 hy with rfl | hy
   ·exact hx
   ·exact step y (.inr hy)
 ·rw [hfl];exact H.off
 ·rw [other j (by rintro rfl;exact (H.own x hxm).live _ hm (H.fr _ hj))];exact H.fr j hj
theorem xK (l:List AV):yL (jJ l .e 0) 0 l.length=l:=by
 have:=wX .e [] l 0 rfl;simpa using this
theorem Hp.zd9 (H:Hp h0 h nx L) (op:Bool) (l:List AV):Hp h0 (T.set .no (.cells op l.length (jJ l .e 0)) nx h) nx.succ (.arr nx l::L) :=
 H.new rfl fun h' e=>⟨op,_,e,xK l⟩
theorem Hp.box (H:Hp h0 h nx L) (hv:v.cells=some l) (hK:∀ id h' nx',Hp h0 h' nx' (.arr id l::L)->K (.ptr id 0) h' nx'=.ok True):xk v h nx K=.ok True:=by
 unfold xk;rw [hv];show yU false l h nx _=_;rw [yP];exact hK _ _ _ (H.zd9 false l)
theorem Hp.alloc (H:Hp h0 h nx L) (hK:∀ id h' nx',Hp h0 h' nx' (.arr id l::L)->K (.ptr id 0) h' nx'=.ok True):yO l h nx K=.ok True:=by
 unfold yO;rw [yP];exact hK _ _ _ (H.zd9 false l)
theorem Hp.wz {esz n:Nat} {zero:List AV} {ps:List (Nat×Nat×AV)} (H:Hp h0 h nx L) (hf:gY (bW n zero) ps=some l) (hK:∀ id h' nx',Hp h0 h' nx' (.arr id l::L)->K (.sl id 0 n (some n) esz) h' nx'=.ok True):jH esz n zero ps h nx K=.ok True:=by
 unfold jH;rw [hf];show yU false l h nx _=_;rw [yP];exact hK _ _ _ (H.zd9 false l)
theorem zqo (n:Nat) (z:AV):bW n [z]=List.replicate n z:=by
 induction n with
 | zero=>rfl
 | succ n ih=>show [z]++bW n [z]=_;rw [ih];rfl
theorem Hp.mkN {kl kc:IntKind} {esz bytes:Nat} {zero:List AV} {x y:Int} (H:Hp h0 h nx L) (hx:x=(n:Int)) (hy:y=(c:Int)) (h1:n<=c) (h2:c<=1000000) (h3:bytes*c<=281474976710656)
  (hK:∀ id h' nx',Hp h0 h' nx' (.arr id (bW c zero)::L)->K (.sl id 0 n (some c) esz) h' nx'=.ok True):uL esz bytes zero (.int kl x) (.int kc y) h nx K=.ok True:=by
 subst hx;subst hy;show (bif Nat.ble n c&&Nat.ble c 1000000&&Nat.ble (bytes*c) 281474976710656 then yU false (bW c zero) h nx (fun id h' nx'=>K (.sl id 0 n (some c) esz) h' nx') else Out.no 41)=_;rw [Zag h1,Zag h2,Zag h3];simp only [Zfz,cond_true];rw [yP];exact hK _ _ _ (H.zd9 false _)
theorem Hp.mk1 {kl kc:IntKind} {bytes:Nat} {z:AV} {x y:Int} (n:Nat) (H:Hp h0 h nx L) (hx:x=(n:Int)) (hy:y=(n:Int)) (h2:n<=1000000) (h3:bytes<=281474976)
  (hK:∀ id h' nx',Hp h0 h' nx' (.arr id (List.replicate n z)::L)->K (.sl id 0 n (some n) 1) h' nx'=.ok True):uL 1 bytes [z] (.int kl x) (.int kc y) h nx K=.ok True :=
 H.mkN hx hy (Zaf _) h2 (by have:=Zbd h3 h2;omega) (by rw [zqo];exact hK)
theorem ug.load {op:AV->OP} (H:ug h id l) (hi:l[i]? = some v):zH (.ptr id i) h op=op v:=by
 obtain ⟨o,t,h1,h2⟩:=H;have hil:=(List.getElem?_eq_some_iff.1 hi).1;rw [zcv h1 hil];have:=yK t 0 l.length i hil;rw [h2,hi,Zbh] at this;rw [Option.some.inj this]
theorem Hp.load {op:AV->OP} (H:Hp h0 h nx L) (hk:L[k]? = some (.arr id l)) (hi:l[i]? = some v):zH (.ptr id i) h op=op v :=
 ug.load (H.own _ (Zad hk)) hi
theorem zhv (t:T AV) (l:List AV) (i:Nat) (hi:i<l.length) (v:AV) (h:yL t 0 l.length=l):yL (T.set .u v (.of i) t) 0 l.length=l.set i v:=by
 apply Zck;intro j;by_cases hj:j<l.length
 ·rw [yK _ _ _ _ hj,Zbh,T.zbk,List.getElem?_set];by_cases e:j=i
  ·subst e;simp [hj]
  ·rw [if_neg e,if_neg (fun q=>e q.symm)];have:=yK t 0 l.length j hj;rw [h,Zbh] at this;exact this.symm
 ·rw [List.getElem?_eq_none (by simp;omega),List.getElem?_eq_none (by simp;omega)]
theorem ug.set {op:Bool} {t:T AV} (h1:T.get .no id h=.cells op l.length t) (h2:yL t 0 l.length=l) (hi:i<l.length):ug (T.set .no (.cells op l.length (T.set .u v (.of i) t)) id h) id (l.set i v) :=
 ⟨op,T.set .u v (.of i) t,by rw [T.get_set_same,Zbp],by rw [Zbp];exact zhv t l i hi v h2⟩
theorem Hp.store (H:Hp h0 h nx L) (hk:L[k]? = some (.arr id l)) (hi:i<l.length) (hv:v.cells=some [v]) (hK:∀ h',Hp h0 h' nx (L.set k (.arr id (l.set i v)))->K .u h' nx=.ok True):zO 1 (.ptr id i) v h nx K=.ok True:=by
 obtain ⟨o,t,h1,h2⟩:ug h id l:=H.own _ (Zad hk);rw [zbj h1 hi hv];exact hK _ (H.upd hk (by simp [Ob.names]) rfl (ug.set h1 h2 hi))
theorem Hp.app {esz bytes:Nat} {o:Option Pa} {x:AV} {new:List AV} (H:Hp h0 h nx L) (hk:L[k]? = some (.row o esz n l)) (hx:∀ (no:OP) (K':List AV->Nat->OP),xO x h no K'=K' new 1) (hne:new.length=esz) (hs:new.all uy=true)
  (he:1<=esz) (hb:bytes*1000000<=70368744177664) (hlim:l.length+1<=1000000) (hK:∀ o' h' nx',Hp h0 h' nx' (L.set k (.row o' esz (n+1) (l++new)))->K (ve o' esz (n+1)) h' nx'=.ok True) :
  eY esz bytes (ve o esz n) x h nx K=.ok True:=by
 have hc:(Nat.ble (bytes*1000000) 70368744177664&&Nat.beq new.length (1*esz)&&Nat.ble 1 esz&&new.all uy)=true:=by
  simp only [Zah,hs,and_true];exact ⟨⟨Zag hb,by rw [hne,Zbs];exact Zbv _⟩,Zag he⟩
 unfold eY appA;rw [hx,hc,cond_true];have hkl:=(List.getElem?_eq_some_iff.1 hk).1;have hmem:=Zad hk;have hL:L=L.take k++.row o esz n l::L.drop (k+1):=by
  have hk:=hk;rw [List.getElem?_eq_getElem hkl] at hk;rw [<- Option.some.inj hk];simp
 have hS:∀ x',L.set k x'=L.take k++x'::L.drop (k+1):=fun x'=>by rw [Zdi,if_pos hkl]
 have zj3:∀ x',(x'::(L.take k++L.drop (k+1))).Perm (L.set k x'):=fun x'=>by
  rw [hS];exact (Zdz).symm
 have front:L.Perm (.row o esz n l::(L.take k++L.drop (k+1))):=by
  conv=>lhs;rw [hL]
  exact Zdz
 have own:=H.own _ hmem;cases o with
 | none =>
  obtain ⟨rfl,rfl⟩:=own;show (bif Nat.beq 1 0 then K .zn h nx else bif Nat.ble 1 1000000 then yU true new h nx (fun id h' nx'=>K (.sl id 0 1 none esz) h' nx') else .no 31)=_;rw [yP];refine hK (some nx) _ _ ?_;refine Hp.perm (Hp.new ((H.perm front).drop) (x:=.row (some nx) esz 1 ([]++new)) rfl fun h' e => ?_) (zj3 _);refine ⟨new.length,_,e,by simp [hne],by omega,by rw [hne];exact Nat.dvd_refl _,?_⟩;have:=xK new;rw [hne] at this;simpa using this
 | some id =>
  obtain ⟨m,t,hb,hl,hm,hd,hrd⟩:=own;have hn:n+1<=1000000:=by
   have:n<=n*esz:=Nat.le_mul_of_pos_right _ he;omega
  by_cases hroom:(n+1)*esz<=m
  ·show (bif Nat.beq esz esz&&Nat.ble (n+1) 1000000 then ku (T.get .no id h) _ (.no 35) else .no 36)=_;rw [hb,Zbv,Zag hn];show (bif Nat.ble (0+n*esz) m then (bif Nat.ble (0+(n+1)*esz) m then wL id 0 n none esz true m t new 1 h nx K else _) else _)=_;rw [Zag (by omega),Zag (by omega)];show gZ new t (0+n*esz) _=_;rw [jF,T.jg,yQ,Zbh];refine hK (some id) _ _ (H.upd hk (by simp [Ob.names]) rfl ?_);refine ⟨m,_,T.get_set_same _ _ _ _,by simp [hl,hne,Zam],hroom,hd,?_⟩;have:=wX t l new (n*esz) hrd;rw [hne] at this;rw [Zam,Zbs];exact this
  ·have hmn:n*esz=m:=by
    obtain ⟨q,rfl⟩:=hd;have h1:esz*n<=esz*q:=by rw [Zaq esz n];exact hm
    have h2:¬ esz*(n+1)<=esz*q:=by rw [Zaq esz (n+1)];exact hroom
    have h3:n<=q:=Nat.le_of_mul_le_mul_left h1 he;have h4:¬ n+1<=q:=fun h=>h2 (Zbc _ h);rw [show q=n by omega,Zaq]
   show (bif Nat.beq esz esz&&Nat.ble (n+1) 1000000 then ku (T.get .no id h) _ (.no 35) else .no 36)=_;rw [hb,Zbv,Zag hn];show (bif Nat.ble (0+n*esz) m then (bif Nat.ble (0+(n+1)*esz) m then wL id 0 n none esz true m t new 1 h nx K else (bif true&&Nat.beq (0+n*esz) m&&Nat.beq 0 0 then mJ id n esz m t new 1 h nx K else .no 33)) else _)=_;have hnot:Nat.ble (0+(n+1)*esz) m=false:=by
    cases hq:Nat.ble (0+(n+1)*esz) m with
    | false=>rfl
    | true=>have:=yA hq;omega
   have hbq:Nat.beq (0+n*esz) m=true:=by rw [Zbh,hmn];exact Zbv _
   rw [Zag (by omega),hnot,hbq];show gZ new t m _=_;rw [jF,yQ,T.jg,T.jg,yQ];refine hK (some nx) _ _ (Hp.perm (Hp.new (b:=.cells true (m+1*esz) (jJ new t m)) (x:=.row (some nx) esz (n+1) (l++new)) (h:=T.set .no .no id h) ?_ rfl fun h' e => ?_) (zj3 _))
   ·have H2:=H.perm front;have hid:T.get .no id h0=.no:=H2.off id (by simp [Ob.names]);have H3:=H2.drop;have nd:=H2.nd;simp only [Zcd,Ob.names,Option.toList] at nd;have hni:id∉(L.take k++L.drop (k+1)).flatMap Ob.names:=fun hi=>(List.nodup_append.1 nd).2.2 id (by simp) id hi rfl;have other:∀ j,j≠id->T.get .no j (T.set .no .no id h)=T.get .no j h:=fun j hj=>T.yh _ _ _ _ _ hj;refine ⟨fun j hj => ?_,fun y hy => ?_,H3.off,H3.nd,fun j hj => ?_⟩
    ·rw [other j (by rintro rfl;exact hj hid)];exact H.keep j hj
    ·exact (H3.own y hy).congr fun m hm=>other m (by rintro rfl;exact hni (List.mem_flatMap.2 ⟨y,hy,hm⟩))
    ·by_cases e:j=id
     ·subst e;exact T.get_set_same _ _ _ _
     ·rw [other j e];exact H.fr j hj
   ·refine ⟨m+1*esz,_,e,by simp [hl,hne,Zam],by rw [<- hmn,Zam];omega,?_,?_⟩
    ·rw [Zbs];exact Nat.dvd_add hd (Nat.dvd_refl _)
    ·have:=wX t l new (n*esz) hrd;rw [hne] at this;rw [Zam,Zbs,<- hmn];exact this
theorem sIx {e':Nat} {cap:Option Nat} {kk:IntKind} {j:Int} {op:AV->OP} (hj:j=(i:Int)) (hi:i<n):zM 1 (.sl id 0 n cap e') (.int kk j) op=op (.ptr id i):=by
 subst hj;rw [wU hi];simp
theorem ni {e:Nat} {kk:IntKind} {j:Int} {op:AV->OP} (hj:j=(i:Int)) (hi:i<n):zM e (.lst e n l) (.int kk j) op=op (.fp (l.drop (i*e))):=by
 subst hj;rw [zht hi]
theorem bG {rs:List (Option Pa)} {ll:List (List AV)} (h:rs.length=ll.length):(qL rs ll).length=ll.length:=by simp [qL,h]
theorem dS {r:Pa}:∀ (rs:List (Option Pa)) (i:Nat),rs[i]? = some none->(r::rs.filterMap (fun o=>o)).Perm ((rs.set i (some r)).filterMap (fun o=>o))
 | [],i,h=>by simp at h
 | o::rs,0,h=>by
  simp at h;subst h;simp
 | o::rs,i+1,h=>by
  have ih:=dS (r:=r) rs i (by simpa using h);cases o with
  | none=>simpa using ih
  | some q =>
   simp only [Zey,List.filterMap_cons_some];exact (List.Perm.swap q r _).trans (ih.cons q)
theorem Hp.putRow {w:Nat} {r:Pa} {rs:List (Option Pa)} {ll:List (List AV)} (H:Hp h0 h nx (.arr r l::L)) (hw:l.length=w) (hk:L[k]? = some (.tab id rs ll)) (hr:rs[i]? = some none)
  (hK:∀ h',Hp h0 h' nx (L.set k (.tab id (rs.set i (some r)) (ll.set i l)))->K .u h' nx=.ok True):zO 1 (.ptr id i) (.sl r 0 w (some w) 1) h nx K=.ok True:=by
 subst hw;have hkl:=(List.getElem?_eq_some_iff.1 hk).1;have hmem:=Zad hk;have hL:L=L.take k++.tab id rs ll::L.drop (k+1):=by
  have hk:=hk;rw [List.getElem?_eq_getElem hkl] at hk;rw [<- Option.some.inj hk];simp
 have hS:∀ x',L.set k x'=L.take k++x'::L.drop (k+1):=fun x'=>by rw [Zdi,if_pos hkl]
 have hi:=(List.getElem?_eq_some_iff.1 hr).1;obtain ⟨⟨op,t,h1,h1'⟩,h2,h3,h4⟩:=H.own _ (Zat _ hmem);have hlen:=bG h2;have hr0:ug h r l:=H.own _ (Zal ..);rw [zbj h1 (by omega) rfl];have hnm:((Ob.arr r l::L).flatMap Ob.names).Perm ((L.set k (.tab id (rs.set i (some r)) (ll.set i l))).flatMap Ob.names):=by
  rw [hS]
  conv=>lhs;rw [hL]
  simp only [Zcd,Zfs,Ob.names];have e:=dS (r:=r) rs i hr;have e2:([r]++(id::rs.filterMap (fun o=>o))).Perm (id::(rs.set i (some r)).filterMap (fun o=>o)):=(List.Perm.swap id r _).trans (e.cons id);refine (List.perm_append_comm_assoc _ _ _).trans (List.Perm.append_left _ ?_);rw [<- Zbk];exact e2.append_right _
 have nd:=H.nd;have hidr:id≠r:=by
  rintro rfl;simp only [Zcd,Ob.names] at nd;exact (List.nodup_append.1 nd).2.2 id (by simp) id (List.mem_flatMap.2 ⟨_,hmem,by simp [Ob.names]⟩) rfl
 have other:∀ b j,j≠id->T.get .no j (T.set .no b id h)=T.get .no j h:=fun b j hj=>T.yh _ _ _ _ _ hj;have nd':=hnm.nodup_iff.1 nd;refine hK _ ⟨fun j hj => ?_,fun y hy => ?_,fun m hm=>H.off m (hnm.mem_iff.2 hm),nd',fun j hj => ?_⟩
 ·rw [other _ j (by rintro rfl;exact hj (H.off _ (List.mem_flatMap.2 ⟨_,Zat _ hmem,by simp [Ob.names]⟩)))];exact H.keep j hj
 ·rw [hS] at hy nd';simp only [Zcd,Zfs] at nd';have step:∀ y,y∈L.take k\/y∈L.drop (k+1)->y.holds (T.set .no (.cells op (qL rs ll).length (T.set .u (.sl r 0 l.length (some l.length) 1) (.of i) t)) id h):=fun y hz=>by
   refine (H.own y (Zat _ (by rw [hL];rcases hz with hz | hz <;> simp [hz]))).congr fun m hm=>other _ m fun hmi => ?_;rw [hmi] at hm;rcases hz with hz | hz
   ·exact (List.nodup_append.1 nd').2.2 id (List.mem_flatMap.2 ⟨y,hz,hm⟩) id (Zdp _ (by simp [Ob.names])) rfl
   ·exact (List.nodup_append.1 (List.nodup_append.1 nd').2.1).2.2 id (by simp [Ob.names]) id (List.mem_flatMap.2 ⟨y,hz,hm⟩) rfl
  rcases List.mem_append.1 hy with hy | hy
  ·exact step y (.inl hy)
  ·rcases List.mem_cons.1 hy with rfl | hy
   ·have htc:qL (rs.set i (some r)) (ll.set i l)=(qL rs ll).set i (.sl r 0 l.length (some l.length) 1):=by
     apply Zck;intro j;simp only [qL,List.getElem?_zipWith,List.getElem?_set,Zes];by_cases e:i=j
     ·subst e;simp [hi,show i<ll.length by omega,cellV];omega
     ·simp [e]
    refine ⟨?_,by simp [h2],fun i' r' hr' => ?_,fun i' l' hr' hl' => ?_⟩
    ·rw [htc];exact ug.set h1 h1' (by omega)
    ·by_cases e:i=i'
     ·subst e;rw [List.getElem?_set_self hi] at hr';cases hr'
      exact ⟨l,List.getElem?_set_self (by omega),hr0.congr (other _ _ hidr.symm)⟩
     ·rw [List.getElem?_set_ne e] at hr';obtain ⟨l2,g1,g2⟩:=h3 i' r' hr';refine ⟨l2,by rw [List.getElem?_set_ne e];exact g1,g2.congr (other _ _ ?_)⟩;rintro rfl;have hndt:=(List.nodup_append.1 (List.nodup_append.1 nd').2.1).1;simp only [Ob.names,Zef] at hndt;refine hndt.1 ?_;simp only [List.mem_filterMap];exact ⟨some r',by rw [Zci];exact ⟨i',by rw [List.getElem?_set_ne e];exact hr'⟩,rfl⟩
    ·by_cases e:i=i'
     ·subst e;rw [List.getElem?_set_self hi] at hr';cases hr'
     ·rw [List.getElem?_set_ne e] at hr' hl';exact h4 i' l' hr' hl'
   ·exact step y (.inr hy)
 ·rw [other _ j (by rintro rfl;rw [H.fr _ hj] at h1;cases h1)];exact H.fr j hj
def fO:AV->Bool
 | .bool _ | .int _ _ | .str _ | .sJ | .zn | .esl | .rW | .nV=>true
 | .lst _ _ l=>nns l
 | .fp l=>nns l
 | _=>false
theorem fO.uy:∀ {v:AV},fO v=true->Ev.uy v=true:=by
 intro v h;cases v <;> first | rfl | (simp [fO] at h)
theorem fO.nn:∀ {v:AV},fO v=true->Ev.nn v=true:=by
 intro v h;cases v <;> first | rfl | (simp [fO] at h;done) | (simpa [fO,Ev.nn] using h)
theorem zbl:∀ {l:List AV},(∀ v∈l,fO v=true)->nns l=true
 | [],_=>rfl
 | a::l,h=>by simp [nns,fO.nn (h a (by simp)),zbl (l:=l) fun v hv=>h v (by simp [hv])]
theorem yB {N:Pa->Prop} {O:AV->Prop} {hh:T Blk}:∀ {v:AV},fO v=true->Frz True N O hh v v:=by
 intro v h
 cases v <;> first
  |(simp [fO] at h;done)
  | exact .bool _ | exact .int _ _ | exact .str _ | exact .sJ | exact .zn | exact .esl | exact .rW | exact .nV
  | exact .lst _ _ _ trivial h
  | exact .fp _ trivial h
theorem ug.frz {N:Pa->Prop} {O:AV->Prop} {cap:Option Nat} {e n:Nat} (H:ug h id l) (hid:N id) (hcap:capLe n cap) (hl:l.length=n*e) (hf:∀ v∈l,fO v=true):Frz True N O h (.sl id 0 n cap e) (.lst e n l):=by
 obtain ⟨op,t,h1,h2⟩:=H;refine .sl _ _ _ _ _ op _ t _ hid hcap h1 (by omega) hl (List.all_eq_true.2 fun v hv=>fO.uy (hf v hv)) fun i v hi => ?_;have:=yK t 0 l.length i (List.getElem?_eq_some_iff.1 hi).1;rw [h2,hi] at this;rw [<- Option.some.inj this];exact yB (hf v (Zad hi))
theorem Hp.zqp {cap:Option Nat} {e n:Nat} (H:Hp h0 h nx L) (hk:L[k]? = some (.arr id l)) (hcap:capLe n cap) (hl:l.length=n*e) (hf:∀ v∈l,fO v=true):sS h0 h (.sl id 0 n cap e) (.lst e n l) :=
 ug.frz (H.own _ (Zad hk)) (H.off id (List.mem_flatMap.2 ⟨_,Zad hk,by simp [Ob.names]⟩)) hcap hl hf
theorem yC {P:Program} {B:Nat} {f:Nat} {args:List AV} {Q:AV->Prop}
  (hk:∀ (h:T Blk) (nx:Pa) (K:Kw Prop),Hp h h nx []->(∀ v h' nx' L v',Hp h h' nx' L->sS h h' v v'->Q v'->K v h' nx'=.ok True)->(CS P B).fn f (.of f) args h nx K=.ok True):Pure P B f args Q :=
 zuq fun h nx K hf hK=>hk h nx K (Hp.init hf) fun v h' nx' _ v' H hF hQ=>hK v h' nx' H.fr H.keep ⟨v',hF,hQ⟩
theorem j7 {N:Pa->Prop} {O:AV->Prop} {hh:T Blk} {a b a' b':AV} (h1:Frz True N O hh a a') (h2:Frz True N O hh b b'):Frz True N O hh (.tup [a,b]) (.tup [a',b']):=by
 refine .tup _ _ rfl fun i v v' hi hi' => ?_
 match i with
 | 0=>simp at hi hi';subst hi;subst hi';exact h1
 | 1=>simp at hi hi';subst hi;subst hi';exact h2
 | i+2=>simp at hi
end Go.Ev
namespace Go.Ev
open Go
def rowL {α:Type} (W:Nat) (d:Nat->α):List α:=(List.range W).map d
section
variable {α:Type} {W:Nat} {d d':Nat->α} {j:Nat} {v:α}
@[simp] theorem zf3:(rowL W d).length=W:=by simp [rowL]
def tabL (N W:Nat) (D:Nat->Nat->α):List (List α):=rowL N fun i=>rowL W (D i)
variable {N k:Nat} {D D':Nat->Nat->α}
@[simp] theorem zxg:(tabL N W D).length=N:=zf3
end
end Go.Ev
namespace Go.Ev
open Go
abbrev encI (l:List Int):AV:=.lst 1 l.length (l.map I)
abbrev mg (ll:List (List Int)):AV:=.lst 1 ll.length (ll.map encI)
theorem zzm (l:List Int):nns (l.map I)=true:=zbl fun v hv=>by
 obtain ⟨x,_,rfl⟩:=List.mem_map.1 hv;rfl
theorem dF (l:List Int):fO (encI l)=true:=zzm l
theorem tJ {l:List Int} {i:Nat} {x:Int} (h:l[i]? = some x):(l.map I)[i]? = some (I x):=by rw [List.getElem?_map,h];rfl
theorem getT {ll:List (List Int)} {i:Nat} {l:List Int} (h:ll[i]? = some l):(ll.map encI)[i]? = some (encI l):=by rw [List.getElem?_map,h];rfl
theorem ldL {h:T Blk} {l:List AV} {i:Nat} {v:AV} {op:AV->OP} (hv:l[i]? = some v):zH (.fp (l.drop (i*1))) h op=op v:=by rw [Zca];exact zhu hv
def tEq:T AV->T AV->Bool
 | .e,.e=>true
 | .n l v r,.n l' v' r'=>aJ v v'&&tEq l l'&&tEq r r'
 | _,_=>false
theorem zhw:∀ {a b:T AV},tEq a b=true->a=b
 | .e,.e,_=>rfl
 | .e,.n ..,h=>by simp [tEq] at h
 | .n ..,.e,h=>by simp [tEq] at h
 | .n l v r,.n l' v' r',h=>by
  simp only [tEq,Zah] at h;rw [wI h.1.1,zhw h.1.2,zhw h.2]
def esEq:List (AV×AV)->List (AV×AV)->Bool
 | [],[]=>true
 |(a,b)::l,(c,d)::m=>aJ a c&&aJ b d&&esEq l m
 | _,_=>false
theorem zj4:∀ {a b:List (AV×AV)},esEq a b=true->a=b
 | [],[],_=>rfl
 | [],_::_,h=>by simp [esEq] at h
 | _::_,[],h=>by simp [esEq] at h
 |(a,b)::l,(c,d)::m,h=>by
  simp only [esEq,Zah] at h;rw [wI h.1.1,wI h.1.2,zj4 h.2]
def bQ:Blk->Blk->Bool
 | .no,_=>true
 | .cells op n t,.cells op' n' t'=>op==op'&&Nat.beq n n'&&tEq t t'
 | .map n l,.map n' l'=>Nat.beq n n'&&esEq l l'
 | _,_=>false
theorem zhx:∀ {a b:Blk},bQ a b=true->a≠.no->b=a:=by
 intro a b h hn
 cases a <;> cases b <;> first
  | exact (hn rfl).elim
  |(simp [bQ] at h;done)
  |(simp only [bQ,Zah] at h
    first
     |(obtain ⟨⟨h1,h2⟩,h3⟩:=h;rw [eq_of_beq h1,yE h2,zhw h3])
     |(rw [yE h.1,zj4 h.2]))
def zbm:T Blk->T Blk->Bool
 | .e,_=>true
 | .n l v r,.n l' v' r'=>bQ v v'&&zbm l l'&&zbm r r'
 | .n ..,.e=>false
theorem zbn:∀ {h h':T Blk},zbm h h'=true->∀ id,T.get .no id h≠.no->T.get .no id h'=T.get .no id h
 | .e,_,_,id,hn=>(hn (T.bg _ id)).elim
 | .n ..,.e,h,_,_=>by simp [zbm] at h
 | .n l v r,.n l' v' r',h,id,hn=>by
  simp only [zbm,Zah] at h;cases id with
  | z=>rw [T.zj5] at hn ⊢;rw [T.zj5];exact zhx h.1.1 hn
  | l p=>rw [T.zcw] at hn ⊢;rw [T.zcw];exact zbn h.1.2 p hn
  | r p=>rw [T.zcx] at hn ⊢;rw [T.zcx];exact zbn h.2 p hn
def allEq (f:Nat->Out AV) (v:AV):List Nat->Bool
 | []=>true
 | i::l=>match f i with
  | .ok u=>bif aJ u v then allEq f v l else false
  | .no _=>false
theorem zf4 {f:Nat->Out AV} {v:AV}:∀ {l:List Nat},allEq f v l=true->∀ i∈l,f i=.ok v
 | [],_,i,hi=>by simp at hi
 | j::l,h,i,hi=>by
  simp only [allEq] at h;cases hf:f j with
  | no=>simp [hf] at h
  | ok u =>
   rw [hf] at h;cases hq:aJ u v with
   | false=>simp [hq] at h
   | true =>
    simp [hq] at h;rcases List.mem_cons.1 hi with rfl | hi
    ·rw [hf,wI hq]
    ·exact zf4 h i hi
def zqq (L:List Nat) (f:Nat->Out AV):Out AV:=match L with
 | []=>.no 70
 | i::l=>match f i with
  | .ok v=>bif allEq f v l then .ok v else .no 71
  | .no n=>.no n
theorem zqr {L:List Nat} {f:Nat->Out AV} {r:AV} (h:zqq L f=.ok r):∀ i∈L,f i=.ok r:=by
 cases L with
 | nil=>cases h
 | cons i l =>
  simp only [zqq] at h;cases hf:f i with
  | no=>simp [hf] at h
  | ok v =>
   rw [hf] at h;cases hq:allEq f v l with
   | false=>simp [hq] at h
   | true =>
    simp [hq] at h;subst h;intro j hj;rcases List.mem_cons.1 hj with rfl | hj
    ·exact hf
    ·exact zf4 hq j hj
def letK (h:T Blk):Kw AV:=fun v h' _=>bif zbm h h' then (match fzB 20 h h' v with
 | some v'=>.ok v'
 | none=>.no 72) else .no 73
def qZ (S:Nat->Bool) (J:Nat->List AV->T Blk->Option (AV×T Blk)) (fns:T (Option Fn)) (fuel:Nat) (n:Nat):Calls AV :=
 Nat.rec ⟨fun _ _ _ _ _ _=>.no 80,fun _ _ _ _ _=>.no 81,fun _ _=>.no 79⟩ (fun _ C=>⟨fun f p args h nx K=>Option.rec (motive:=fun _=>Out AV)
  (Bool.rec (zS fns fuel C p args h nx K) (Out.rec (motive:=fun _=>Out AV) (fun v=>K v h nx) (fun n=>.no n) (zS fns fuel C p args h nx (letK h))) (S f))
  (fun x=>Prod.rec (motive:=fun _=>Out AV) (fun v h=>K v h nx) x) (J f args h),xT fuel C,zqq⟩) n
variable {P:Program} {B:Nat}
theorem m8 {S:Nat->Bool} {J:Nat->List AV->T Blk->Option (AV×T Blk)} {fns:T (Option Fn)} (hT:za4 P fns) (hD:dL P B AV) (hJ:JOk P B J) (fuel:Nat):∀ n,COk P B (qZ S J fns fuel n)
 | 0=>⟨fun _ _ hk=>(by cases hk),fun _ _ _ hk=>(by cases hk),fun _ _ _ hk=>(by cases hk)⟩
 | n+1=>by
  have ih:=m8 (S:=S) hT hD hJ fuel n;refine ⟨fun {E h nx w f args vs K r} H hv hk => ?_,fun H hE hv hk=>dT ih (hD ih) H hE hv hk,fun _ _ _ hk=>zqr hk⟩
  have hk:Option.rec (motive:=fun _=>Out AV)
   (Bool.rec (zS fns fuel (qZ S J fns fuel n) (.of f) args h nx K) (Out.rec (motive:=fun _=>Out AV) (fun v=>K v h nx) (fun n=>.no n) (zS fns fuel (qZ S J fns fuel n) (.of f) args h nx (letK h))) (S f))
   (fun x=>Prod.rec (motive:=fun _=>Out AV) (fun v h=>K v h nx) x) (J f args h)=.ok r:=hk
  cases hj:J f args h with
  | none =>
   rw [hj] at hk;cases hs:S f with
   | false=>rw [hs] at hk;exact xU hT ih (hD ih) H hv hk
   | true =>
    rw [hs] at hk;have hk:Out.rec (motive:=fun _=>Out AV) (fun v=>K v h nx) (fun n=>.no n) (zS fns fuel (qZ S J fns fuel n) (.of f) args h nx (letK h))=.ok r:=hk;cases hc:zS fns fuel (qZ S J fns fuel n) (.of f) args h nx (letK h) with
    | no m=>rw [hc] at hk;cases hk
    | ok v' =>
     rw [hc] at hk;have hk:K v' h nx=.ok r:=hk;obtain ⟨fn,h1,h2,h3,h4⟩:=xU hT ih (hD ih) H hv hc;refine ⟨fn,h1,h2,h3,fun n=>(h4 n).mono fun e w' he => ?_⟩
     cases e <;> first
      | exact he.elim
      |(obtain ⟨av,h',nx',E',k1,k2,k3,k4⟩:=he
        unfold letK at k1;cases hq:zbm h h' with
        | false=>simp [hq] at k1
        | true =>
         rw [hq,cond_true] at k1;cases hz:fzB 20 h h' av with
         | none=>simp [hz] at k1
         | some v2 =>
          simp [hz] at k1;subst k1;have hkp:kJ h h':=zbn hq;obtain ⟨r1,r2,_⟩:=dO H k3 k4 hkp;exact ⟨v2,h,nx,_,hk,zhs H k3 k4 hkp (m0 20 hz) k2,r1,r2⟩)
  | some x =>
   obtain ⟨v,h2⟩:=x;rw [hj] at hk;obtain ⟨fn,h1,h2,h3,h4⟩:=hJ H hv hj;refine ⟨fn,h1,h2,h3,fun n=>(h4 n).mono fun e w' he => ?_⟩;obtain ⟨u,E',rfl,q1,q2,q3⟩:=he;exact ⟨v,_,nx,E',hk,q1,q2,q3⟩
theorem zea {S:Nat->Bool} {J:Nat->List AV->T Blk->Option (AV×T Blk)} {fns:T (Option Fn)} (hT:za4 P fns) (hm:P.follows .mixedOrders=true) (hJ:∀ B,JOk P B J) {fuel n f:Nat} {args:List AV} {r:AV} (ha:nns args=true) (hk:(qZ S J fns fuel n).fn f (.of f) args .e .z endK=.ok r) :
  Pure P B f args (· = r):=zln (fun B=>m8 hT (mB hm) (hJ B) fuel n) ha hk
end Go.Ev
namespace Go.Ev
open Go Classical
variable {P:Program}
def zqs (tab:Nat->List (List AV×AV)) (J:Nat->List AV->T Blk->Option (AV×T Blk)) (f:Nat) (args:List AV) (h:T Blk):Option (AV×T Blk):=match (tab f).find? (fun e=>wH e.1 args) with
 | some e=>some (e.2,h)
 | none=>J f args h
def zqu (P:Program) (f:Nat) (l:List (List AV×AV)):Prop:=∀ e∈l,∀ B,Pure P B f e.1 (· = e.2)
theorem zus {tab:Nat->List (List AV×AV)} {J:Nat->List AV->T Blk->Option (AV×T Blk)} {B:Nat} (hm:∀ f,zqu P f (tab f)) (hJ:JOk P B J):JOk P B (zqs tab J):=by
 intro E h nx w f args vs v h2 H hv hj;unfold zqs at hj;split at hj
 case h_2=>exact hJ H hv hj
 rename_i e he;cases hj
 have hq:=List.find?_some he;have hin:=List.mem_of_find?_eq_some he;have ea:e.1=args:=kG hq;have hc:=hm f e hin B .z h nx (fun v h2 nx2=>if v=e.2/\h2=h/\nx2=nx then .ok True else .no 0) (fun v hv _=>if_pos ⟨hv,rfl,rfl⟩);rw [ea,rF] at hc;obtain ⟨fn,h1,h2,h3,h4⟩:=hc.1 _ w vs H hv;refine ⟨fn,h1,h2,h3,fun n=>(h4 n).mono fun e' w' he' => ?_⟩
 cases e' <;> first
  | exact he'.elim
  |(obtain ⟨av,h2,nx',E1,k1,k2,k3,k4⟩:=he'
    have k1':(if av=e.2/\h2=h/\nx'=nx then (Out.ok True:Out Prop) else .no 0)=.ok True:=k1;split at k1'
    ·rename_i hh;obtain ⟨rfl,rfl,rfl⟩:=hh;exact ⟨_,E1,rfl,k2,k3,k4⟩
    ·cases k1')
end Go.Ev
namespace Go.Ev
open Go
abbrev KTm:=Tm->T Blk->Pa->OP
section
variable {C:Calls Prop} {N:Nat} {O:dw Prop} {K:Ks Prop}
theorem zA (a b:IR) (tm:T AV) (h:T Blk) (nx:Pa):IR.run (.seq a b) C N O K tm h nx=IR.run a C N O (IR.run b C N O K) tm h nx:=rfl
theorem jG (l:List RO) (tm:T AV) (h:T Blk) (nx:Pa):IR.run (.reg l) C N O K tm h nx=zN l C ⟨tm,[]⟩ h nx (fun tm h nx=>K tm.v h nx):=rfl
theorem zB (c:Arg) (a b:IR) (tm:T AV) (h:T Blk) (nx:Pa):IR.run (.cond c a b) C N O K tm h nx=yG (c.ev ⟨tm,[]⟩) (IR.run a C N O K tm h nx) (IR.run b C N O K tm h nx):=rfl
theorem zF (tm:T AV) (h:T Blk) (nx:Pa):IR.run .skip C N O K tm h nx=K tm h nx:=rfl
theorem zX (i:Nat) (tm:T AV) (h:T Blk) (nx:Pa):IR.run (.exit i) C N O K tm h nx=O.ex i tm h nx:=rfl
theorem zK (tm:T AV) (h:T Blk) (nx:Pa):IR.run .ret C N O K tm h nx=O.rt tm h nx:=rfl
end
theorem wV (want:Bool) (op:(AV->OP)->OP) {K:AV->OP}:sG .u want op K=K .u:=nr rfl
theorem yW {fns:T (Option Fn)} {f:Nat} {F:Fn} {b:IR} {fr:T AV} {args:List AV} {C:Calls Prop} {N:Nat} {K:Kw Prop} {h:T Blk} {nx:Pa} (h1:T.get none (.of f) fns=some F) (h2:∀ k:T AV->OP,uO F.params args F.init k=k fr) (h3:F.body=b):zS fns N C (.of f) args h nx K=IR.run b C N (fnO F.res K) (yu F.res K) fr h nx:=by
 rw [yI h1,h2,h3]
end Go.Ev
namespace Go.Ev
open Go Go.Proofs
theorem zf5 {E:Env} {k:IntKind}:∀ {zs:List Int} {l:List Value},VRL E (zs.map fun z=>AV.int k z) l->l=zs.map fun z=>Value.int k z
 | [],l,h=>by
  cases l with
  | nil=>rfl
  | cons a l=>simp [VRL] at h
 | z::zs,l,h=>by
  simp only [Zbt,VRL] at h;obtain ⟨u,l2,rfl,hu,hl⟩:=h;simp only [VR] at hu;rw [hu,zf5 hl];rfl
theorem zbo {P:Program} {B f:Nat} {k:IntKind} {zs:List Int} {r:AV} {v:Value} (hr:∀ E,VR E r v) (hrun:∀ w,(callFunc f (zs.map fun z=>Value.int k z).toArray).run P w=.ok (.value v) w) :
  Pure P B f (zs.map fun z=>AV.int k z) (· = r):=by
 intro p h nx K hK;rw [rF];refine ⟨fun E w vs H hv => ?_,rfl⟩;have e:=zf5 hv;have e2:vs=(zs.map fun z=>Value.int k z).toArray:=by rw [<- e]
 refine ⟨(),trivial,trivial,trivial,fun n=>.inr ⟨fun x hx => ?_,v,by rw [e2];exact hrun w,r,h,nx,E,hK r rfl H.fr,hr E,H,Ex.refl E w⟩⟩;rw [e] at hx;obtain ⟨z,_,rfl⟩:=List.mem_map.1 hx;exact ⟨k,z,rfl⟩
theorem zf6 {P:Program} {B f:Nat} {fn:Func} (hf:P.funcs[f]? = some fn) (hname:(fn.name == "runtime.NumGoroutine")=false) (hb:fn.body.isNone=true) (hn:Extern.findNext fn=none) (he:Extern.find fn=some add64Entry) {x y c:Nat} (hc:c<=1) :
  Pure P B f [.int .u64 x,.int .u64 y,.int .u64 c] (· = .tup [.int .u64 ((x+y+c)%18446744073709551616:Nat),.int .u64 ((x+y+c) / 18446744073709551616:Nat)]):=by
 refine zbo (zs:=[(x:Int),(y:Int),(c:Int)]) (v:=.tuple #[.int .u64 ((x+y+c)%18446744073709551616:Nat),.int .u64 ((x+y+c) / 18446744073709551616:Nat)]) (fun E => ?_) fun w => ?_
 ·simp only [VR];exact ⟨_,rfl,by simp [VRL,VR]⟩
 ·rw [run_callFunc_extern hf hname hb hn he];have:=run_add64 (P:=P) (x:Int) (y:Int) (c:Int) (by omega) (by omega) (by omega) (by omega) w;show Result.andThen ((add64Entry #[.int .u64 x,.int .u64 y,.int .u64 c]).run P w) _=_;rw [this];simp only [Result.andThen]
  congr 5 <;> omega
theorem zf7 {P:Program} {B f:Nat} {fn:Func} (hf:P.funcs[f]? = some fn) (hname:(fn.name == "runtime.NumGoroutine")=false) (hb:fn.body.isNone=true) (hn:Extern.findNext fn=none) (he:Extern.find fn=some sub64Entry) {x y b:Nat} (hc:b<=1) :
  Pure P B f [.int .u64 x,.int .u64 y,.int .u64 b] (· = .tup [.int .u64 ((x+18446744073709551616-y-b)%18446744073709551616:Nat),.int .u64 (if x<y+b then 1 else 0:Nat)]):=by
 refine zbo (zs:=[(x:Int),(y:Int),(b:Int)]) (v:=.tuple #[.int .u64 ((x+18446744073709551616-y-b)%18446744073709551616:Nat),.int .u64 (if x<y+b then 1 else 0:Nat)]) (fun E => ?_) fun w => ?_
 ·simp only [VR];exact ⟨_,rfl,by simp [VRL,VR]⟩
 ·rw [run_callFunc_extern hf hname hb hn he];show Result.andThen ((sub64Entry #[.int .u64 x,.int .u64 y,.int .u64 b]).run P w) _=_;rw [run_sub64 x y b hc w]
  rfl
end Go.Ev
namespace Go.Ev
open Go
variable {h0 h h':T Blk} {nx:Pa} {L L':List Ob} {K:KW3} {k i n c:Nat} {id:Pa} {l:List AV} {v:AV}
theorem xC {x:Ob} (hk:L[k]? = some x):L=L.take k++x::L.drop (k+1)/\∀ x',L.set k x'=L.take k++x'::L.drop (k+1):=by
 have hkl:=(List.getElem?_eq_some_iff.1 hk).1;refine ⟨?_,fun x'=>by rw [Zdi,if_pos hkl]⟩;rw [List.getElem?_eq_getElem hkl] at hk;rw [<- Option.some.inj hk];simp
theorem Hp.front {x:Ob} (H:Hp h0 h nx L) (hk:L[k]? = some x):Hp h0 h nx (x::(L.take k++L.drop (k+1))):=by
 obtain ⟨e1,_⟩:=xC hk;refine H.perm ?_
 conv=>lhs;rw [e1]
 exact Zdz
theorem Hp.back {x x':Ob} (hk:L[k]? = some x) (H:Hp h0 h nx (x'::(L.take k++L.drop (k+1)))):Hp h0 h nx (L.set k x'):=by
 obtain ⟨_,e2⟩:=xC hk;rw [e2];exact H.perm List.perm_middle.symm
theorem Hp.kill (H:Hp h0 h nx (.gro (some id) c n l::L)):Hp h0 (T.set .no .no id h) nx L:=by
 have hid:T.get .no id h0=.no:=H.off id (by simp [Ob.names]);have H3:=H.drop;have nd:=H.nd;simp only [Zcd,Ob.names,Option.toList] at nd;have hni:id∉L.flatMap Ob.names:=fun hi=>(List.nodup_append.1 nd).2.2 id (by simp) id hi rfl;have other:∀ j,j≠id->T.get .no j (T.set .no .no id h)=T.get .no j h:=fun j hj=>T.yh _ _ _ _ _ hj;refine ⟨fun j hj => ?_,fun y hy => ?_,H3.off,H3.nd,fun j hj => ?_⟩
 ·rw [other j (by rintro rfl;exact hj hid)];exact H.keep j hj
 ·exact (H3.own y hy).congr fun m hm=>other m (by rintro rfl;exact hni (List.mem_flatMap.2 ⟨y,hy,hm⟩))
 ·by_cases e:j=id
  ·subst e;exact T.get_set_same _ _ _ _
  ·rw [other j e];exact H.fr j hj
theorem pE:kJ (T.set .no .no id h) h:=fun j hj=>by
 by_cases e:j=id
 ·subst e;exact (hj (T.get_set_same _ _ _ _)).elim
 ·exact (T.yh _ _ _ _ _ e).symm
theorem Hp.appN {esz bytes:Nat} {o:Option Pa} {x:AV} {new:List AV} (H:Hp h0 h nx L) (hk:L[k]? = some (.gro o esz n l)) (hx:∀ (no:OP) (K':List AV->Nat->OP),xO x h no K'=K' new c) (hne:new.length=c*esz) (hs:new.all uy=true)
  (he:1<=esz) (hb:bytes*1000000<=70368744177664) (hlim:n+c<=1000000) (hK:∀ o' h' nx',(o≠none\/1<=c->o'≠none)->Hp h0 h' nx' (L.set k (.gro o' esz (n+c) (l++new)))->K (ve o' esz (n+c)) h' nx'=.ok True) :
  eY esz bytes (ve o esz n) x h nx K=.ok True:=by
 have hc:(Nat.ble (bytes*1000000) 70368744177664&&Nat.beq new.length (c*esz)&&Nat.ble 1 esz&&new.all uy)=true:=by
  simp only [Zah,hs,and_true];exact ⟨⟨Zag hb,by rw [hne];exact Zbv _⟩,Zag he⟩
 unfold eY appA;rw [hx,hc,cond_true];have own:=H.own _ (Zad hk);have HF:=H.front hk;cases o with
 | none =>
  obtain ⟨rfl,rfl⟩:=own;by_cases hc0:c=0
  ·subst hc0;obtain rfl:new=[]:=by simpa using hne
   show K .zn h nx=_;refine hK none _ _ (fun q=>by rcases q with q | q <;> first | exact (q rfl).elim | omega) (H.cast ?_);rw [(xC hk).2];exact (xC hk).1
  ·show (bif Nat.beq c 0 then K .zn h nx else bif Nat.ble c 1000000 then yU true new h nx (fun id h' nx'=>K (.sl id 0 c none esz) h' nx') else .no 31)=_;rw [aC hc0,Zag (by omega),cond_false,cond_true];rw [yP];rw [Zbh] at hK;refine hK (some nx) _ _ (fun _=>by simp) (Hp.back hk (Hp.new HF.drop (x:=.gro (some nx) esz c ([]++new)) rfl fun h' e => ?_));refine ⟨_,by rw [e,hne],by simp [hne],?_⟩;have:=xK new;rw [hne] at this;simpa using this
 | some id =>
  obtain ⟨t,hb,hl,hrd⟩:=own;show (bif Nat.beq esz esz&&Nat.ble (n+c) 1000000 then ku (T.get .no id h) _ (.no 35) else .no 36)=_;rw [hb,Zbv,Zag hlim];have hwr:=wX t l new (n*esz) hrd;rw [hne,<- Zam] at hwr;by_cases hc0:c=0
  ·subst hc0;obtain rfl:new=[]:=by simpa using hne
   show (bif Nat.ble (0+n*esz) (n*esz) then (bif Nat.ble (0+(n+0)*esz) (n*esz) then wL id 0 n none esz true (n*esz) t [] 0 h nx K else _) else _)=_;rw [Zag (by omega),Zag (by simp),cond_true,cond_true];unfold wL;rw [jF,T.jg,yQ,Zbh];exact hK (some id) _ _ (fun _=>by simp) (H.upd hk (by simp [Ob.names]) rfl ⟨_,T.get_set_same _ _ _ _,by simp [hl],hwr⟩)
  ·have hlt:n*esz<(n+c)*esz:=by
    rw [Zam];have:1*1<=c*esz:=Zbd (by omega) he;omega
   show (bif Nat.ble (0+n*esz) (n*esz) then (bif Nat.ble (0+(n+c)*esz) (n*esz) then wL id 0 n none esz true (n*esz) t new c h nx K else (bif true&&Nat.beq (0+n*esz) (n*esz)&&Nat.beq 0 0 then mJ id n esz (n*esz) t new c h nx K else .no 33)) else _)=_;rw [Zag (by omega),bleF (by omega),aZ (Zbh _)];simp only [Zbv,Zfz,cond_true,cond_false];unfold mJ;rw [jF,yQ,T.jg,T.jg,yQ];refine hK (some nx) _ _ (fun _=>by simp) (Hp.back hk (Hp.new (b:=.cells true (n*esz+c*esz) (jJ new t (n*esz))) HF.kill rfl fun h' e => ?_));exact ⟨_,by rw [e,Zam],by simp [hl,hne,Zam],hwr⟩
theorem Hp.zeb {o:Option Pa} {e:Nat} (H:Hp h0 h nx L) (hk:L[k]? = some (.gro o e n l)) (hf:∀ v∈l,fO v=true):sS h0 h (ve o e n) (.lst e n l):=by
 have own:=H.own _ (Zad hk);have hoff:=H.off;cases o with
 | none=>obtain ⟨rfl,rfl⟩:=own;exact .zfz e
 | some id =>
  obtain ⟨t,h1,h2,h3⟩:=own;refine .sl _ _ _ _ _ true _ t _ (hoff id (List.mem_flatMap.2 ⟨_,Zad hk,by simp [Ob.names]⟩)) trivial h1 (by omega) h2 (List.all_eq_true.2 fun v hv=>fO.uy (hf v hv)) fun i v hi => ?_;have:=yK t 0 (n*e) i (by rw [<- h2];exact (List.getElem?_eq_some_iff.1 hi).1);rw [h3,hi] at this;rw [<- Option.some.inj this];exact yB (hf v (Zad hi))
theorem ug.rd {cap:Option Nat} {e:Nat} (H:ug h id l) (hl:l.length=n*e) (no:OP) (K':List AV->Nat->OP):xO (.sl id 0 n cap e) h no K'=K' l n:=by
 obtain ⟨op,t,h1,h2⟩:=H;show ku (T.get .no id h) (fun _ m t=>bif Nat.ble (0+n*e) m then K' (yL t 0 (n*e)) n else no) no=_;rw [h1];show (bif Nat.ble (0+n*e) l.length then K' (yL t 0 (n*e)) n else no)=_;rw [Zag (by omega),cond_true,<- hl,h2]
def LI (v:AV) (l:List Int):Prop:=(v=.zn/\l=[])\/v=encI l
theorem LI.rd {l:List Int} (H:LI v l) (h:T Blk) (no:OP) (K':List AV->Nat->OP):xO v h no K'=K' (l.map I) l.length:=by
 rcases H with ⟨rfl,rfl⟩ | rfl <;> rfl
theorem Hp.zzn (H:Hp h0 h nx L) (hm : .arr id l∈L):T.get .no id h0=.no:=H.off id (List.mem_flatMap.2 ⟨_,hm,by simp [Ob.names]⟩)
theorem Hp.copy {z:AV} {new:List AV} {w:AV} {bytes:Nat} (H:Hp h0 h nx L) (hr:∀ h1,kJ h0 h1->∀ (no:OP) (K':List AV->Nat->OP),xO w h1 no K'=K' new c) (hl:new.length=c) (hf:∀ v∈new,fO v=true) (hb:bytes*1000000<=70368744177664) (hc:c<=1000000)
  (hK:∀ (v:AV) (X:Ob) (h':T Blk) (nx':Pa),Hp h0 h' nx' (X::L)->v.cells=some [v]->uy v=true->(∀ h0' h'' nx'' L'',Hp h0' h'' nx'' L''->X∈L''->sS h0' h'' v (.lst 1 c new))->K v h' nx'=.ok True) :
  (jH 1 0 [z] [] h nx fun v1 h1 n1=>eY 1 bytes v1 w h1 n1 K)=.ok True:=by
 refine H.wz (l:=[]) rfl fun e h1 n1 H1 => ?_;have hs:new.all uy=true:=List.all_eq_true.2 fun v hv=>fO.uy (hf v hv);unfold eY appA;rw [hr _ H1.keep];have hcc:(Nat.ble (bytes*1000000) 70368744177664&&Nat.beq new.length (c*1)&&Nat.ble 1 1&&new.all uy)=true:=by
  simp only [Zah,hs,and_true];exact ⟨⟨Zag hb,by rw [hl,Zca];exact Zbv _⟩,rfl⟩
 rw [hcc,cond_true];obtain ⟨op,t,g1,g2⟩:ug h1 e []:=H1.own _ (Zal ..);show (bif Nat.beq 1 1&&Nat.ble (0+c) 1000000 then ku (T.get .no e h1) _ (.no 35) else .no 36)=_;rw [g1,Zag (by omega)];show (bif Nat.ble (0+c) 0 then (bif Nat.ble (0+(0+c)*1) 0 then wL e 0 0 (some 0) 1 op 0 t new c h1 n1 _ else .no 32) else xV 0 0 1 t new c h1 n1 _)=_;by_cases hc0:c=0
 ·subst hc0;obtain rfl:new=[]:=Zbu hl;rw [show Nat.ble (0+0) 0=true from rfl,cond_true,cond_true];unfold wL;rw [jF,T.jg,yQ];refine hK (.sl e 0 0 (some 0) 1) (.arr e []) _ _ (H1.upd (k:=0) (x':=.arr e []) rfl (by simp [Ob.names]) rfl ⟨op,_,T.get_set_same _ _ _ _,rfl⟩) rfl rfl fun h0' h'' nx'' L'' H'' hm => ?_;exact ug.frz (H''.own _ hm) (H''.zzn hm) (Zaf _) rfl (by simp)
 ·rw [bleF (by omega),cond_false];unfold xV;rw [yP,yQ]
  have H2:Hp h0 (T.set .no (.cells true new.length (jJ new .e 0)) n1 h1) n1.succ (.gro (some n1) 1 c new::L) :=
   Hp.new (x:=.gro (some n1) 1 c new) H1.drop rfl fun h' q=>⟨_,by rw [q,hl,Zca],by rw [hl,Zca],by have:=xK new;rw [hl] at this;rw [Zca];exact this⟩
  rw [Zbh];refine hK (.sl n1 0 c none 1) _ _ _ H2 rfl rfl fun h0' h'' nx'' L'' H'' hm => ?_;obtain ⟨q,hq⟩:=List.mem_iff_getElem?.1 hm;exact H''.zeb (o:=some n1) hq hf
theorem zbp {P:Program} {B f:Nat} {p:Pa} {cap args:List AV}:dN (CS P B) (.fn f p cap) args h nx K=(CS P B).fn f p (args++cap) h nx K:=nr rfl
theorem d8 (o:Option Pa) (e n:Nat):(ve o e n).cells=some [ve o e n]:=by cases o <;> rfl
end Go.Ev
namespace Go.Ev
open Go
variable {h0 h:T Blk} {nx:Pa} {L:List Ob}
theorem zbq {i n d:Nat} (h:i<=n):bnd (some (I (i:Int))) n d=some i:=by
 show (bif Nat.ble i n then some i else none)=_;rw [Zag h];rfl
end Go.Ev
namespace Go.Ev
open Go
theorem p9 {β:Type}:∀ l:List RO,evD (β:=β) (l.map fun o=>(o,0,[])) []=zN l
 | []=>rfl
 | .s op::l=>by
  have ih:=p9 (β:=β) l;show (fun C tm h nx K=>op.ev tm h fun v=>evD (l.map fun o=>(o,0,[])) [] C ⟨tm.v,v::tm.s⟩ h nx K)=_;rw [ih];rfl
 | .q d op::l=>by
  have ih:=p9 (β:=β) l;show (fun C tm h nx K=>op.ev tm h fun v=>zjr d v tm fun tm'=>evD (l.map fun o=>(o,0,[])) [] C tm' h nx K)=_;rw [ih];rfl
 | .p d g op::l=>by
  have ih:=p9 (β:=β) l;show (fun C tm h nx K=>gP g tm (op.ev tm h) fun v=>rE d v tm fun tm'=>evD (l.map fun o=>(o,0,[])) [] C tm' h nx K)=_;rw [ih];rfl
 | .w d g op::l=>by
  have ih:=p9 (β:=β) l;show (fun C tm h nx K=>gW g tm (fun k=>op.ev C tm h nx fun v h' nx'=>k v h' nx') h nx fun v h' nx'=>rE d v tm fun tm'=>evD (l.map fun o=>(o,0,[])) [] C tm' h' nx' K)=_;rw [ih];rfl
theorem dY {β:Type} {C:Calls β} {N:Nat} {O:dw β} {K:Ks β} (l:List RO) (tm:T AV) (h:T Blk) (nx:Pa):IR.run (.fP [] (l.map fun o=>(o,0,[]))) C N O K tm h nx=zN l C ⟨tm,[]⟩ h nx (fun tm h nx=>K tm.v h nx):=by
 have e:IR.run (.fP [] (l.map fun o=>(o,0,[]))) C N O K tm h nx=evD (l.map fun o=>(o,0,[])) [] C ⟨tm,[]⟩ h nx (fun tm h nx=>K tm.v h nx):=rfl;rw [e,p9]
end Go.Ev
namespace Go.Ev
open Go
variable {h0 h h':T Blk} {nx:Pa} {L L':List Ob} {K:KW3} {k i n c:Nat} {id:Pa} {l:List AV} {v:AV} {P:Program} {B:Nat}
abbrev Key:=List Nat
abbrev u8 (v:Nat):AV:=.int .u8 (v:Int)
structure KsOk (m:Nat) (ks G:List Key):Prop where
 nd:ks.Nodup
 mem:∀ y,y∈ks↔y∈G
 len:∀ y∈G,y.length=m
theorem KsOk.nil (m:Nat):KsOk m [] []:=⟨by simp,by simp,by simp⟩
theorem KsOk.perm {m:Nat} {ks G G':List Key} (H:KsOk m ks G) (hp:G.Perm G'):KsOk m ks G':=⟨H.nd,fun y=>(H.mem y).trans hp.mem_iff,fun y hy=>H.len y (hp.mem_iff.2 hy)⟩
theorem zcy {n i:Nat} {seen:List Nat}:i∈vA n seen↔i<n/\i∉seen:=by
 simp [vA]
theorem Hp.range {es:List (AV×AV)} (H:Hp h0 h nx L) (hk:L[k]? = some (.map id es)) (hK:∀ it h' nx',Hp h0 h' nx' (.iter it id es.length [] es.length::L)->K (.ptr it 0) h' nx'=.ok True):zpo (.map id) h nx K=.ok True:=by
 have own:T.get .no id h=.map _ _:=H.own _ (Zad hk);show fQ (T.get .no id h) _ _=_;rw [own];show T.dh Blk.no (.iter id es.length [] es.length) nx h (fun h'=>K (.ptr nx 0) h' nx.succ)=_;rw [T.jg];exact hK _ _ _ (H.new rfl fun h' e=>e)
theorem Hp.next {es:List (AV×AV)} {it:Pa} {j:Nat} {seen:List Nat} (H:Hp h0 h nx L) (hk:L[k]? = some (.iter it id es.length seen c)) (hm:L[j]? = some (.map id es))
  (hK0:(∀ i,i<es.length->i∈seen)->K (.tup [.bool false]) h nx=.ok True)
  (hK1:∀ (i:Nat) a b h',i<es.length->i∉seen->es[i]? = some (a,b)->Hp h0 h' nx (L.set k (.iter it id es.length (i::seen) es.length))->K (.tup [.bool true,a,b]) h' nx=.ok True):zw3 (CS P B) (.ptr it 0) h nx K=.ok True:=by
 have own:T.get .no it h=.iter _ _ _ _:=H.own _ (Zad hk);have own2:T.get .no id h=.map _ _:=H.own _ (Zad hm);show aB (T.get .no it h) _ _=_;rw [own];show fQ (T.get .no id h) _ _=_;rw [own2]
 show (bif Nat.beq es.length es.length then (match vA es.length seen with
  | []=>K (.tup [.bool false]) h nx
  | i::is=>(CS P B).pk (i::is) fun i=>match es[i]? with
   | some (a,b)=>T.dh Blk.no (.iter id es.length (i::seen) es.length) it h fun h'=>K (.tup [.bool true,a,b]) h' nx
   | none=>.no 56) else .no 56)=_
 rw [Zbv,cond_true];cases hl:vA es.length seen with
 | nil =>
  refine hK0 fun i hi=>Classical.byContradiction fun hn => ?_;have:=zcy.2 ⟨hi,hn⟩;rw [hl] at this;cases this
 | cons i is =>
  refine zxc.2 ⟨fun q hq => ?_,rfl⟩;rw [<- hl] at hq;obtain ⟨h1,h2⟩:=zcy.1 hq;have e:es[q]? = some (es[q].1,es[q].2):=List.getElem?_eq_getElem h1;rw [e];simp only [T.jg];exact hK1 q _ _ _ h1 h2 e (H.upd hk (by simp [Ob.names]) rfl (T.get_set_same _ _ _ _))
theorem Hp.entry {es:List (AV×AV)} {it:Pa} {j i:Nat} {seen:List Nat} {a b:AV} {op:AV->OP} (H:Hp h0 h nx L) (hk:L[k]? = some (.iter it id es.length (i::seen) es.length)) (hm:L[j]? = some (.map id es)) (he:es[i]? = some (a,b)):zpi (.ptr it 0) h op=op (.tup [a,b]):=by
 have own:T.get .no it h=.iter _ _ _ _:=H.own _ (Zad hk);have own2:T.get .no id h=.map _ _:=H.own _ (Zad hm);show aB (T.get .no it h) _ _=_;rw [own];show fQ (T.get .no id h) _ _=_;rw [own2];show (bif Nat.beq es.length es.length then (match es[i]? with | some (a,b)=>op (.tup [a,b]) | none=>.no 54) else .no 54)=_;rw [Zbv,cond_true,he]
theorem Hp.zan (H:Hp h0 h nx L) (hK:∀ id h' nx',Hp h0 h' nx' (.map id []::L)->K (.map id) h' nx'=.ok True):zqj h nx K=.ok True:=by
 unfold zqj;rw [T.jg];exact hK _ _ _ (H.new rfl fun h' e=>e)
theorem Hp.zx {op:AV->OP} (H:Hp h0 h nx L) (hk:L[k]? = some (.arr id l)) (hl:l.length=n):zD n (.ptr id 0) h op=op (.agg l):=by
 obtain ⟨o,t,h1,h2⟩:=H.own _ (Zad hk);show ku (T.get .no id h) _ _=_;rw [h1];show (bif Nat.ble (0+n) l.length then op (.agg (yL t 0 n)) else .no 8)=_;rw [Zag (by omega),cond_true,<- hl,h2]
theorem Hp.jb {l2:List AV} (H:Hp h0 h nx L) (hk:L[k]? = some (.arr id l)) (hl:l.length=n) (hl2:l2.length=n) (hK:∀ h',Hp h0 h' nx (L.set k (.arr id l2))->K .u h' nx=.ok True):zO n (.ptr id 0) (.agg l2) h nx K=.ok True:=by
 obtain ⟨o,t,h1,h2⟩:=H.own _ (Zad hk);show ku (T.get .no id h) _ _=_;rw [h1];show (bif Nat.beq l2.length n&&Nat.ble (0+n) l.length then gZ l2 t 0 (fun t'=>T.dh Blk.no (.cells o l.length t') id h fun h'=>K .u h' nx) else .no 42)=_;rw [aZ hl2,Zag (by omega)];simp only [Zfz,cond_true];rw [jF,T.jg];refine hK _ (H.upd hk (by simp [Ob.names]) rfl ⟨o,_,by rw [T.get_set_same,hl,hl2],?_⟩);apply Zck;intro i;by_cases hi:i<l2.length
 ·rw [yK _ _ _ _ hi,Zbh,uK,if_pos (by omega)];simp [Zaa,hi]
 ·rw [List.getElem?_eq_none (by simp;omega),List.getElem?_eq_none (by omega)]
theorem sFx {o p:Nat} {op:AV->OP}:zJ p (.ptr id o) op=op (.ptr id (o+p)):=by
 show xw (o+p) (fun o=>op (.ptr id o))=_;rw [yQ]
theorem Hp.zcz {o:Option Pa} {j:Nat} (H:Hp h0 h nx L) (hk:L[k]? = some (.gro o 1 n l)) (hj:l[j]? = some v):∃ id,(∀ (kk:IntKind) (op:AV->OP),zM 1 (ve o 1 n) (.int kk (j:Int)) op=op (.ptr id j))/\∀ op:AV->OP,zH (.ptr id j) h op=op v:=by
 have own:=H.own _ (Zad hk);have hjl:=(List.getElem?_eq_some_iff.1 hj).1;cases o with
 | none=>obtain ⟨rfl,_⟩:=own;simp at hj
 | some id =>
  obtain ⟨t,h1,h2,h3⟩:=own;refine ⟨id,fun kk op=>by rw [ve,wU (by omega)];simp,fun op => ?_⟩;rw [zcv h1 (by omega)];have:=yK t 0 (n*1) j (by omega);rw [h3,hj,Zbh] at this;rw [Option.some.inj this]
theorem Hp.zbr {o:Option Pa} {e:Nat} {op:AV->OP} (H:Hp h0 h nx L) (hk:L[k]? = some (.gro o e n l)):sLen (ve o e n) op=op (I n):=by
 cases o with
 | none=>obtain ⟨_,rfl⟩:=H.own _ (Zad hk);rfl
 | some id=>rfl
end Go.Ev
namespace Go.Ev
open Go
variable {h0 h:T Blk} {nx:Pa} {L:List Ob}
theorem Hp.rend {id:Pa} {K:Kw Prop} {st:LSt} {j0 j:o8} {tm tm':T AV} {ps:List Pa} {a b:IR} {v:Bool} {k:Nat} (H:Hp h0 h nx L) (hk:L[k]? = some (.raw id (.loop st j0 tm ps a b)))
  (hK:∀ h',Hp h0 h' nx (L.set k (.raw id (.loop (bif v then .ready else .done) j tm ps a b)))->K (.bool v) h' nx=.ok True):uM id K j v tm' h nx=.ok True:=by
 unfold uM;have h1:T.get .no id h=.loop st j0 tm ps a b:=(H.own _ (Zad hk)).1;rw [h1];show T.dh _ _ _ _ _=_;rw [T.jg];exact hK _ (H.upd hk (by simp [Ob.names]) rfl ⟨T.get_set_same _ _ _ _,by intro e;cases e⟩)
theorem Hp.zut {id:Pa} {b:Blk} (H:Hp h0 h nx (.raw id b::L)):Hp h0 (T.set .no .no id h) nx L:=by
 have hid:T.get .no id h0=.no:=H.off id (by simp [Ob.names]);have H3:=H.drop;have nd:=H.nd;simp only [Zcd,Ob.names] at nd;have hni:id∉L.flatMap Ob.names:=fun hi=>(List.nodup_append.1 nd).2.2 id (by simp) id hi rfl;have other:∀ j,j≠id->T.get .no j (T.set .no .no id h)=T.get .no j h:=fun j hj=>T.yh _ _ _ _ _ hj;refine ⟨fun j hj => ?_,fun y hy => ?_,H3.off,H3.nd,fun j hj => ?_⟩
 ·rw [other j (by rintro rfl;exact hj hid)];exact H.keep j hj
 ·exact (H3.own y hy).congr fun m hm=>other m (by rintro rfl;exact hni (List.mem_flatMap.2 ⟨y,hy,hm⟩))
 ·by_cases e:j=id
  ·subst e;exact T.get_set_same _ _ _ _
  ·rw [other j e];exact H.fr j hj
theorem Hp.rf {N:Nat} {C:Calls Prop} {O:dw Prop} {K:Ks Prop} {tm:T AV} {f:Arg} {ps:List Pa} {a b:IR} {g:Nat} {p:Pa} {cap:List AV} (H:Hp h0 h nx L) (hf:f.ev ⟨tm,[]⟩=.fn g p cap)
  (hK:∀ id h' nx',Hp h0 h' nx' (.raw id (.loop .ready .none tm ps a b)::L)->C.fn g p (.yld id::cap) h' nx' (fun _ h nx'=>pG (T.get .no id h) (fun st j _ _ _ _=>T.dh .no .no id h fun h=>zat O K st j tm h nx') (.no 63))=.ok True) :
  IR.run (.rf f ps a b) C N O K tm h nx=.ok True:=by
 show T.dh .no (.loop .ready .none tm ps a b) nx h (fun h'=>asFn (f.ev ⟨tm,[]⟩) _ _ _)=_;rw [T.jg,hf];exact hK nx _ _ (Hp.new H rfl fun h' e=>⟨e,by intro q;cases q⟩)
theorem Hp.zat {O:dw Prop} {K:Ks Prop} {tm tm':T AV} {id:Pa} {st:LSt} {j:o8} {ps:List Pa} {a b:IR} (H:Hp h0 h nx (.raw id (.loop st j tm' ps a b)::L)) (hK:∀ h',Hp h0 h' nx L->Ev.zat O K st j tm h' nx=.ok True) :
  pG (T.get .no id h) (fun st j _ _ _ _=>T.dh .no .no id h fun h=>Ev.zat O K st j tm h nx) (.no 63)=.ok True:=by
 have h1:T.get .no id h=.loop st j tm' ps a b:=(H.own _ (Zal ..)).1;rw [h1];show T.dh _ _ _ _ _=_;rw [T.jg];exact hK _ H.zut
theorem zqv {O:dw Prop} {K:Ks Prop} {tm:T AV}:Ev.zat O K .ready .none tm h nx=K tm h nx:=rfl
end Go.Ev
namespace Go.Ev
open Go
variable {P:Program} {B:Nat}
def endG:Kw AV:=fun v h _=>match fzB 20 .e h v with
 | some v'=>.ok v'
 | none=>.no 1
theorem zhy {C:Calls AV} (hC:∀ B,COk P B C) {f:Nat} {args:List AV} {r:AV} (ha:nns args=true) (hk:C.fn f (.of f) args .e .z endG=.ok r) :
  Pure P B f args (· = r):=by
 intro p h nx K hK;rw [rF];refine ⟨fun E w vs H hv => ?_,rfl⟩
 have Hc:HR P w.heap.size ⟨fun _=>none,E.fz,E.lay⟩ .e .z w:={
  blk:=fun id hid=>hid.elim (T.bg _ id)
  inj:=fun id id' b n n' h1=>(h1 (T.bg _ id)).elim
  fresh:=fun _ _=>rfl
  lt:=fun id b n hid=>by cases hid
  base:=Zaf _
  frz:=fun b i v hf=>⟨(H.frz b i v hf).1,fun id n hid=>by cases hid⟩ }
 obtain ⟨fn,h1,h2,h3,h4⟩:=(hC w.heap.size).fn Hc (VRL.nn (E:=E) (E':=⟨fun _=>none,E.fz,E.lay⟩) (fun _ _ _ q=>q) _ ha hv) hk;refine ⟨fn,h1,h2,h3,fun n=>(h4 n).mono fun e w' he => ?_⟩
 cases e <;> first
  | exact he.elim
  |(obtain ⟨av,h',nx',E1,k1,k2,k3,k4⟩:=he
    have hkeep:∀ b,b<w.heap.size->w'.heap[b]? = w.heap[b]? := fun b hb=>k4.keep b hb fun id n hid=>by cases hid
    have hnew:∀ b i v,E1.fz b i=some v->w.heap.size<=b\/∃ v',E.fz b i=some v':=fun b i v hf=>by
     rcases k4.fzn b i v hf with q | q | ⟨id,n,q⟩
     ·exact .inl q
     ·exact .inr q
     ·cases q
    have H':HR P B ⟨E.nm,E1.fz,E1.lay⟩ h nx w':={
     blk:=fun id hid=>by
      obtain ⟨b,n,o,q1,q2,q3⟩:=H.blk id hid;refine ⟨b,n,o,q1,by rw [hkeep b (H.lt _ _ _ q1).2];exact q2,?_⟩;exact BR.mono (E:=E) (E':=⟨E.nm,E1.fz,E1.lay⟩) ⟨fun _ _ q=>q,fun b i v q=>k4.le.fz b i v q⟩ q3
     inj:=H.inj
     fresh:=H.fresh
     lt:=fun id b n hid=>⟨(H.lt id b n hid).1,Zcx (H.lt id b n hid).2 k4.size⟩
     base:=Zbi H.base k4.size
     frz:=fun b i v hf=>by
      refine ⟨(k3.frz b i v hf).1,fun id n hid => ?_⟩;rcases hnew b i v hf with q | ⟨v',q⟩
      ·have:=(H.lt id b n hid).2;omega
      ·exact (H.frz b i v' q).2 id n hid }
    have X':Ex E ⟨E.nm,E1.fz,E1.lay⟩ w w':=⟨⟨fun _ _ q=>q,fun b i v q=>k4.le.fz b i v q⟩,k4.os,k4.tape,k4.output,k4.size,fun b hb _=>hkeep b hb,fun id b n hid=>.inr ⟨id,n,hid⟩,fun b i v hf=>(hnew b i v hf).imp_right .inl,k4.loop⟩;obtain ⟨r1,r2,r3⟩:=dO H H' X' (fun _ _=>rfl);have hz:fzB 20 .e h' av=some r:=by
     unfold endG at k1;cases hq:fzB 20 .e h' av with
     | none=>simp [hq] at k1
     | some v'=>simp [hq] at k1;rw [k1]
    refine ⟨r,h,nx,_,hK r rfl H.fr,dE k3 (fun _=>r3) (fun id b n _ _ hE=>⟨fun ho => ?_,.inl ?_⟩) (fun v vv ho => ?_) (m0 20 hz) k2,r1,r2⟩
    ·obtain ⟨id0,n0,q1,_⟩:=ho;have hb:=(H.lt _ _ _ q1).2;rcases k4.new id b n hE with hge | ⟨_,_,q⟩
     ·omega
     ·cases q
    ·rcases k4.new id b n hE with hge | ⟨_,_,q⟩
     ·exact hge
     ·cases q
    ·rcases ho with ⟨id,off,_,hid⟩ | ⟨id,_,hid⟩ | ⟨id,_,hid⟩ | ⟨id,off,ln,cap,esz,_,hid⟩ <;> exact (hid (T.bg _ id)).elim)
theorem zec {S:Nat->Bool} {J:Nat->List AV->T Blk->Option (AV×T Blk)} {fns:T (Option Fn)} (hT:za4 P fns) (hm:P.follows .mixedOrders=true) (hJ:∀ B,JOk P B J) {fuel n f:Nat} {args:List AV} {r:AV} (ha:nns args=true) (hk:(qZ S J fns fuel n).fn f (.of f) args .e .z endG=.ok r) :
  Pure P B f args (· = r):=zhy (fun B=>m8 hT (mB hm) (hJ B) fuel n) ha hk
end Go.Ev
namespace Go.Ev
open Go
variable {P:Program}
def zxh (P:Program) (f:Nat) (args:List AV) (r:AV):Prop :=
 ∀ (B:Nat) (K:Kw Prop),(∀ v h' nx',Frz False (fun _=>True) (fun _=>False) h' v r->K v h' nx'=.ok True)->(CS P B).fn f (.of f) args .e .z K=.ok True
theorem zhz {B:Nat} {E:Env} {f:Nat} {args args':List AV} {h:T Blk} {nx:Pa} {w:World} {vs:Array Value} {r:AV} (H:HR P B E h nx w) (hv:VRL E args vs.toList) (hF:FrzL .e h args args') (hn:nns args'=true) (hq:zxh P f args' r):zqi P B E nx w f vs r h:=by
 classical
 have hke:kJ .e h:=fun id hid=>(hid (T.bg _ id)).elim;have H0:=H.zj2 hke;obtain ⟨r1,r2,r3⟩:=dO H0 H (Ex.refl E w) hke
 have r1':HR P w.heap.size ⟨fun _=>none,(E.fix .e w E w).fz,(E.fix .e w E w).lay⟩ .e .z w:={
  blk:=fun id hid=>hid.elim (T.bg _ id)
  inj:=fun id id' b n n' h1=>(h1 (T.bg _ id)).elim
  fresh:=fun _ _=>rfl
  lt:=fun id b n hid=>by cases hid
  base:=Zaf _
  frz:=fun b i v hf=>⟨(r1.frz b i v hf).1,fun id n hid=>by cases hid⟩ }
 have hv':=VRL.nn (E:=E.fix .e w E w) (E':=⟨fun _=>none,(E.fix .e w E w).fz,(E.fix .e w E w).lay⟩) (fun _ _ _ q=>q) _ hn (pY H0 H (Ex.refl E w) hke hF hv);have hc:=hq w.heap.size (fun v h' _=>if Frz False (fun _=>True) (fun _=>False) h' v r then .ok True else .no 0) (fun v h' _ hv=>if_pos hv);rw [rF] at hc;obtain ⟨fn,h1,h2,h3,h4⟩:=hc.1 _ w vs r1' hv';refine ⟨fn,h1,h2,h3,fun n=>(h4 n).mono fun e w' he => ?_⟩
 cases e <;> first
  | exact he.elim
  |(obtain ⟨av,h',nx',E1,k1,k2,k3,k4⟩:=he
    have hQ:Frz False (fun _=>True) (fun _=>False) h' av r:=by
     by_cases hq:Frz False (fun _=>True) (fun _=>False) h' av r
     ·exact hq
     ·have k1':(if Frz False (fun _=>True) (fun _=>False) h' av r then (Out.ok True:Out Prop) else .no 0)=.ok True:=k1;rw [if_neg hq] at k1';cases k1'
    have hkeep:∀ b,b<w.heap.size->w'.heap[b]? = w.heap[b]? := fun b hb=>k4.keep b hb fun id n hid=>by cases hid
    have H':HR P B E h nx w':={
     blk:=fun id hid=>by
      obtain ⟨b,n,o,q1,q2,q3⟩:=H.blk id hid;exact ⟨b,n,o,q1,by rw [hkeep b (H.lt _ _ _ q1).2];exact q2,q3⟩
     inj:=H.inj
     fresh:=H.fresh
     lt:=fun id b n hid=>⟨(H.lt id b n hid).1,Zcx (H.lt id b n hid).2 k4.size⟩
     base:=Zbi H.base k4.size
     frz:=fun b i v hf=>by
      obtain ⟨⟨c,ty,fr,q1,q2⟩,q3⟩:=H.frz b i v hf;exact ⟨⟨c,ty,fr,by rw [hkeep b (Array.getElem?_eq_some_iff.1 q1).1];exact q1,q2⟩,q3⟩ }
    have X':Ex E E w w':=⟨.refl _,k4.os,k4.tape,k4.output,k4.size,fun b hb _=>hkeep b hb,fun id b n hid=>.inr ⟨id,n,hid⟩,fun _ _ v h=>.inr (.inl ⟨v,h⟩),k4.loop⟩;obtain ⟨s1,s2,_⟩:=dO H H' X' (fun _ _=>rfl);refine ⟨_,_,rfl,dE (A:=False) (N:=fun _=>True) (O:=fun _=>False) k3 (fun q=>q.elim) (fun id b n _ _ hE=>⟨fun ho => ?_,.inl ?_⟩) (fun _ _ q=>q.elim) hQ k2,s1,s2⟩
    ·obtain ⟨id0,n0,q1,_⟩:=ho;have hb:=(H.lt _ _ _ q1).2;rcases k4.new id b n hE with hge | ⟨_,_,q⟩
     ·omega
     ·cases q
    ·rcases k4.new id b n hE with hge | ⟨_,_,q⟩
     ·exact hge
     ·cases q)
inductive MK where
 | lett | plain | neww
def MKok (P:Program) (f:Nat) (e:List AV×AV×MK):Prop:=nns e.1=true/\match e.2.2 with
 | .lett=>∀ B,Pure P B f e.1 (· = e.2.1)
 | .plain=>(∀ B,Pure P B f e.1 (· = e.2.1))/\Plain e.2.1
 | .neww=>zxh P f e.1 e.2.1
def zj6 (tab:Nat->List (List AV×AV×MK)) (J:Nat->List AV->T Blk->Option (AV×T Blk)) (f:Nat) (args:List AV) (h:T Blk):Option (AV×T Blk):=match tab f with
 | []=>J f args h
 | e0::es=>match args.mapM (fzB 20 .e h) with
  | some a=>match (e0::es).find? (fun e=>wH e.1 a) with
   | some e=>(match e.2.2 with
    | .lett=>some (e.2.1,.e)
    | _=>some (e.2.1,h))
   | none=>J f args h
  | none=>J f args h
theorem zf8 {tab:Nat->List (List AV×AV×MK)} {J:Nat->List AV->T Blk->Option (AV×T Blk)} {B:Nat} (hm:∀ f,∀ e∈tab f,MKok P f e) (hJ:JOk P B J):JOk P B (zj6 tab J):=by
 intro E h nx w f args vs v h2 H hv hj;unfold zj6 at hj;split at hj
 ·exact hJ H hv hj
 rename_i e0 es he0;split at hj
 case h_2=>exact hJ H hv hj
 rename_i a ha;split at hj
 case h_2=>exact hJ H hv hj
 rename_i e he;have hq:=List.find?_some he;have hin:=List.mem_of_find?_eq_some he;have ea:e.1=a:=kG hq;obtain ⟨hnn,hk⟩:=hm f e (by rw [he0];exact hin);have hF:=zf1 ha;rw [<- ea] at hF;have hke:kJ .e h:=fun id hid=>(hid (T.bg _ id)).elim;obtain ⟨a1,r,m⟩:=e;cases m with
 | lett =>
  cases hj
  exact zur H hv hke hF (hk B)
 | plain =>
  cases hj
  exact zlo H hv hF hnn hk.1 hk.2
 | neww =>
  cases hj
  exact zhz H hv hF hnn hk
end Go.Ev
