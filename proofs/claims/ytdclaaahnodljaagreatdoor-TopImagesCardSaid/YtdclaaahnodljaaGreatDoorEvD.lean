import Derived.Test.YtdclaaahnodljaaGreatDoorEvC
set_option linter.unusedSimpArgs false
set_option linter.unusedVariables false
noncomputable section
namespace Go.Ev
open Go
def qx (o:Option Pa) (e n:Nat):AV:=match o with
 | none=>.zf
 | some id=>.sl id 0 n none e
def cellV (o:Option Pa) (n:Nat):AV:=match o with
 | none=>.zf
 | some id=>.sl id 0 n (some n) 1
inductive Ob where
 | arr (id:Pa) (l:List AV)
 | row (o:Option Pa) (e n:Nat) (l:List AV)
 | tab (id:Pa) (rs:List (Option Pa)) (ll:List (List AV))
 | gro (o:Option Pa) (e n:Nat) (l:List AV)
 | map (id:Pa) (l:List (AV×AV))
 | iter (id mid:Pa) (n:Nat) (seen:List Nat) (c:Nat)
 | raw (id:Pa) (b:Blk)
def Ob.names:Ob->List Pa
 | .arr id _=>[id]
 | .row o _ _ _=>o.toList
 | .tab id rs _=>id::rs.filterMap (fun o=>o)
 | .gro o _ _ _=>o.toList
 | .map id _=>[id]
 | .iter id _ _ _ _=>[id]
 | .raw id _=>[id]
def yx (h:T Blk) (id:Pa) (l:List AV):Prop:=∃ op t,T.get .no id h=.cells op l.length t/\yD t 0 l.length=l
def kP (rs:List (Option Pa)) (ll:List (List AV)):List AV:=List.zipWith (fun o l=>cellV o (List.length l)) rs ll
def Ob.holds (h:T Blk):Ob->Prop
 | .arr id l=>yx h id l
 | .row o e n l=>match o with
  | none=>l=[]/\n=0
  | some id=>∃ m t,T.get .no id h=.cells true m t/\l.length=n*e/\n*e<=m/\e∣m/\yD t 0 (n*e)=l
 | .tab id rs ll=>yx h id (kP rs ll)/\rs.length=ll.length/\(∀ (i:Nat) (r:Pa),rs[i]? = some (some r)->∃ l,ll[i]? = some l/\yx h r l)/\∀ (i:Nat) l,rs[i]? = some none->ll[i]? = some l->l=[]
 | .gro o e n l=>match o with
  | none=>l=[]/\n=0
  | some id=>∃ t,T.get .no id h=.cells true (n*e) t/\l.length=n*e/\yD t 0 (n*e)=l
 | .map id l=>T.get .no id h=.map l.length l
 | .iter id mid n seen c=>T.get .no id h=.iter mid n seen c
 | .raw id b=>T.get .no id h=b/\b≠.no
theorem yx.congr {h h':T Blk} {id:Pa} {l:List AV} (H:yx h id l) (e:T.get .no id h'=T.get .no id h):yx h' id l:=by
 obtain ⟨op,t,h1,h2⟩:=H;exact ⟨op,t,by rw [e];exact h1,h2⟩
theorem Ob.holds.congr {h h':T Blk}:∀ {x:Ob},x.holds h->(∀ n∈x.names,T.get .no n h'=T.get .no n h)->x.holds h'
 | .arr id l,H,e=>yx.congr H (e id (by simp [Ob.names]))
 | .row none _ _ l,H,_=>H
 | .row (some id) _ _ l,H,e=>by
  obtain ⟨m,t,h1,h2⟩:=H;exact ⟨m,t,by rw [e id (by simp [Ob.names])];exact h1,h2⟩
 | .tab id rs ll,H,e=>by
  obtain ⟨h1,h2,h3,h4⟩:=H;refine ⟨h1.congr (e id (by simp [Ob.names])),h2,fun i r hr => ?_,h4⟩;obtain ⟨l,q1,q2⟩:=h3 i r hr;exact ⟨l,q1,q2.congr (e r (by simp [Ob.names];exact .inr (Zab hr)))⟩
 | .gro none _ _ l,H,_=>H
 | .gro (some id) _ _ l,H,e=>by
  obtain ⟨t,h1,h2⟩:=H;exact ⟨t,by rw [e id (by simp [Ob.names])];exact h1,h2⟩
 | .map id l,H,e=>(e id (by simp [Ob.names])).trans H
 | .iter id _ _ _ _,H,e=>(e id (by simp [Ob.names])).trans H
 | .raw id _,H,e=>⟨(e id (by simp [Ob.names])).trans H.1,H.2⟩
theorem Ob.holds.live {h:T Blk}:∀ {x:Ob},x.holds h->∀ n∈x.names,T.get .no n h≠.no
 | .arr id l,⟨op,t,h1,_⟩,n,hn=>by
  simp [Ob.names] at hn;subst hn;rw [h1];intro e;cases e
 | .row none _ _ l,H,n,hn=>by simp [Ob.names] at hn
 | .row (some id) _ _ l,⟨m,t,h1,h2⟩,n,hn=>by
  simp [Ob.names] at hn;subst hn;rw [h1];intro e;cases e
 | .tab id rs ll,⟨⟨op,t,h1,_⟩,h2,h3,h4⟩,n,hn=>by
  simp [Ob.names] at hn;rcases hn with rfl | hn
  ·rw [h1];intro e;cases e
  ·obtain ⟨i,hi⟩:=List.mem_iff_getElem?.1 hn;obtain ⟨l,_,op,t,q,_⟩:=h3 i n hi;rw [q];intro e;cases e
 | .gro none _ _ l,H,n,hn=>by simp [Ob.names] at hn
 | .gro (some id) _ _ l,⟨t,h1,h2⟩,n,hn=>by
  simp [Ob.names] at hn;subst hn;rw [h1];intro e;cases e
 | .map id l,H,n,hn=>by
  simp [Ob.names] at hn;subst hn;have H:T.get .no n h=.map l.length l:=H;rw [H];intro e;cases e
 | .iter id mid k seen c,H,n,hn=>by
  simp [Ob.names] at hn;subst hn;have H:T.get .no n h=.iter mid k seen c:=H;rw [H];intro e;cases e
 | .raw id b,⟨h1,h2⟩,n,hn=>by
  simp [Ob.names] at hn;subst hn;rw [h1];exact h2
structure Hp (h0 h:T Blk) (nx:Pa) (L:List Ob):Prop where
 keep:qA h0 h
 own:∀ x∈L,x.holds h
 off:∀ n∈L.flatMap Ob.names,T.get .no n h0=.no
 nd:(L.flatMap Ob.names).Nodup
 fr:Fr h nx
variable {h0 h h':T Blk} {nx:Pa} {L L':List Ob} {K:KW3} {k i n c:Nat} {id:Pa} {l:List AV} {v:AV}
theorem Hp.init (hf:Fr h nx):Hp h h nx []:=⟨fun _ _=>rfl,by simp,by simp,by simp,hf⟩
theorem Hp.cast (H:Hp h0 h nx L) (e:L=L'):Hp h0 h nx L':=e ▸ H
theorem Hp.drop {x:Ob} (H:Hp h0 h nx (x::L)):Hp h0 h nx L:=⟨H.keep,fun y hy=>H.own y (Zap _ hy),fun n hn=>H.off n (by rw [Zbi];exact List.mem_append_right _ hn),
 by have:=H.nd;rw [Zbi] at this;exact (List.nodup_append.1 this).2.1,H.fr⟩
theorem Hp.perm (H:Hp h0 h nx L) (hp:L.Perm L'):Hp h0 h nx L':=⟨H.keep,fun x hx=>H.own x (hp.mem_iff.2 hx),fun n hn=>H.off n ((hp.flatMap_right Ob.names).mem_iff.2 hn),(hp.flatMap_right Ob.names).nodup_iff.1 H.nd,H.fr⟩
theorem Hp.lt (H:Hp h0 h nx L) {x:Ob} (hx:x∈L) {m:Pa} (hm:m∈x.names):m≠nx:=by
 rintro rfl;exact (H.own x hx).live _ hm (H.fr _ (Zai _))
theorem Hp.zoq (H:Hp h0 h nx L):T.get .no nx h0=.no:=by
 by_cases e:T.get .no nx h0=.no
 ·exact e
 ·have:=H.keep nx e;rw [H.fr nx (Zai _)] at this;exact this.symm
theorem Hp.new (H:Hp h0 h nx L) {b:Blk} {x:Ob} (hn:x.names=[nx]) (hx:∀ h',T.get .no nx h'=b->x.holds h'):Hp h0 (T.set .no b nx h) nx.succ (x::L):=by
 have other:∀ j,j≠nx->T.get .no j (T.set .no b nx h)=T.get .no j h:=fun j hj=>T.zy _ _ _ _ _ hj;refine ⟨fun j hj => ?_,fun y hy => ?_,fun m hm => ?_,?_,fun j hj => ?_⟩
 ·rw [other j (by rintro rfl;exact hj H.zoq)];exact H.keep j hj
 ·rcases List.mem_cons.1 hy with rfl | hy
  ·exact hx _ (T.get_set_same _ _ _ _)
  ·exact (H.own y hy).congr fun m hm=>other m (H.lt hy hm)
 ·rw [Zbi,hn] at hm;rcases List.mem_append.1 hm with hm | hm
  ·rw [List.mem_singleton.1 hm];exact H.zoq
  ·exact H.off m hm
 ·rw [Zbi,hn];refine List.nodup_append.2 ⟨by simp,H.nd,?_⟩;rintro a ha b hb rfl;rw [List.mem_singleton.1 ha] at hb;obtain ⟨y,hy,hb⟩:=List.mem_flatMap.1 hb;exact H.lt hy hb rfl
 ·rw [Pa.aU] at hj;rw [other j (by rintro rfl;omega)];exact H.fr j (by omega)
theorem Hp.upd (H:Hp h0 h nx L) {b:Blk} {x x':Ob} (hk:L[k]? = some x) (hm:id∈x.names) (hn:x'.names=x.names) (hx:x'.holds (T.set .no b id h)):Hp h0 (T.set .no b id h) nx (L.set k x'):=by
 have hkl:=(List.getElem?_eq_some_iff.1 hk).1;have hxm:=Zab hk;have other:∀ j,j≠id->T.get .no j (T.set .no b id h)=T.get .no j h:=fun j hj=>T.zy _ _ _ _ _ hj;have hid:T.get .no id h0=.no:=H.off id (List.mem_flatMap.2 ⟨x,hxm,hm⟩);have hL:L=L.take k++x::L.drop (k+1):=by
  rw [List.getElem?_eq_getElem hkl] at hk;rw [<- Option.some.inj hk];simp
 have hS:L.set k x'=L.take k++x'::L.drop (k+1):=by rw [Zck,if_pos hkl]
 have hfl:(L.set k x').flatMap Ob.names=L.flatMap Ob.names:=by
  conv=>rhs;rw [hL]
  rw [hS];simp [hn]
 have hnd:=H.nd;rw [hL] at hnd;simp only [List.flatMap_append,Zbi] at hnd;have hnot:∀ y,y∈L.take k\/y∈L.drop (k+1)->id∉y.names:=by
  intro y hy hi;rcases hy with hy | hy
  ·exact (List.nodup_append.1 hnd).2.2 id (List.mem_flatMap.2 ⟨y,hy,hi⟩) id (Zce _ hm) rfl
  ·exact (List.nodup_append.1 (List.nodup_append.1 hnd).2.1).2.2 id hm id (List.mem_flatMap.2 ⟨y,hy,hi⟩) rfl
 refine ⟨fun j hj => ?_,fun y hy => ?_,?_,by rw [hfl];exact H.nd,fun j hj => ?_⟩
 ·rw [other j (by rintro rfl;exact hj hid)];exact H.keep j hj
 ·rw [hS] at hy;have step:∀ y,y∈L.take k\/y∈L.drop (k+1)->y.holds (T.set .no b id h):=fun y hy =>
   (H.own y (by rw [hL];rcases hy with hy | hy <;> simp [hy])).congr fun m hm'=>other m (by rintro rfl;exact hnot y hy hm')
  rcases List.mem_append.1 hy with hy | hy
  ·exact step y (.inl hy)
  ·rcases List.mem_cons.1 hy with rfl | hy
   ·exact hx
   ·exact step y (.inr hy)
 ·rw [hfl];exact H.off
 ·rw [other j (by rintro rfl;exact (H.own x hxm).live _ hm (H.fr _ hj))];exact H.fr j hj
theorem u6 (l:List AV):yD (yS l .e 0) 0 l.length=l:=by
 have:=uU .e [] l 0 rfl;simpa using this
theorem Hp.zek (H:Hp h0 h nx L) (op:Bool) (l:List AV):Hp h0 (T.set .no (.cells op l.length (yS l .e 0)) nx h) nx.succ (.arr nx l::L) :=
 H.new rfl fun h' e=>⟨op,_,e,u6 l⟩
theorem Hp.box (H:Hp h0 h nx L) (hv:v.cells=some l) (hK:∀ id h' nx',Hp h0 h' nx' (.arr id l::L)->K (.ptr id 0) h' nx'=.ok True):vk v h nx K=.ok True:=by
 unfold vk;rw [hv];show yW false l h nx _=_;rw [yM];exact hK _ _ _ (H.zek false l)
theorem Hp.alloc (H:Hp h0 h nx L) (hK:∀ id h' nx',Hp h0 h' nx' (.arr id l::L)->K (.ptr id 0) h' nx'=.ok True):yT l h nx K=.ok True:=by
 unfold yT;rw [yM];exact hK _ _ _ (H.zek false l)
theorem Hp.yj {esz n:Nat} {zero:List AV} {ps:List (Nat×Nat×AV)} (H:Hp h0 h nx L) (hf:gS (fK n zero) ps=some l) (hK:∀ id h' nx',Hp h0 h' nx' (.arr id l::L)->K (.sl id 0 n (some n) esz) h' nx'=.ok True):jM esz n zero ps h nx K=.ok True:=by
 unfold jM;rw [hf];show yW false l h nx _=_;rw [yM];exact hK _ _ _ (H.zek false l)
theorem zbt (n:Nat) (z:AV):fK n [z]=List.replicate n z:=by
 induction n with
 | zero=>rfl
 | succ n ih=>show [z]++fK n [z]=_;rw [ih];rfl
theorem Hp.mkN {kl kc:IntKind} {esz bytes:Nat} {zero:List AV} {x y:Int} (H:Hp h0 h nx L) (hx:x=(n:Int)) (hy:y=(c:Int)) (h1:n<=c) (h2:c<=1000000) (h3:bytes*c<=281474976710656)
  (hK:∀ id h' nx',Hp h0 h' nx' (.arr id (fK c zero)::L)->K (.sl id 0 n (some c) esz) h' nx'=.ok True):kQ esz bytes zero (.int kl x) (.int kc y) h nx K=.ok True:=by
 subst hx;subst hy;show (bif Nat.ble n c&&Nat.ble c 1000000&&Nat.ble (bytes*c) 281474976710656 then yW false (fK c zero) h nx (fun id h' nx'=>K (.sl id 0 n (some c) esz) h' nx') else Out.no 41)=_;rw [Zac h1,Zac h2,Zac h3];simp only [Bool.and_true,cond_true];rw [yM];exact hK _ _ _ (H.zek false _)
theorem Hp.mk1 {kl kc:IntKind} {bytes:Nat} {z:AV} {x y:Int} (n:Nat) (H:Hp h0 h nx L) (hx:x=(n:Int)) (hy:y=(n:Int)) (h2:n<=1000000) (h3:bytes<=281474976)
  (hK:∀ id h' nx',Hp h0 h' nx' (.arr id (List.replicate n z)::L)->K (.sl id 0 n (some n) 1) h' nx'=.ok True):kQ 1 bytes [z] (.int kl x) (.int kc y) h nx K=.ok True :=
 H.mkN hx hy (Zai _) h2 (by have:=Zbg h3 h2;omega) (by rw [zbt];exact hK)
theorem yx.load {op:AV->OP} (H:yx h id l) (hi:l[i]? = some v):zG (.ptr id i) h op=op v:=by
 obtain ⟨o,t,h1,h2⟩:=H;have hil:=(List.getElem?_eq_some_iff.1 hi).1;rw [zli h1 hil];have:=yC t 0 l.length i hil;rw [h2,hi,Zaw] at this;rw [Option.some.inj this]
theorem Hp.load {op:AV->OP} (H:Hp h0 h nx L) (hk:L[k]? = some (.arr id l)) (hi:l[i]? = some v):zG (.ptr id i) h op=op v :=
 yx.load (H.own _ (Zab hk)) hi
theorem zbu (t:T AV) (l:List AV) (i:Nat) (hi:i<l.length) (v:AV) (h:yD t 0 l.length=l):yD (T.set .u v (.of i) t) 0 l.length=l.set i v:=by
 apply Zau;intro j;by_cases hj:j<l.length
 ·rw [yC _ _ _ _ hj,Zaw,T.zbv,List.getElem?_set];by_cases e:j=i
  ·subst e;simp [hj]
  ·rw [if_neg e,if_neg (fun q=>e q.symm)];have:=yC t 0 l.length j hj;rw [h,Zaw] at this;exact this.symm
 ·rw [List.getElem?_eq_none (by simp;omega),List.getElem?_eq_none (by simp;omega)]
theorem yx.set {op:Bool} {t:T AV} (h1:T.get .no id h=.cells op l.length t) (h2:yD t 0 l.length=l) (hi:i<l.length):yx (T.set .no (.cells op l.length (T.set .u v (.of i) t)) id h) id (l.set i v) :=
 ⟨op,T.set .u v (.of i) t,by rw [T.get_set_same,List.length_set],by rw [List.length_set];exact zbu t l i hi v h2⟩
theorem Hp.store (H:Hp h0 h nx L) (hk:L[k]? = some (.arr id l)) (hi:i<l.length) (hv:v.cells=some [v]) (hK:∀ h',Hp h0 h' nx (L.set k (.arr id (l.set i v)))->K .u h' nx=.ok True):zY 1 (.ptr id i) v h nx K=.ok True:=by
 obtain ⟨o,t,h1,h2⟩:yx h id l:=H.own _ (Zab hk);rw [pP h1 hi hv];exact hK _ (H.upd hk (by simp [Ob.names]) rfl (yx.set h1 h2 hi))
theorem Hp.app {esz bytes:Nat} {o:Option Pa} {x:AV} {new:List AV} (H:Hp h0 h nx L) (hk:L[k]? = some (.row o esz n l)) (hx:∀ (no:OP) (K':List AV->Nat->OP),uP x h no K'=K' new 1) (hne:new.length=esz) (hs:new.all jc=true)
  (he:1<=esz) (hb:bytes*1000000<=70368744177664) (hlim:l.length+1<=1000000) (hK:∀ o' h' nx',Hp h0 h' nx' (L.set k (.row o' esz (n+1) (l++new)))->K (qx o' esz (n+1)) h' nx'=.ok True) :
  tu esz bytes (qx o esz n) x h nx K=.ok True:=by
 have hc:(Nat.ble (bytes*1000000) 70368744177664&&Nat.beq new.length (1*esz)&&Nat.ble 1 esz&&new.all jc)=true:=by
  simp only [Zad,hs,and_true];exact ⟨⟨Zac hb,by rw [hne,Zcf];exact Zbf _⟩,Zac he⟩
 unfold tu oN;rw [hx,hc,cond_true];have hkl:=(List.getElem?_eq_some_iff.1 hk).1;have hmem:=Zab hk;have hL:L=L.take k++.row o esz n l::L.drop (k+1):=by
  have hk:=hk;rw [List.getElem?_eq_getElem hkl] at hk;rw [<- Option.some.inj hk];simp
 have hS:∀ x',L.set k x'=L.take k++x'::L.drop (k+1):=fun x'=>by rw [Zck,if_pos hkl]
 have zjx:∀ x',(x'::(L.take k++L.drop (k+1))).Perm (L.set k x'):=fun x'=>by
  rw [hS];exact (Zby).symm
 have front:L.Perm (.row o esz n l::(L.take k++L.drop (k+1))):=by
  conv=>lhs;rw [hL]
  exact Zby
 have own:=H.own _ hmem;cases o with
 | none =>
  obtain ⟨rfl,rfl⟩:=own;show (bif Nat.beq 1 0 then K .zf h nx else bif Nat.ble 1 1000000 then yW true new h nx (fun id h' nx'=>K (.sl id 0 1 none esz) h' nx') else .no 31)=_;rw [yM];refine hK (some nx) _ _ ?_;refine Hp.perm (Hp.new ((H.perm front).drop) (x:=.row (some nx) esz 1 ([]++new)) rfl fun h' e => ?_) (zjx _);refine ⟨new.length,_,e,by simp [hne],by omega,by rw [hne];exact Nat.dvd_refl _,?_⟩;have:=u6 new;rw [hne] at this;simpa using this
 | some id =>
  obtain ⟨m,t,hb,hl,hm,hd,hrd⟩:=own;have hn:n+1<=1000000:=by
   have:n<=n*esz:=Nat.le_mul_of_pos_right _ he;omega
  by_cases hroom:(n+1)*esz<=m
  ·show (bif Nat.beq esz esz&&Nat.ble (n+1) 1000000 then jf (T.get .no id h) _ (.no 35) else .no 36)=_;rw [hb,Zbf,Zac hn];show (bif Nat.ble (0+n*esz) m then (bif Nat.ble (0+(n+1)*esz) m then qE id 0 n none esz true m t new 1 h nx K else _) else _)=_;rw [Zac (by omega),Zac (by omega)];show gT new t (0+n*esz) _=_;rw [jA,T.yt,yJ,Zaw];refine hK (some id) _ _ (H.upd hk (by simp [Ob.names]) rfl ?_);refine ⟨m,_,T.get_set_same _ _ _ _,by simp [hl,hne,Zbc],hroom,hd,?_⟩;have:=uU t l new (n*esz) hrd;rw [hne] at this;rw [Zbc,Zcf];exact this
  ·have hmn:n*esz=m:=by
    obtain ⟨q,rfl⟩:=hd;have h1:esz*n<=esz*q:=by rw [Nat.mul_comm esz n];exact hm
    have h2:¬ esz*(n+1)<=esz*q:=by rw [Nat.mul_comm esz (n+1)];exact hroom
    have h3:n<=q:=Nat.le_of_mul_le_mul_left h1 he;have h4:¬ n+1<=q:=fun h=>h2 (Nat.mul_le_mul_left _ h);rw [show q=n by omega,Nat.mul_comm]
   show (bif Nat.beq esz esz&&Nat.ble (n+1) 1000000 then jf (T.get .no id h) _ (.no 35) else .no 36)=_;rw [hb,Zbf,Zac hn];show (bif Nat.ble (0+n*esz) m then (bif Nat.ble (0+(n+1)*esz) m then qE id 0 n none esz true m t new 1 h nx K else (bif true&&Nat.beq (0+n*esz) m&&Nat.beq 0 0 then bC id n esz m t new 1 h nx K else .no 33)) else _)=_;have hnot:Nat.ble (0+(n+1)*esz) m=false:=by
    cases hq:Nat.ble (0+(n+1)*esz) m with
    | false=>rfl
    | true=>have:=yF hq;omega
   have hbq:Nat.beq (0+n*esz) m=true:=by rw [Zaw,hmn];exact Zbf _
   rw [Zac (by omega),hnot,hbq];show gT new t m _=_;rw [jA,yJ,T.yt,T.yt,yJ];refine hK (some nx) _ _ (Hp.perm (Hp.new (b:=.cells true (m+1*esz) (yS new t m)) (x:=.row (some nx) esz (n+1) (l++new)) (h:=T.set .no .no id h) ?_ rfl fun h' e => ?_) (zjx _))
   ·have H2:=H.perm front;have hid:T.get .no id h0=.no:=H2.off id (by simp [Ob.names]);have H3:=H2.drop;have nd:=H2.nd;simp only [Zbi,Ob.names,Option.toList] at nd;have hni:id∉(L.take k++L.drop (k+1)).flatMap Ob.names:=fun hi=>(List.nodup_append.1 nd).2.2 id (by simp) id hi rfl;have other:∀ j,j≠id->T.get .no j (T.set .no .no id h)=T.get .no j h:=fun j hj=>T.zy _ _ _ _ _ hj;refine ⟨fun j hj => ?_,fun y hy => ?_,H3.off,H3.nd,fun j hj => ?_⟩
    ·rw [other j (by rintro rfl;exact hj hid)];exact H.keep j hj
    ·exact (H3.own y hy).congr fun m hm=>other m (by rintro rfl;exact hni (List.mem_flatMap.2 ⟨y,hy,hm⟩))
    ·by_cases e:j=id
     ·subst e;exact T.get_set_same _ _ _ _
     ·rw [other j e];exact H.fr j hj
   ·refine ⟨m+1*esz,_,e,by simp [hl,hne,Zbc],by rw [<- hmn,Zbc];omega,?_,?_⟩
    ·rw [Zcf];exact Nat.dvd_add hd (Nat.dvd_refl _)
    ·have:=uU t l new (n*esz) hrd;rw [hne] at this;rw [Zbc,Zcf,<- hmn];exact this
theorem sIx {e':Nat} {cap:Option Nat} {kk:IntKind} {j:Int} {op:AV->OP} (hj:j=(i:Int)) (hi:i<n):zV 1 (.sl id 0 n cap e') (.int kk j) op=op (.ptr id i):=by
 subst hj;rw [qH hi];simp
theorem xu {e:Nat} {kk:IntKind} {j:Int} {op:AV->OP} (hj:j=(i:Int)) (hi:i<n):zV e (.lst e n l) (.int kk j) op=op (.fp (l.drop (i*e))):=by
 subst hj;rw [zia hi]
theorem vS {rs:List (Option Pa)} {ll:List (List AV)} (h:rs.length=ll.length):(kP rs ll).length=ll.length:=by simp [kP,h]
theorem pJ {r:Pa}:∀ (rs:List (Option Pa)) (i:Nat),rs[i]? = some none->(r::rs.filterMap (fun o=>o)).Perm ((rs.set i (some r)).filterMap (fun o=>o))
 | [],i,h=>by simp at h
 | o::rs,0,h=>by
  simp at h;subst h;simp
 | o::rs,i+1,h=>by
  have ih:=pJ (r:=r) rs i (by simpa using h);cases o with
  | none=>simpa using ih
  | some q =>
   simp only [List.set_cons_succ,List.filterMap_cons_some];exact (List.Perm.swap q r _).trans (ih.cons q)
theorem Hp.putRow {w:Nat} {r:Pa} {rs:List (Option Pa)} {ll:List (List AV)} (H:Hp h0 h nx (.arr r l::L)) (hw:l.length=w) (hk:L[k]? = some (.tab id rs ll)) (hr:rs[i]? = some none)
  (hK:∀ h',Hp h0 h' nx (L.set k (.tab id (rs.set i (some r)) (ll.set i l)))->K .u h' nx=.ok True):zY 1 (.ptr id i) (.sl r 0 w (some w) 1) h nx K=.ok True:=by
 subst hw;have hkl:=(List.getElem?_eq_some_iff.1 hk).1;have hmem:=Zab hk;have hL:L=L.take k++.tab id rs ll::L.drop (k+1):=by
  have hk:=hk;rw [List.getElem?_eq_getElem hkl] at hk;rw [<- Option.some.inj hk];simp
 have hS:∀ x',L.set k x'=L.take k++x'::L.drop (k+1):=fun x'=>by rw [Zck,if_pos hkl]
 have hi:=(List.getElem?_eq_some_iff.1 hr).1;obtain ⟨⟨op,t,h1,h1'⟩,h2,h3,h4⟩:=H.own _ (Zap _ hmem);have hlen:=vS h2;have hr0:yx h r l:=H.own _ (Zam ..);rw [pP h1 (by omega) rfl];have hnm:((Ob.arr r l::L).flatMap Ob.names).Perm ((L.set k (.tab id (rs.set i (some r)) (ll.set i l))).flatMap Ob.names):=by
  rw [hS]
  conv=>lhs;rw [hL]
  simp only [Zbi,List.flatMap_append,Ob.names];have e:=pJ (r:=r) rs i hr;have e2:([r]++(id::rs.filterMap (fun o=>o))).Perm (id::(rs.set i (some r)).filterMap (fun o=>o)):=(List.Perm.swap id r _).trans (e.cons id);refine (List.perm_append_comm_assoc _ _ _).trans (List.Perm.append_left _ ?_);rw [<- Zcg];exact e2.append_right _
 have nd:=H.nd;have hidr:id≠r:=by
  rintro rfl;simp only [Zbi,Ob.names] at nd;exact (List.nodup_append.1 nd).2.2 id (by simp) id (List.mem_flatMap.2 ⟨_,hmem,by simp [Ob.names]⟩) rfl
 have other:∀ b j,j≠id->T.get .no j (T.set .no b id h)=T.get .no j h:=fun b j hj=>T.zy _ _ _ _ _ hj;have nd':=hnm.nodup_iff.1 nd;refine hK _ ⟨fun j hj => ?_,fun y hy => ?_,fun m hm=>H.off m (hnm.mem_iff.2 hm),nd',fun j hj => ?_⟩
 ·rw [other _ j (by rintro rfl;exact hj (H.off _ (List.mem_flatMap.2 ⟨_,Zap _ hmem,by simp [Ob.names]⟩)))];exact H.keep j hj
 ·rw [hS] at hy nd';simp only [Zbi,List.flatMap_append] at nd';have step:∀ y,y∈L.take k\/y∈L.drop (k+1)->y.holds (T.set .no (.cells op (kP rs ll).length (T.set .u (.sl r 0 l.length (some l.length) 1) (.of i) t)) id h):=fun y hz=>by
   refine (H.own y (Zap _ (by rw [hL];rcases hz with hz | hz <;> simp [hz]))).congr fun m hm=>other _ m fun hmi => ?_;rw [hmi] at hm;rcases hz with hz | hz
   ·exact (List.nodup_append.1 nd').2.2 id (List.mem_flatMap.2 ⟨y,hz,hm⟩) id (Zce _ (by simp [Ob.names])) rfl
   ·exact (List.nodup_append.1 (List.nodup_append.1 nd').2.1).2.2 id (by simp [Ob.names]) id (List.mem_flatMap.2 ⟨y,hz,hm⟩) rfl
  rcases List.mem_append.1 hy with hy | hy
  ·exact step y (.inl hy)
  ·rcases List.mem_cons.1 hy with rfl | hy
   ·have htc:kP (rs.set i (some r)) (ll.set i l)=(kP rs ll).set i (.sl r 0 l.length (some l.length) 1):=by
     apply Zau;intro j;simp only [kP,List.getElem?_zipWith,List.getElem?_set,List.length_zipWith];by_cases e:i=j
     ·subst e;simp [hi,show i<ll.length by omega,cellV];omega
     ·simp [e]
    refine ⟨?_,by simp [h2],fun i' r' hr' => ?_,fun i' l' hr' hl' => ?_⟩
    ·rw [htc];exact yx.set h1 h1' (by omega)
    ·by_cases e:i=i'
     ·subst e;rw [List.getElem?_set_self hi] at hr';cases hr'
      exact ⟨l,List.getElem?_set_self (by omega),hr0.congr (other _ _ hidr.symm)⟩
     ·rw [List.getElem?_set_ne e] at hr';obtain ⟨l2,g1,g2⟩:=h3 i' r' hr';refine ⟨l2,by rw [List.getElem?_set_ne e];exact g1,g2.congr (other _ _ ?_)⟩;rintro rfl;have hndt:=(List.nodup_append.1 (List.nodup_append.1 nd').2.1).1;simp only [Ob.names,Zbw] at hndt;refine hndt.1 ?_;simp only [List.mem_filterMap];exact ⟨some r',by rw [Zbb];exact ⟨i',by rw [List.getElem?_set_ne e];exact hr'⟩,rfl⟩
    ·by_cases e:i=i'
     ·subst e;rw [List.getElem?_set_self hi] at hr';cases hr'
     ·rw [List.getElem?_set_ne e] at hr' hl';exact h4 i' l' hr' hl'
   ·exact step y (.inr hy)
 ·rw [other _ j (by rintro rfl;rw [H.fr _ hj] at h1;cases h1)];exact H.fr j hj
def rD:AV->Bool
 | .bool _ | .int _ _ | .str _ | .aj | .zf | .esl | .wz | .dh=>true
 | .lst _ _ l=>nns l
 | .fp l=>nns l
 | _=>false
theorem rD.jc:∀ {v:AV},rD v=true->Ev.jc v=true:=by
 intro v h;cases v <;> first | rfl | (simp [rD] at h)
theorem rD.nn:∀ {v:AV},rD v=true->Ev.nn v=true:=by
 intro v h;cases v <;> first | rfl | (simp [rD] at h;done) | (simpa [rD,Ev.nn] using h)
theorem mX:∀ {l:List AV},(∀ v∈l,rD v=true)->nns l=true
 | [],_=>rfl
 | a::l,h=>by simp [nns,rD.nn (h a (by simp)),mX (l:=l) fun v hv=>h v (by simp [hv])]
theorem zL {N:Pa->Prop} {O:AV->Prop} {hh:T Blk}:∀ {v:AV},rD v=true->Frz True N O hh v v:=by
 intro v h
 cases v <;> first
  |(simp [rD] at h;done)
  | exact .bool _ | exact .int _ _ | exact .str _ | exact .aj | exact .zf | exact .esl | exact .wz | exact .dh
  | exact .lst _ _ _ trivial h
  | exact .fp _ trivial h
theorem yx.frz {N:Pa->Prop} {O:AV->Prop} {cap:Option Nat} {e n:Nat} (H:yx h id l) (hid:N id) (hcap:dL n cap) (hl:l.length=n*e) (hf:∀ v∈l,rD v=true):Frz True N O h (.sl id 0 n cap e) (.lst e n l):=by
 obtain ⟨op,t,h1,h2⟩:=H;refine .sl _ _ _ _ _ op _ t _ hid hcap h1 (by omega) hl (List.all_eq_true.2 fun v hv=>rD.jc (hf v hv)) fun i v hi => ?_;have:=yC t 0 l.length i (List.getElem?_eq_some_iff.1 hi).1;rw [h2,hi] at this;rw [<- Option.some.inj this];exact zL (hf v (Zab hi))
theorem Hp.zae {cap:Option Nat} {e n:Nat} (H:Hp h0 h nx L) (hk:L[k]? = some (.arr id l)) (hcap:dL n cap) (hl:l.length=n*e) (hf:∀ v∈l,rD v=true):rU h0 h (.sl id 0 n cap e) (.lst e n l) :=
 yx.frz (H.own _ (Zab hk)) (H.off id (List.mem_flatMap.2 ⟨_,Zab hk,by simp [Ob.names]⟩)) hcap hl hf
theorem Hp.zx5 {rs:List (Option Pa)} {ll:List (List AV)} {n:Nat} {cap:Option Nat} (H:Hp h0 h nx L) (hk:L[k]? = some (.tab id rs ll)) (hcap:dL n cap) (hl:ll.length=n) (hf:∀ l∈ll,∀ v∈l,rD v=true) :
  rU h0 h (.sl id 0 n cap 1) (.lst 1 n (ll.map fun l=>.lst 1 l.length l)):=by
 obtain ⟨⟨op,t,h1,h1'⟩,h2,h3,h4⟩:=H.own _ (Zab hk);have hoff:=H.off;have hlen:=vS h2;refine .sl _ _ _ _ _ op _ t _ (hoff id (List.mem_flatMap.2 ⟨_,Zab hk,by simp [Ob.names]⟩)) hcap h1 (by omega) (by simp [hl]) (by simp [Zae,jc]) fun i v hi => ?_;rw [List.getElem?_map] at hi;cases hll:ll[i]? with
 | none=>simp [hll] at hi
 | some l =>
  simp [hll] at hi;subst hi;have hil:=(List.getElem?_eq_some_iff.1 hll).1;have:=yC t 0 (kP rs ll).length i (by omega);rw [h1',kP,List.getElem?_zipWith,hll] at this;have hri:i<rs.length:=by omega
  have hrr:rs[i]? = some rs[i]:=List.getElem?_eq_getElem hri;cases ho:rs[i] with
  | none =>
   rw [hrr,ho] at this;rw [<- Option.some.inj this];rw [ho] at hrr;rw [h4 i l hrr hll];exact .zbr 1
  | some r =>
   rw [hrr,ho] at this;rw [<- Option.some.inj this];rw [ho] at hrr;obtain ⟨l',q1,q2⟩:=h3 i r hrr;rw [hll] at q1;cases q1;exact q2.frz (hoff r (List.mem_flatMap.2 ⟨_,Zab hk,by simp [Ob.names];exact .inr (Zab hrr)⟩)) (Zai _) (by simp) (hf l (Zab hll))
theorem yE {P:Program} {B:Nat} {f:Nat} {args:List AV} {Q:AV->Prop}
  (hk:∀ (h:T Blk) (nx:Pa) (K:Kw Prop),Hp h h nx []->(∀ v h' nx' L v',Hp h h' nx' L->rU h h' v v'->Q v'->K v h' nx'=.ok True)->(CS P B).fn f (.of f) args h nx K=.ok True):Pure P B f args Q :=
 ztq fun h nx K hf hK=>hk h nx K (Hp.init hf) fun v h' nx' _ v' H hF hQ=>hK v h' nx' H.fr H.keep ⟨v',hF,hQ⟩
theorem uE {N:Pa->Prop} {O:AV->Prop} {hh:T Blk} {a b a' b':AV} (h1:Frz True N O hh a a') (h2:Frz True N O hh b b'):Frz True N O hh (.tup [a,b]) (.tup [a',b']):=by
 refine .tup _ _ rfl fun i v v' hi hi' => ?_
 match i with
 | 0=>simp at hi hi';subst hi;subst hi';exact h1
 | 1=>simp at hi hi';subst hi;subst hi';exact h2
 | i+2=>simp at hi
end Go.Ev
namespace Go.Ev
open Go
def rowL {α:Type} (W:Nat) (d:Nat->α):List α:=(List.range W).map d
section
variable {α:Type} {W:Nat} {d d':Nat->α} {j:Nat} {v:α}
@[simp] theorem zfw:(rowL W d).length=W:=by simp [rowL]
theorem zor (hj:j<W):(rowL W d)[j]? = some (d j):=by simp [rowL,hj]
theorem zlj (l:List α) (z:α):l=rowL l.length (fun i=>l.getD i z):=by
 apply Zau;intro i;by_cases hi:i<l.length
 ·rw [zor hi];simp [Zaa,hi]
 ·rw [List.getElem?_eq_none (by omega),List.getElem?_eq_none (by simp;omega)]
def tabL (N W:Nat) (D:Nat->Nat->α):List (List α):=rowL N fun i=>rowL W (D i)
variable {N k:Nat} {D D':Nat->Nat->α}
@[simp] theorem zwf:(tabL N W D).length=N:=zfw
end
end Go.Ev
namespace Go.Ev
open Go
abbrev encI (l:List Int):AV:=.lst 1 l.length (l.map I)
abbrev sW (ll:List (List Int)):AV:=.lst 1 ll.length (ll.map encI)
theorem zx6 (l:List Int):nns (l.map I)=true:=mX fun v hv=>by
 obtain ⟨x,_,rfl⟩:=List.mem_map.1 hv;rfl
theorem uH (l:List Int):rD (encI l)=true:=zx6 l
theorem zx7 (ll:List (List Int)):nns (ll.map encI)=true:=mX fun v hv=>by
 obtain ⟨x,_,rfl⟩:=List.mem_map.1 hv;exact uH x
theorem zc3 (ll:List (List Int)):rD (sW ll)=true:=zx7 ll
theorem fD {l:List Int} {i:Nat} {x:Int} (h:l[i]? = some x):(l.map I)[i]? = some (I x):=by rw [List.getElem?_map,h];rfl
theorem getT {ll:List (List Int)} {i:Nat} {l:List Int} (h:ll[i]? = some l):(ll.map encI)[i]? = some (encI l):=by rw [List.getElem?_map,h];rfl
theorem ldL {h:T Blk} {l:List AV} {i:Nat} {v:AV} {op:AV->OP} (hv:l[i]? = some v):zG (.fp (l.drop (i*1))) h op=op v:=by rw [Zcc];exact zib hv
end Go.Ev
namespace Go.Ev
open Go
variable {h0 h h':T Blk} {nx:Pa} {L L':List Ob} {K:KW3} {k i n c:Nat} {id:Pa} {l:List AV} {v:AV}
theorem xY {x:Ob} (hk:L[k]? = some x):L=L.take k++x::L.drop (k+1)/\∀ x',L.set k x'=L.take k++x'::L.drop (k+1):=by
 have hkl:=(List.getElem?_eq_some_iff.1 hk).1;refine ⟨?_,fun x'=>by rw [Zck,if_pos hkl]⟩;rw [List.getElem?_eq_getElem hkl] at hk;rw [<- Option.some.inj hk];simp
theorem Hp.front {x:Ob} (H:Hp h0 h nx L) (hk:L[k]? = some x):Hp h0 h nx (x::(L.take k++L.drop (k+1))):=by
 obtain ⟨e1,_⟩:=xY hk;refine H.perm ?_
 conv=>lhs;rw [e1]
 exact Zby
theorem Hp.back {x x':Ob} (hk:L[k]? = some x) (H:Hp h0 h nx (x'::(L.take k++L.drop (k+1)))):Hp h0 h nx (L.set k x'):=by
 obtain ⟨_,e2⟩:=xY hk;rw [e2];exact H.perm List.perm_middle.symm
theorem Hp.kill (H:Hp h0 h nx (.gro (some id) c n l::L)):Hp h0 (T.set .no .no id h) nx L:=by
 have hid:T.get .no id h0=.no:=H.off id (by simp [Ob.names]);have H3:=H.drop;have nd:=H.nd;simp only [Zbi,Ob.names,Option.toList] at nd;have hni:id∉L.flatMap Ob.names:=fun hi=>(List.nodup_append.1 nd).2.2 id (by simp) id hi rfl;have other:∀ j,j≠id->T.get .no j (T.set .no .no id h)=T.get .no j h:=fun j hj=>T.zy _ _ _ _ _ hj;refine ⟨fun j hj => ?_,fun y hy => ?_,H3.off,H3.nd,fun j hj => ?_⟩
 ·rw [other j (by rintro rfl;exact hj hid)];exact H.keep j hj
 ·exact (H3.own y hy).congr fun m hm=>other m (by rintro rfl;exact hni (List.mem_flatMap.2 ⟨y,hy,hm⟩))
 ·by_cases e:j=id
  ·subst e;exact T.get_set_same _ _ _ _
  ·rw [other j e];exact H.fr j hj
theorem Hp.appN {esz bytes:Nat} {o:Option Pa} {x:AV} {new:List AV} (H:Hp h0 h nx L) (hk:L[k]? = some (.gro o esz n l)) (hx:∀ (no:OP) (K':List AV->Nat->OP),uP x h no K'=K' new c) (hne:new.length=c*esz) (hs:new.all jc=true)
  (he:1<=esz) (hb:bytes*1000000<=70368744177664) (hlim:n+c<=1000000) (hK:∀ o' h' nx',(o≠none\/1<=c->o'≠none)->Hp h0 h' nx' (L.set k (.gro o' esz (n+c) (l++new)))->K (qx o' esz (n+c)) h' nx'=.ok True) :
  tu esz bytes (qx o esz n) x h nx K=.ok True:=by
 have hc:(Nat.ble (bytes*1000000) 70368744177664&&Nat.beq new.length (c*esz)&&Nat.ble 1 esz&&new.all jc)=true:=by
  simp only [Zad,hs,and_true];exact ⟨⟨Zac hb,by rw [hne];exact Zbf _⟩,Zac he⟩
 unfold tu oN;rw [hx,hc,cond_true];have own:=H.own _ (Zab hk);have HF:=H.front hk;cases o with
 | none =>
  obtain ⟨rfl,rfl⟩:=own;by_cases hc0:c=0
  ·subst hc0;obtain rfl:new=[]:=by simpa using hne
   show K .zf h nx=_;refine hK none _ _ (fun q=>by rcases q with q | q <;> first | exact (q rfl).elim | omega) (H.cast ?_);rw [(xY hk).2];exact (xY hk).1
  ·show (bif Nat.beq c 0 then K .zf h nx else bif Nat.ble c 1000000 then yW true new h nx (fun id h' nx'=>K (.sl id 0 c none esz) h' nx') else .no 31)=_;rw [ay hc0,Zac (by omega),cond_false,cond_true];rw [yM];rw [Zaw] at hK;refine hK (some nx) _ _ (fun _=>by simp) (Hp.back hk (Hp.new HF.drop (x:=.gro (some nx) esz c ([]++new)) rfl fun h' e => ?_));refine ⟨_,by rw [e,hne],by simp [hne],?_⟩;have:=u6 new;rw [hne] at this;simpa using this
 | some id =>
  obtain ⟨t,hb,hl,hrd⟩:=own;show (bif Nat.beq esz esz&&Nat.ble (n+c) 1000000 then jf (T.get .no id h) _ (.no 35) else .no 36)=_;rw [hb,Zbf,Zac hlim];have hwr:=uU t l new (n*esz) hrd;rw [hne,<- Zbc] at hwr;by_cases hc0:c=0
  ·subst hc0;obtain rfl:new=[]:=by simpa using hne
   show (bif Nat.ble (0+n*esz) (n*esz) then (bif Nat.ble (0+(n+0)*esz) (n*esz) then qE id 0 n none esz true (n*esz) t [] 0 h nx K else _) else _)=_;rw [Zac (by omega),Zac (by simp),cond_true,cond_true];unfold qE;rw [jA,T.yt,yJ,Zaw];exact hK (some id) _ _ (fun _=>by simp) (H.upd hk (by simp [Ob.names]) rfl ⟨_,T.get_set_same _ _ _ _,by simp [hl],hwr⟩)
  ·have hlt:n*esz<(n+c)*esz:=by
    rw [Zbc];have:1*1<=c*esz:=Zbg (by omega) he;omega
   show (bif Nat.ble (0+n*esz) (n*esz) then (bif Nat.ble (0+(n+c)*esz) (n*esz) then qE id 0 n none esz true (n*esz) t new c h nx K else (bif true&&Nat.beq (0+n*esz) (n*esz)&&Nat.beq 0 0 then bC id n esz (n*esz) t new c h nx K else .no 33)) else _)=_;rw [Zac (by omega),bleF (by omega),beqT (Zaw _)];simp only [Zbf,Bool.and_true,cond_true,cond_false];unfold bC;rw [jA,yJ,T.yt,T.yt,yJ];refine hK (some nx) _ _ (fun _=>by simp) (Hp.back hk (Hp.new (b:=.cells true (n*esz+c*esz) (yS new t (n*esz))) HF.kill rfl fun h' e => ?_));exact ⟨_,by rw [e,Zbc],by simp [hl,hne,Zbc],hwr⟩
theorem Hp.zaf {o:Option Pa} {e:Nat} (H:Hp h0 h nx L) (hk:L[k]? = some (.gro o e n l)) (hf:∀ v∈l,rD v=true):rU h0 h (qx o e n) (.lst e n l):=by
 have own:=H.own _ (Zab hk);have hoff:=H.off;cases o with
 | none=>obtain ⟨rfl,rfl⟩:=own;exact .zbr e
 | some id =>
  obtain ⟨t,h1,h2,h3⟩:=own;refine .sl _ _ _ _ _ true _ t _ (hoff id (List.mem_flatMap.2 ⟨_,Zab hk,by simp [Ob.names]⟩)) trivial h1 (by omega) h2 (List.all_eq_true.2 fun v hv=>rD.jc (hf v hv)) fun i v hi => ?_;have:=yC t 0 (n*e) i (by rw [<- h2];exact (List.getElem?_eq_some_iff.1 hi).1);rw [h3,hi] at this;rw [<- Option.some.inj this];exact zL (hf v (Zab hi))
theorem yx.rd {cap:Option Nat} {e:Nat} (H:yx h id l) (hl:l.length=n*e) (no:OP) (K':List AV->Nat->OP):uP (.sl id 0 n cap e) h no K'=K' l n:=by
 obtain ⟨op,t,h1,h2⟩:=H;show jf (T.get .no id h) (fun _ m t=>bif Nat.ble (0+n*e) m then K' (yD t 0 (n*e)) n else no) no=_;rw [h1];show (bif Nat.ble (0+n*e) l.length then K' (yD t 0 (n*e)) n else no)=_;rw [Zac (by omega),cond_true,<- hl,h2]
theorem zwg (e:Nat) (no:OP) (K':List AV->Nat->OP):uP (.lst e n l) h no K'=K' l n:=rfl
def LI (v:AV) (l:List Int):Prop:=(v=.zf/\l=[])\/v=encI l
theorem LI.rd {l:List Int} (H:LI v l) (h:T Blk) (no:OP) (K':List AV->Nat->OP):uP v h no K'=K' (l.map I) l.length:=by
 rcases H with ⟨rfl,rfl⟩ | rfl <;> rfl
theorem yx.frzE {N:Pa->Prop} {O:AV->Prop} {cap:Option Nat} {e n:Nat} {l':List AV} (H:yx h id l) (hid:N id) (hcap:dL n cap) (hl:l.length=n*e) (hlen:l'.length=l.length) (hs:l'.all jc=true) (hf:∀ (i:Nat) v v',l[i]? = some v->l'[i]? = some v'->Frz True N O h v v'):Frz True N O h (.sl id 0 n cap e) (.lst e n l'):=by
 obtain ⟨op,t,h1,h2⟩:=H;refine .sl _ _ _ _ _ op _ t _ hid hcap h1 (by omega) (by omega) hs fun i v hi => ?_;have hil:=(List.getElem?_eq_some_iff.1 hi).1;have hil2:i<l.length:=by omega
 have:=yC t 0 l.length i hil2;rw [h2,List.getElem?_eq_getElem hil2] at this;rw [<- Option.some.inj this];exact hf i _ v (List.getElem?_eq_getElem hil2) hi
theorem Hp.zx8 (H:Hp h0 h nx L) (hm : .arr id l∈L):T.get .no id h0=.no:=H.off id (List.mem_flatMap.2 ⟨_,hm,by simp [Ob.names]⟩)
theorem Hp.copy {z:AV} {new:List AV} {w:AV} {bytes:Nat} (H:Hp h0 h nx L) (hr:∀ h1,qA h0 h1->∀ (no:OP) (K':List AV->Nat->OP),uP w h1 no K'=K' new c) (hl:new.length=c) (hf:∀ v∈new,rD v=true) (hb:bytes*1000000<=70368744177664) (hc:c<=1000000)
  (hK:∀ (v:AV) (X:Ob) (h':T Blk) (nx':Pa),Hp h0 h' nx' (X::L)->v.cells=some [v]->jc v=true->(∀ h0' h'' nx'' L'',Hp h0' h'' nx'' L''->X∈L''->rU h0' h'' v (.lst 1 c new))->K v h' nx'=.ok True) :
  (jM 1 0 [z] [] h nx fun v1 h1 n1=>tu 1 bytes v1 w h1 n1 K)=.ok True:=by
 refine H.yj (l:=[]) rfl fun e h1 n1 H1 => ?_;have hs:new.all jc=true:=List.all_eq_true.2 fun v hv=>rD.jc (hf v hv);unfold tu oN;rw [hr _ H1.keep];have hcc:(Nat.ble (bytes*1000000) 70368744177664&&Nat.beq new.length (c*1)&&Nat.ble 1 1&&new.all jc)=true:=by
  simp only [Zad,hs,and_true];exact ⟨⟨Zac hb,by rw [hl,Zcc];exact Zbf _⟩,rfl⟩
 rw [hcc,cond_true];obtain ⟨op,t,g1,g2⟩:yx h1 e []:=H1.own _ (Zam ..);show (bif Nat.beq 1 1&&Nat.ble (0+c) 1000000 then jf (T.get .no e h1) _ (.no 35) else .no 36)=_;rw [g1,Zac (by omega)];show (bif Nat.ble (0+c) 0 then (bif Nat.ble (0+(0+c)*1) 0 then qE e 0 0 (some 0) 1 op 0 t new c h1 n1 _ else .no 32) else uL 0 0 1 t new c h1 n1 _)=_;by_cases hc0:c=0
 ·subst hc0;obtain rfl:new=[]:=Zbe hl;rw [show Nat.ble (0+0) 0=true from rfl,cond_true,cond_true];unfold qE;rw [jA,T.yt,yJ];refine hK (.sl e 0 0 (some 0) 1) (.arr e []) _ _ (H1.upd (k:=0) (x':=.arr e []) rfl (by simp [Ob.names]) rfl ⟨op,_,T.get_set_same _ _ _ _,rfl⟩) rfl rfl fun h0' h'' nx'' L'' H'' hm => ?_;exact yx.frz (H''.own _ hm) (H''.zx8 hm) (Zai _) rfl (by simp)
 ·rw [bleF (by omega),cond_false];unfold uL;rw [yM,yJ]
  have H2:Hp h0 (T.set .no (.cells true new.length (yS new .e 0)) n1 h1) n1.succ (.gro (some n1) 1 c new::L) :=
   Hp.new (x:=.gro (some n1) 1 c new) H1.drop rfl fun h' q=>⟨_,by rw [q,hl,Zcc],by rw [hl,Zcc],by have:=u6 new;rw [hl] at this;rw [Zcc];exact this⟩
  rw [Zaw];refine hK (.sl n1 0 c none 1) _ _ _ H2 rfl rfl fun h0' h'' nx'' L'' H'' hm => ?_;obtain ⟨q,hq⟩:=List.mem_iff_getElem?.1 hm;exact H''.zaf (o:=some n1) hq hf
theorem uN {P:Program} {B f:Nat} {p:Pa} {cap args:List AV}:qC (CS P B) (.fn f p cap) args h nx K=(CS P B).fn f p (args++cap) h nx K:=nr rfl
theorem uO (o:Option Pa) (e n:Nat):(qx o e n).cells=some [qx o e n]:=by cases o <;> rfl
end Go.Ev
namespace Go.Ev
open Go
variable {h0 h h':T Blk} {nx:Pa} {L L':List Ob} {K:KW3} {k i n c:Nat} {id:Pa} {l:List AV} {v:AV} {P:Program} {B:Nat}
abbrev Key:=List Nat
abbrev u8 (v:Nat):AV:=.int .u8 (v:Int)
structure KsOk (m:Nat) (ks G:List Key):Prop where
 nd:ks.Nodup
 mem:∀ y,y∈ks↔y∈G
 len:∀ y∈G,y.length=m
theorem KsOk.nil (m:Nat):KsOk m [] []:=⟨by simp,by simp,by simp⟩
theorem KsOk.perm {m:Nat} {ks G G':List Key} (H:KsOk m ks G) (hp:G.Perm G'):KsOk m ks G':=⟨H.nd,fun y=>(H.mem y).trans hp.mem_iff,fun y hy=>H.len y (hp.mem_iff.2 hy)⟩
theorem oK {n i:Nat} {seen:List Nat}:i∈uY n seen↔i<n/\i∉seen:=by
 simp [uY]
theorem zic {n i:Nat} {seen:List Nat} (h:i<n) (hs:i∉seen):(uY n (i::seen)).length+1=(uY n seen).length:=by
 have nd:(uY n seen).Nodup:=List.Pairwise.filter _ List.nodup_range;have e:uY n (i::seen)=(uY n seen).erase i:=by
  rw [nd.erase_eq_filter];simp only [uY,List.filter_filter]
  congr 1
  funext j
  by_cases hj:j=i
  ·subst hj;simp
  ·simp [hj]
 rw [e,List.length_erase_of_mem (oK.2 ⟨h,hs⟩)];have:0<(uY n seen).length:=List.length_pos_of_mem (oK.2 ⟨h,hs⟩);omega
theorem Hp.range {es:List (AV×AV)} (H:Hp h0 h nx L) (hk:L[k]? = some (.map id es)) (hK:∀ it h' nx',Hp h0 h' nx' (.iter it id es.length [] es.length::L)->K (.ptr it 0) h' nx'=.ok True):zhl (.map id) h nx K=.ok True:=by
 have own:T.get .no id h=.map _ _:=H.own _ (Zab hk);show fC (T.get .no id h) _ _=_;rw [own];show T.vg Blk.no (.iter id es.length [] es.length) nx h (fun h'=>K (.ptr nx 0) h' nx.succ)=_;rw [T.yt];exact hK _ _ _ (H.new rfl fun h' e=>e)
theorem Hp.next {es:List (AV×AV)} {it:Pa} {j:Nat} {seen:List Nat} (H:Hp h0 h nx L) (hk:L[k]? = some (.iter it id es.length seen c)) (hm:L[j]? = some (.map id es))
  (hK0:(∀ i,i<es.length->i∈seen)->K (.tup [.bool false]) h nx=.ok True)
  (hK1:∀ (i:Nat) a b h',i<es.length->i∉seen->es[i]? = some (a,b)->Hp h0 h' nx (L.set k (.iter it id es.length (i::seen) es.length))->K (.tup [.bool true,a,b]) h' nx=.ok True):zm3 (CS P B) (.ptr it 0) h nx K=.ok True:=by
 have own:T.get .no it h=.iter _ _ _ _:=H.own _ (Zab hk);have own2:T.get .no id h=.map _ _:=H.own _ (Zab hm);show oC (T.get .no it h) _ _=_;rw [own];show fC (T.get .no id h) _ _=_;rw [own2]
 show (bif Nat.beq es.length es.length then (match uY es.length seen with
  | []=>K (.tup [.bool false]) h nx
  | i::is=>(CS P B).pk (i::is) fun i=>match es[i]? with
   | some (a,b)=>T.vg Blk.no (.iter id es.length (i::seen) es.length) it h fun h'=>K (.tup [.bool true,a,b]) h' nx
   | none=>.no 56) else .no 56)=_
 rw [Zbf,cond_true];cases hl:uY es.length seen with
 | nil =>
  refine hK0 fun i hi=>Classical.byContradiction fun hn => ?_;have:=oK.2 ⟨hi,hn⟩;rw [hl] at this;cases this
 | cons i is =>
  refine zok.2 ⟨fun q hq => ?_,rfl⟩;rw [<- hl] at hq;obtain ⟨h1,h2⟩:=oK.1 hq;have e:es[q]? = some (es[q].1,es[q].2):=List.getElem?_eq_getElem h1;rw [e];simp only [T.yt];exact hK1 q _ _ _ h1 h2 e (H.upd hk (by simp [Ob.names]) rfl (T.get_set_same _ _ _ _))
theorem Hp.entry {es:List (AV×AV)} {it:Pa} {j i:Nat} {seen:List Nat} {a b:AV} {op:AV->OP} (H:Hp h0 h nx L) (hk:L[k]? = some (.iter it id es.length (i::seen) es.length)) (hm:L[j]? = some (.map id es)) (he:es[i]? = some (a,b)):zhm (.ptr it 0) h op=op (.tup [a,b]):=by
 have own:T.get .no it h=.iter _ _ _ _:=H.own _ (Zab hk);have own2:T.get .no id h=.map _ _:=H.own _ (Zab hm);show oC (T.get .no it h) _ _=_;rw [own];show fC (T.get .no id h) _ _=_;rw [own2];show (bif Nat.beq es.length es.length then (match es[i]? with | some (a,b)=>op (.tup [a,b]) | none=>.no 54) else .no 54)=_;rw [Zbf,cond_true,he]
theorem Hp.au (H:Hp h0 h nx L) (hK:∀ id h' nx',Hp h0 h' nx' (.map id []::L)->K (.map id) h' nx'=.ok True):zdx h nx K=.ok True:=by
 unfold zdx;rw [T.yt];exact hK _ _ _ (H.new rfl fun h' e=>e)
theorem Hp.zn {op:AV->OP} (H:Hp h0 h nx L) (hk:L[k]? = some (.arr id l)) (hl:l.length=n):zS n (.ptr id 0) h op=op (.agg l):=by
 obtain ⟨o,t,h1,h2⟩:=H.own _ (Zab hk);show jf (T.get .no id h) _ _=_;rw [h1];show (bif Nat.ble (0+n) l.length then op (.agg (yD t 0 n)) else .no 8)=_;rw [Zac (by omega),cond_true,<- hl,h2]
theorem Hp.qy {l2:List AV} (H:Hp h0 h nx L) (hk:L[k]? = some (.arr id l)) (hl:l.length=n) (hl2:l2.length=n) (hK:∀ h',Hp h0 h' nx (L.set k (.arr id l2))->K .u h' nx=.ok True):zY n (.ptr id 0) (.agg l2) h nx K=.ok True:=by
 obtain ⟨o,t,h1,h2⟩:=H.own _ (Zab hk);show jf (T.get .no id h) _ _=_;rw [h1];show (bif Nat.beq l2.length n&&Nat.ble (0+n) l.length then gT l2 t 0 (fun t'=>T.vg Blk.no (.cells o l.length t') id h fun h'=>K .u h' nx) else .no 42)=_;rw [beqT hl2,Zac (by omega)];simp only [Bool.and_true,cond_true];rw [jA,T.yt];refine hK _ (H.upd hk (by simp [Ob.names]) rfl ⟨o,_,by rw [T.get_set_same,hl,hl2],?_⟩);apply Zau;intro i;by_cases hi:i<l2.length
 ·rw [yC _ _ _ _ hi,Zaw,uA,if_pos (by omega)];simp [Zaa,hi]
 ·rw [List.getElem?_eq_none (by simp;omega),List.getElem?_eq_none (by omega)]
theorem sFx {o p:Nat} {op:AV->OP}:zN p (.ptr id o) op=op (.ptr id (o+p)):=by
 show qp (o+p) (fun o=>op (.ptr id o))=_;rw [yJ]
theorem Hp.zbw {o:Option Pa} {e:Nat} {op:AV->OP} (H:Hp h0 h nx L) (hk:L[k]? = some (.gro o e n l)):sLen (qx o e n) op=op (I n):=by
 cases o with
 | none=>obtain ⟨_,rfl⟩:=H.own _ (Zab hk);rfl
 | some id=>rfl
end Go.Ev
namespace Go.Ev
open Go
variable {h0 h:T Blk} {nx:Pa} {L:List Ob}
theorem Hp.rend {id:Pa} {K:Kw Prop} {st:LSt} {j0 j:Jump} {tm tm':T AV} {ps:List Pa} {a b:IR} {v:Bool} {k:Nat} (H:Hp h0 h nx L) (hk:L[k]? = some (.raw id (.loop st j0 tm ps a b)))
  (hK:∀ h',Hp h0 h' nx (L.set k (.raw id (.loop (bif v then .ready else .done) j tm ps a b)))->K (.bool v) h' nx=.ok True):yZ id K j v tm' h nx=.ok True:=by
 unfold yZ;have h1:T.get .no id h=.loop st j0 tm ps a b:=(H.own _ (Zab hk)).1;rw [h1];show T.vg _ _ _ _ _=_;rw [T.yt];exact hK _ (H.upd hk (by simp [Ob.names]) rfl ⟨T.get_set_same _ _ _ _,by intro e;cases e⟩)
theorem Hp.zts {id:Pa} {b:Blk} (H:Hp h0 h nx (.raw id b::L)):Hp h0 (T.set .no .no id h) nx L:=by
 have hid:T.get .no id h0=.no:=H.off id (by simp [Ob.names]);have H3:=H.drop;have nd:=H.nd;simp only [Zbi,Ob.names] at nd;have hni:id∉L.flatMap Ob.names:=fun hi=>(List.nodup_append.1 nd).2.2 id (by simp) id hi rfl;have other:∀ j,j≠id->T.get .no j (T.set .no .no id h)=T.get .no j h:=fun j hj=>T.zy _ _ _ _ _ hj;refine ⟨fun j hj => ?_,fun y hy => ?_,H3.off,H3.nd,fun j hj => ?_⟩
 ·rw [other j (by rintro rfl;exact hj hid)];exact H.keep j hj
 ·exact (H3.own y hy).congr fun m hm=>other m (by rintro rfl;exact hni (List.mem_flatMap.2 ⟨y,hy,hm⟩))
 ·by_cases e:j=id
  ·subst e;exact T.get_set_same _ _ _ _
  ·rw [other j e];exact H.fr j hj
theorem Hp.rf {N:Nat} {C:Calls Prop} {O:yu Prop} {K:Ks Prop} {tm:T AV} {f:Arg} {ps:List Pa} {a b:IR} {g:Nat} {p:Pa} {cap:List AV} (H:Hp h0 h nx L) (hf:f.ev ⟨tm,[]⟩=.fn g p cap)
  (hK:∀ id h' nx',Hp h0 h' nx' (.raw id (.loop .ready .none tm ps a b)::L)->C.fn g p (.yld id::cap) h' nx' (fun _ h nx'=>dO (T.get .no id h) (fun st j _ _ _ _=>T.vg .no .no id h fun h=>tq O K st j tm h nx') (.no 63))=.ok True) :
  IR.run (.rf f ps a b) C N O K tm h nx=.ok True:=by
 show T.vg .no (.loop .ready .none tm ps a b) nx h (fun h'=>asFn (f.ev ⟨tm,[]⟩) _ _ _)=_;rw [T.yt,hf];exact hK nx _ _ (Hp.new H rfl fun h' e=>⟨e,by intro q;cases q⟩)
theorem Hp.tq {O:yu Prop} {K:Ks Prop} {tm tm':T AV} {id:Pa} {st:LSt} {j:Jump} {ps:List Pa} {a b:IR} (H:Hp h0 h nx (.raw id (.loop st j tm' ps a b)::L)) (hK:∀ h',Hp h0 h' nx L->Ev.tq O K st j tm h' nx=.ok True) :
  dO (T.get .no id h) (fun st j _ _ _ _=>T.vg .no .no id h fun h=>Ev.tq O K st j tm h nx) (.no 63)=.ok True:=by
 have h1:T.get .no id h=.loop st j tm' ps a b:=(H.own _ (Zam ..)).1;rw [h1];show T.vg _ _ _ _ _=_;rw [T.yt];exact hK _ H.zts
theorem mL {O:yu Prop} {K:Ks Prop} {tm:T AV}:Ev.tq O K .ready .none tm h nx=K tm h nx:=rfl
theorem bL {O:yu Prop} {K:Ks Prop} {tm:T AV}:Ev.tq O K .done .ret tm h nx=O.rt tm h nx:=rfl
theorem zid {O:yu Prop} {K:Ks Prop} {tm:T AV} {i:Nat}:Ev.tq O K .done (.exit i) tm h nx=O.ex i tm h nx:=rfl
def vV (o:Option Pa) (e n i:Nat):AV:=match o with
 | none=>.zf
 | some id=>bif Nat.beq i 0 then .sl id 0 n none e else bif Nat.ble (i+1) n then .sl id (0+i*e) (n-i) none e else .esl
theorem dM {i n d:Nat} (h:i<=n):bnd (some (I (i:Int))) n d=some i:=by
 show (bif Nat.ble i n then some i else none)=_;rw [Zac h];rfl
theorem Hp.qb3 {k e n i:Nat} {o:Option Pa} {l:List AV} {op:AV->OP} (H:Hp h0 h nx L) (hk:L[k]? = some (.gro o e n l)) (hi:i<=n):qR e (qx o e n) none (some (I (i:Int))) none op=op (qx o e i):=by
 cases o with
 | none =>
  obtain ⟨_,rfl⟩:=H.own _ (Zab hk);obtain rfl:i=0:=by omega
  rfl
 | some id =>
  show (bif Nat.beq e e then (match bnd (some (I (i:Int))) n n with | none=>Out.no 17 | some h=>match bnd none h 0 with | none=>.no 17 | some l=>bif Nat.beq l 0 then op (.sl id 0 h none e) else _) else _)=_;rw [Zbf,cond_true,dM hi]
  rfl
theorem Hp.zwh {k e n i:Nat} {o:Option Pa} {l:List AV} {op:AV->OP} (H:Hp h0 h nx L) (hk:L[k]? = some (.gro o e n l)) (hi:i<=n):qR e (qx o e n) (some (I (i:Int))) none none op=op (vV o e n i):=by
 cases o with
 | none =>
  obtain ⟨_,rfl⟩:=H.own _ (Zab hk);obtain rfl:i=0:=by omega
  rfl
 | some id =>
  show (bif Nat.beq e e then (match bnd none n n with | none=>Out.no 17 | some h=>match bnd (some (I (i:Int))) h 0 with | none=>.no 17 | some l=>bif Nat.beq l 0 then op (.sl id 0 h none e) else bif Nat.ble (l+1) n then qp (0+l*e) fun off=>qp (h-l) fun h=>op (.sl id off h none e) else op .esl) else _)=_;rw [Zbf,cond_true];show (match bnd (some (I (i:Int))) n 0 with | none=>Out.no 17 | some l=>bif Nat.beq l 0 then op (.sl id 0 n none e) else bif Nat.ble (l+1) n then qp (0+l*e) fun off=>qp (n-l) fun h=>op (.sl id off h none e) else op .esl)=_;rw [dM hi];simp only [vV,yJ];cases Nat.beq i 0 with
  | true=>rfl
  | false=>cases Nat.ble (i+1) n <;> rfl
theorem Hp.zjy {k e n i:Nat} {o:Option Pa} {l:List AV} (H:Hp h0 h nx L) (hk:L[k]? = some (.gro o e n l)) (hi:i<=n) (no:OP) (K':List AV->Nat->OP):uP (qx o e i) h no K'=K' (l.take (i*e)) i:=by
 have own:=H.own _ (Zab hk);cases o with
 | none =>
  obtain ⟨rfl,rfl⟩:=own;rw [List.take_nil];obtain rfl:i=0:=by omega
  rfl
 | some id =>
  obtain ⟨t,h1,h2,h3⟩:=own;show jf (T.get .no id h) (fun _ m t=>bif Nat.ble (0+i*e) m then K' (yD t 0 (i*e)) i else no) no=_;rw [h1];have hle:i*e<=n*e:=Zba e hi;show (bif Nat.ble (0+i*e) (n*e) then K' (yD t 0 (i*e)) i else no)=_;rw [Zac (by omega),cond_true,<- h3,vY _ _ _ _ hle]
theorem cC (t:T AV) (n k:Nat) (h:k<=n):(yD t 0 n).drop k=yD t (0+k) (n-k):=by
 apply Zau;intro i;rw [List.getElem?_drop];by_cases hi:i<n-k
 ·rw [yC _ _ _ _ (by omega),yC _ _ _ _ hi,Zcl]
 ·rw [List.getElem?_eq_none (by simp;omega),List.getElem?_eq_none (by simp;omega)]
theorem Hp.ztt {k e n i:Nat} {o:Option Pa} {l:List AV} (H:Hp h0 h nx L) (hk:L[k]? = some (.gro o e n l)) (hi:i<=n) (no:OP) (K':List AV->Nat->OP):uP (vV o e n i) h no K'=K' (l.drop (i*e)) (n-i):=by
 have own:=H.own _ (Zab hk);cases o with
 | none =>
  obtain ⟨rfl,rfl⟩:=own;rw [List.drop_nil];obtain rfl:i=0:=by omega
  rfl
 | some id =>
  obtain ⟨t,h1,h2,h3⟩:=own;have hle:i*e<=n*e:=Zba e hi;have key:uP (.sl id (0+i*e) (n-i) none e) h no K'=K' (l.drop (i*e)) (n-i):=by
   show jf (T.get .no id h) (fun _ m t=>bif Nat.ble (0+i*e+(n-i)*e) m then K' (yD t (0+i*e) ((n-i)*e)) (n-i) else no) no=_;rw [h1];have e2:(n-i)*e=n*e-i*e:=Nat.sub_mul n i e;show (bif Nat.ble (0+i*e+(n-i)*e) (n*e) then K' (yD t (0+i*e) ((n-i)*e)) (n-i) else no)=_;rw [Zac (by omega),cond_true,e2,<- h3,cC _ _ _ hle]
  by_cases h0:i=0
  ·subst h0;rw [Nat.zero_mul,Zco,Nat.sub_zero] at key;rw [Nat.zero_mul,Nat.sub_zero];exact key
  ·by_cases h1:i+1<=n
   ·have:vV (some id) e n i=.sl id (0+i*e) (n-i) none e:=by
     simp only [vV,ay h0,Zac h1,cond_true,cond_false]
    rw [this];exact key
   ·have:vV (some id) e n i=.esl:=by
     simp only [vV,ay h0,bleF h1,cond_false]
    rw [this];obtain rfl:i=n:=by omega
    show K' [] 0=_;rw [Zbk (by omega),Nat.sub_self]
def ztu (e bytes:Nat) (v:AV) (X:Ob) (new:List AV) (c:Nat):Prop :=
 ∀ (g0 g:T Blk) (n:Pa) (L1:List Ob) (xs:List AV) (b:Pa) (K':AV->T Blk->Pa->OP),Hp g0 g n (.arr b xs::X::L1)->xs.all jc=true->xs.length=e ->
  (∀ id g' n',Hp g0 g' n' (.gro (some id) e (c+1) (new++xs)::L1)->K' (.sl id 0 (c+1) none e) g' n'=.ok True)->tu e bytes v (.sl b 0 1 (some 1) e) g n K'=.ok True
theorem Hp.qb4 {K:AV->T Blk->Pa->OP} {e0:Pa} {e:Nat} {new:List AV} {c:Nat} {w:AV} {bytes:Nat} (he:1<=e) (H1:Hp h0 h nx (.arr e0 []::L)) (hr:∀ (no:OP) (K':List AV->Nat->OP),uP w h no K'=K' new c) (hl:new.length=c*e) (hs:new.all jc=true) (hb:bytes*1000000<=70368744177664) (hc:c+1<=1000000)
  (hK:∀ v X h' nx',Hp h0 h' nx' (X::L)->ztu e bytes v X new c->K v h' nx'=.ok True):tu e bytes (.sl e0 0 0 (some 0) e) w h nx K=.ok True:=by
 have hc1:∀ xs:List AV,xs.all jc=true->xs.length=e->(Nat.ble (bytes*1000000) 70368744177664&&Nat.beq xs.length (1*e)&&Nat.ble 1 e&&xs.all jc)=true:=by
  intro xs hx hl;rw [hx,Zac hb,hl,Zcf,Zbf,Zac he];rfl
 unfold tu oN;rw [hr];have hcc:(Nat.ble (bytes*1000000) 70368744177664&&Nat.beq new.length (c*e)&&Nat.ble 1 e&&new.all jc)=true:=by
  simp only [Zad,hs,and_true];exact ⟨⟨Zac hb,by rw [hl];exact Zbf _⟩,Zac he⟩
 rw [hcc,cond_true];obtain ⟨op,t,g1,g2⟩:yx h e0 []:=H1.own _ (Zam ..);show (bif Nat.beq e e&&Nat.ble (0+c) 1000000 then jf (T.get .no e0 h) _ (.no 35) else .no 36)=_;rw [g1,Zac (by omega),Zbf,Nat.zero_mul];show (bif Nat.ble (0+c) 0 then (bif Nat.ble (0+(0+c)*e) 0 then qE e0 0 0 (some 0) e op 0 t new c h nx _ else .no 32) else uL 0 0 e t new c h nx _)=_;by_cases hc0:c=0
 ·subst hc0;obtain rfl:new=[]:=Zbe (by simpa using hl);have e1:(0+(0+0)*e)=0:=by simp
  rw [show Nat.ble (0+0) 0=true from rfl,e1,cond_true,show Nat.ble 0 0=true from rfl,cond_true];unfold qE;rw [jA,T.yt,yJ];have H2:Hp h0 (T.set .no (.cells op 0 (yS [] t (0+0*e))) e0 h) nx (.arr e0 []::L):=H1.upd (k:=0) (x':=.arr e0 []) rfl (by simp [Ob.names]) rfl ⟨op,_,T.get_set_same _ _ _ _,rfl⟩;refine hK (.sl e0 0 0 (some 0) e) (.arr e0 []) _ _ H2 fun g0 g n L1 xs b K' H3 hx hxl hK' => ?_;unfold tu oN;rw [yx.rd (l:=xs) (n:=1) (e:=e) (H3.own _ (Zam ..)) (by omega),hc1 xs hx hxl,cond_true];obtain ⟨op3,t3,g3,g4⟩:yx g e0 []:=H3.own (.arr e0 []) (by simp);show (bif Nat.beq e e&&Nat.ble (0+1) 1000000 then jf (T.get .no e0 g) _ (.no 35) else .no 36)=_;rw [g3,Zbf,Nat.zero_mul];show uL 0 0 e t3 xs 1 g n K'=_;unfold uL;rw [yM,yJ];have er:yD t3 0 (0*e)=[]:=by rw [Nat.zero_mul];rfl
  rw [er];exact hK' _ _ _ (Hp.new (x:=.gro (some n) e (0+1) ([]++xs)) H3.drop.drop rfl fun h' q=>⟨yS xs .e 0,by rw [q];simp [hxl],by simp [hxl],by have:=u6 xs;simpa [hxl] using this⟩)
 ·rw [bleF (by omega),cond_false];unfold uL;rw [yM];have er:yD t 0 (0*e)=[]:=by rw [Nat.zero_mul];rfl
  rw [er,List.nil_append]
  have H2:Hp h0 (T.set .no (.cells true new.length (yS new .e 0)) nx h) nx.succ (.gro (some nx) e c new::L) :=
   Hp.new (x:=.gro (some nx) e c new) H1.drop rfl fun h' q=>⟨_,by rw [q,hl],hl,by have:=u6 new;rw [hl] at this;exact this⟩
  simp only [yJ,Zaw];refine hK (.sl nx 0 c none e) _ _ _ H2 fun g0 g n L1 xs b K' H3 hx hxl hK' => ?_;exact H3.drop.appN (k:=0) (o:=some nx) (c:=1) (x:=.sl b 0 1 (some 1) e) (new:=xs) rfl (yx.rd (l:=xs) (n:=1) (H3.own _ (Zam ..)) (by omega)) (by omega) hx he hb (by omega) fun o' h' nx' ho H4=>by
   cases o' with
   | none=>exact (ho (.inl (by simp)) rfl).elim
   | some id=>exact hK' id h' nx' H4
theorem Hp.ins {K:AV->T Blk->Pa->OP} {k e n i bytes:Nat} {o:Option Pa} {l xs zero:List AV} {ps:List (Nat×Nat×AV)} (H:Hp h0 h nx L) (hk:L[k]? = some (.gro o e n l)) (hln:l.length=n*e) (hi:i<=n) (he:1<=e) (hs:l.all jc=true) (hx:xs.all jc=true) (hxl:xs.length=e) (hf:gS (fK 1 zero) ps=some xs) (hb:bytes*1000000<=70368744177664) (hn:n+1<=1000000)
  (hK:∀ o' h' nx',Hp h0 h' nx' (.gro o' e (n+1) (l.take (i*e)++xs++l.drop (i*e))::L)->K (qx o' e (n+1)) h' nx'=.ok True) :
  (jM e 0 zero [] h nx fun v3 h4 n5=>tu e bytes v3 (qx o e i) h4 n5 fun v6 h7 n8=>jM e 1 zero ps h7 n8 fun v9 h10 n11=>tu e bytes v6 v9 h10 n11 fun v12 h13 n14=>tu e bytes v12 (vV o e n i) h13 n14 K)=.ok True:=by
 have hall:=List.all_eq_true.1 hs;have hle:i*e<=n*e:=Zba e hi;refine H.yj (l:=[]) rfl fun e0 h1 n1 H1 => ?_;refine H1.qb4 he (H1.zjy (k:=k+1) hk hi) (by rw [Zax];omega) (List.all_eq_true.2 fun v hv=>hall v (List.mem_of_mem_take hv)) hb (by omega) fun v X h2 n2 H2 hp => ?_;refine H2.yj (l:=xs) hf fun b h3 n3 H3 => ?_;refine hp _ _ _ L xs b _ H3 hx hxl fun id h4 n4 H4 => ?_;refine H4.appN (k:=0) (o:=some id) (n:=i+1) (c:=n-i) (new:=l.drop (i*e)) rfl (H4.ztt (k:=k+1) hk hi) (by rw [Zcj,hln,Nat.sub_mul]) (List.all_eq_true.2 fun v hv=>hall v (List.mem_of_mem_drop hv)) he hb (by omega) fun o' h5 n5 _ H5 => ?_;have e1:i+1+(n-i)=n+1:=by omega
 rw [e1] at H5 ⊢;exact hK o' h5 n5 H5
theorem Hp.zos {K:AV->T Blk->Pa->OP} {k e n i:Nat} {id:Pa} {l:List AV} {v:AV} (H:Hp h0 h nx L) (hk:L[k]? = some (.gro (some id) e n l)) (hi:i<l.length) (hv:v.cells=some [v]) (hK:∀ h',Hp h0 h' nx (L.set k (.gro (some id) e n (l.set i v)))->K .u h' nx=.ok True):zY 1 (.ptr id i) v h nx K=.ok True:=by
 obtain ⟨t,h1,h2,h3⟩:=H.own _ (Zab hk);rw [pP h1 (by omega) hv];refine hK _ (H.upd hk (by simp [Ob.names]) rfl ⟨T.set .u v (.of i) t,by rw [T.get_set_same],by rw [List.length_set];exact h2,?_⟩);rw [<- h2];exact zbu t l i hi v (by rw [h2];exact h3)
theorem Hp.zaj {k e n i:Nat} {id:Pa} {l:List AV} {v:AV} {op:AV->OP} (H:Hp h0 h nx L) (hk:L[k]? = some (.gro (some id) e n l)) (hi:l[i]? = some v):zG (.ptr id i) h op=op v:=by
 obtain ⟨t,h1,h2,h3⟩:=H.own _ (Zab hk);exact yx.load ⟨true,t,by rw [h1,h2],by rw [h2];exact h3⟩ hi
end Go.Ev
namespace Go.Ev
open Go
def rMid (N:Nat) (C:Calls Prop) (id:Pa) (K:Kw Prop) (b:IR):Ks Prop:=fun tm'' h nx =>
 dO (T.get .no id h) (fun st j tm ps x y=>match st with
  | .ready=>T.vg .no (.loop .busy j tm ps x y) id h fun h'=>b.run C N (rO id K) (yZ id K .none true) tm'' h' nx
  | _=>.no 86) (.no 86)
theorem zel {h:T Blk} {nx:Pa} {N:Nat} {C:Calls Prop} {id:Pa} {K:Kw Prop} {j:Jump} {tm tm2:T AV} {ps:List Pa} {a b b':IR} (hl:T.get .no id h=.loop .ready j tm ps a b') :
  rMid N C id K b tm2 h nx=IR.run b C N (rO id K) (yZ id K .none true) tm2 (T.set .no (.loop .busy j tm ps a b') id h) nx:=by
 unfold rMid;rw [hl];show T.vg _ _ _ _ _=_;rw [T.yt]
theorem zdy {h:T Blk} {nx:Pa} {N:Nat} {C:Calls Prop} {id:Pa} {args:List AV} {K:Kw Prop} {j:Jump} {tm tm1:T AV} {ps:List Pa} {a b:IR} (hl:T.get .no id h=.loop .ready j tm ps a b) (hb:∀ k:T AV->OP,yP ps args tm k=k tm1) :
  kX N C id args h nx K=IR.run a C N ⟨fun _ _ _ _=>.no 85,fun _ _ _=>.no 85⟩ (rMid N C id K b) tm1 h nx:=by
 unfold kX;rw [hl];show yP ps args tm _=_;rw [hb];rfl
def tEq:T AV->T AV->Bool
 | .e,.e=>true
 | .n l v r,.n l' v' r'=>oO v v'&&tEq l l'&&tEq r r'
 | _,_=>false
theorem zie:∀ {a b:T AV},tEq a b=true->a=b
 | .e,.e,_=>rfl
 | .e,.n ..,h=>by simp [tEq] at h
 | .n ..,.e,h=>by simp [tEq] at h
 | .n l v r,.n l' v' r',h=>by
  simp only [tEq,Zad] at h;rw [xF h.1.1,zie h.1.2,zie h.2]
def esEq:List (AV×AV)->List (AV×AV)->Bool
 | [],[]=>true
 |(a,b)::l,(c,d)::m=>oO a c&&oO b d&&esEq l m
 | _,_=>false
theorem zjz:∀ {a b:List (AV×AV)},esEq a b=true->a=b
 | [],[],_=>rfl
 | [],_::_,h=>by simp [esEq] at h
 | _::_,[],h=>by simp [esEq] at h
 |(a,b)::l,(c,d)::m,h=>by
  simp only [esEq,Zad] at h;rw [xF h.1.1,xF h.1.2,zjz h.2]
def cT:Blk->Blk->Bool
 | .no,_=>true
 | .cells op n t,.cells op' n' t'=>op==op'&&Nat.beq n n'&&tEq t t'
 | .map n l,.map n' l'=>Nat.beq n n'&&esEq l l'
 | _,_=>false
theorem zif:∀ {a b:Blk},cT a b=true->a≠.no->b=a:=by
 intro a b h hn
 cases a <;> cases b <;> first
  | exact (hn rfl).elim
  |(simp [cT] at h;done)
  |(simp only [cT,Zad] at h
    first
     |(obtain ⟨⟨h1,h2⟩,h3⟩:=h;rw [eq_of_beq h1,yI h2,zie h3])
     |(rw [yI h.1,zjz h.2]))
def zbx:T Blk->T Blk->Bool
 | .e,_=>true
 | .n l v r,.n l' v' r'=>cT v v'&&zbx l l'&&zbx r r'
 | .n ..,.e=>false
theorem zby:∀ {h h':T Blk},zbx h h'=true->∀ id,T.get .no id h≠.no->T.get .no id h'=T.get .no id h
 | .e,_,_,id,hn=>(hn (T.cu _ id)).elim
 | .n ..,.e,h,_,_=>by simp [zbx] at h
 | .n l v r,.n l' v' r',h,id,hn=>by
  simp only [zbx,Zad] at h;cases id with
  | z=>rw [T.zj0] at hn ⊢;rw [T.zj0];exact zif h.1.1 hn
  | l p=>rw [T.zc4] at hn ⊢;rw [T.zc4];exact zby h.1.2 p hn
  | r p=>rw [T.zc5] at hn ⊢;rw [T.zc5];exact zby h.2 p hn
def allEq (f:Nat->Out AV) (v:AV):List Nat->Bool
 | []=>true
 | i::l=>match f i with
  | .ok u=>bif oO u v then allEq f v l else false
  | .no _=>false
theorem zfx {f:Nat->Out AV} {v:AV}:∀ {l:List Nat},allEq f v l=true->∀ i∈l,f i=.ok v
 | [],_,i,hi=>by simp at hi
 | j::l,h,i,hi=>by
  simp only [allEq] at h;cases hf:f j with
  | no=>simp [hf] at h
  | ok u =>
   rw [hf] at h;cases hq:oO u v with
   | false=>simp [hq] at h
   | true =>
    simp [hq] at h;rcases List.mem_cons.1 hi with rfl | hi
    ·rw [hf,xF hq]
    ·exact zfx h i hi
def zot (L:List Nat) (f:Nat->Out AV):Out AV:=match L with
 | []=>.no 70
 | i::l=>match f i with
  | .ok v=>bif allEq f v l then .ok v else .no 71
  | .no n=>.no n
theorem zou {L:List Nat} {f:Nat->Out AV} {r:AV} (h:zot L f=.ok r):∀ i∈L,f i=.ok r:=by
 cases L with
 | nil=>cases h
 | cons i l =>
  simp only [zot] at h;cases hf:f i with
  | no=>simp [hf] at h
  | ok v =>
   rw [hf] at h;cases hq:allEq f v l with
   | false=>simp [hq] at h
   | true =>
    simp [hq] at h;subst h;intro j hj;rcases List.mem_cons.1 hj with rfl | hj
    ·exact hf
    ·exact zfx hq j hj
def letK (h:T Blk):Kw AV:=fun v h' _=>bif zbx h h' then (match fzB 20 h h' v with
 | some v'=>.ok v'
 | none=>.no 72) else .no 73
def wW (S:Nat->Bool) (J:Nat->List AV->T Blk->Option (AV×T Blk)) (fns:T (Option Fn)) (fuel:Nat) (n:Nat):Calls AV :=
 Nat.rec ⟨fun _ _ _ _ _ _=>.no 80,fun _ _ _ _ _=>.no 81,fun _ _=>.no 79⟩ (fun _ C=>⟨fun f p args h nx K=>Option.rec (motive:=fun _=>Out AV)
  (Bool.rec (zQ fns fuel C p args h nx K) (Out.rec (motive:=fun _=>Out AV) (fun v=>K v h nx) (fun n=>.no n) (zQ fns fuel C p args h nx (letK h))) (S f))
  (fun x=>Prod.rec (motive:=fun _=>Out AV) (fun v h=>K v h nx) x) (J f args h),kX fuel C,zot⟩) n
variable {P:Program} {B:Nat}
theorem bW {S:Nat->Bool} {J:Nat->List AV->T Blk->Option (AV×T Blk)} {fns:T (Option Fn)} (hT:zbc P fns) (hD:bF P B AV) (hJ:JOk P B J) (fuel:Nat):∀ n,COk P B (wW S J fns fuel n)
 | 0=>⟨fun _ _ hk=>(by cases hk),fun _ _ _ hk=>(by cases hk),fun _ _ _ hk=>(by cases hk)⟩
 | n+1=>by
  have ih:=bW (S:=S) hT hD hJ fuel n;refine ⟨fun {E h nx w f args vs K r} H hv hk => ?_,fun H hE hv hk=>pK ih (hD ih) H hE hv hk,fun _ _ _ hk=>zou hk⟩
  have hk:Option.rec (motive:=fun _=>Out AV)
   (Bool.rec (zQ fns fuel (wW S J fns fuel n) (.of f) args h nx K) (Out.rec (motive:=fun _=>Out AV) (fun v=>K v h nx) (fun n=>.no n) (zQ fns fuel (wW S J fns fuel n) (.of f) args h nx (letK h))) (S f))
   (fun x=>Prod.rec (motive:=fun _=>Out AV) (fun v h=>K v h nx) x) (J f args h)=.ok r:=hk
  cases hj:J f args h with
  | none =>
   rw [hj] at hk;cases hs:S f with
   | false=>rw [hs] at hk;exact vO hT ih (hD ih) H hv hk
   | true =>
    rw [hs] at hk;have hk:Out.rec (motive:=fun _=>Out AV) (fun v=>K v h nx) (fun n=>.no n) (zQ fns fuel (wW S J fns fuel n) (.of f) args h nx (letK h))=.ok r:=hk;cases hc:zQ fns fuel (wW S J fns fuel n) (.of f) args h nx (letK h) with
    | no m=>rw [hc] at hk;cases hk
    | ok v' =>
     rw [hc] at hk;have hk:K v' h nx=.ok r:=hk;obtain ⟨fn,h1,h2,h3,h4⟩:=vO hT ih (hD ih) H hv hc;refine ⟨fn,h1,h2,h3,fun n=>(h4 n).mono fun e w' he => ?_⟩
     cases e <;> first
      | exact he.elim
      |(obtain ⟨av,h',nx',E',k1,k2,k3,k4⟩:=he
        unfold letK at k1;cases hq:zbx h h' with
        | false=>simp [hq] at k1
        | true =>
         rw [hq,cond_true] at k1;cases hz:fzB 20 h h' av with
         | none=>simp [hz] at k1
         | some v2 =>
          simp [hz] at k1;subst k1;have hkp:qA h h':=zby hq;obtain ⟨r1,r2,_⟩:=pE H k3 k4 hkp;exact ⟨v2,h,nx,_,hk,zei H k3 k4 hkp (bS 20 hz) k2,r1,r2⟩)
  | some x =>
   obtain ⟨v,h2⟩:=x;rw [hj] at hk;obtain ⟨fn,h1,h2,h3,h4⟩:=hJ H hv hj;refine ⟨fn,h1,h2,h3,fun n=>(h4 n).mono fun e w' he => ?_⟩;obtain ⟨u,E',rfl,q1,q2,q3⟩:=he;exact ⟨v,_,nx,E',hk,q1,q2,q3⟩
theorem zem {S:Nat->Bool} {J:Nat->List AV->T Blk->Option (AV×T Blk)} {fns:T (Option Fn)} (hT:zbc P fns) (hm:P.follows .mixedOrders=true) (hJ:∀ B,JOk P B J) {fuel n f:Nat} {args:List AV} {r:AV} (ha:nns args=true) (hk:(wW S J fns fuel n).fn f (.of f) args .e .z endK=.ok r) :
  Pure P B f args (· = r):=zlf (fun B=>bW hT (zbq hm) (hJ B) fuel n) ha hk
end Go.Ev
namespace Go.Ev
open Go Classical
variable {P:Program}
def zfy (tab:Nat->List (List AV×AV)) (J:Nat->List AV->T Blk->Option (AV×T Blk)) (f:Nat) (args:List AV) (h:T Blk):Option (AV×T Blk):=match (tab f).find? (fun e=>xE e.1 args) with
 | some e=>some (e.2,h)
 | none=>J f args h
def qU (P:Program) (f:Nat) (l:List (List AV×AV)):Prop:=∀ e∈l,∀ B,Pure P B f e.1 (· = e.2)
theorem zj1 {tab:Nat->List (List AV×AV)} {J:Nat->List AV->T Blk->Option (AV×T Blk)} {B:Nat} (hm:∀ f,qU P f (tab f)) (hJ:JOk P B J):JOk P B (zfy tab J):=by
 intro E h nx w f args vs v h2 H hv hj;unfold zfy at hj;split at hj
 case h_2=>exact hJ H hv hj
 rename_i e he;cases hj
 have hq:=List.find?_some he;have hin:=List.mem_of_find?_eq_some he;have ea:e.1=args:=kY hq;have hc:=hm f e hin B .z h nx (fun v h2 nx2=>if v=e.2/\h2=h/\nx2=nx then .ok True else .no 0) (fun v hv _=>if_pos ⟨hv,rfl,rfl⟩);rw [ea,tJ] at hc;obtain ⟨fn,h1,h2,h3,h4⟩:=hc.1 _ w vs H hv;refine ⟨fn,h1,h2,h3,fun n=>(h4 n).mono fun e' w' he' => ?_⟩
 cases e' <;> first
  | exact he'.elim
  |(obtain ⟨av,h2,nx',E1,k1,k2,k3,k4⟩:=he'
    have k1':(if av=e.2/\h2=h/\nx'=nx then (Out.ok True:Out Prop) else .no 0)=.ok True:=k1;split at k1'
    ·rename_i hh;obtain ⟨rfl,rfl,rfl⟩:=hh;exact ⟨_,E1,rfl,k2,k3,k4⟩
    ·cases k1')
end Go.Ev
namespace Go.Ev
open Go
variable {P:Program} {B:Nat}
def endG:Kw AV:=fun v h _=>match fzB 20 .e h v with
 | some v'=>.ok v'
 | none=>.no 1
theorem zih {C:Calls AV} (hC:∀ B,COk P B C) {f:Nat} {args:List AV} {r:AV} (ha:nns args=true) (hk:C.fn f (.of f) args .e .z endG=.ok r) :
  Pure P B f args (· = r):=by
 intro p h nx K hK;rw [tJ];refine ⟨fun E w vs H hv => ?_,rfl⟩
 have Hc:HR P w.heap.size ⟨fun _=>none,E.fz,E.lay⟩ .e .z w:={
  blk:=fun id hid=>hid.elim (T.cu _ id)
  inj:=fun id id' b n n' h1=>(h1 (T.cu _ id)).elim
  fresh:=fun _ _=>rfl
  lt:=fun id b n hid=>by cases hid
  base:=Zai _
  frz:=fun b i v hf=>⟨(H.frz b i v hf).1,fun id n hid=>by cases hid⟩ }
 obtain ⟨fn,h1,h2,h3,h4⟩:=(hC w.heap.size).fn Hc (VRL.nn (E:=E) (E':=⟨fun _=>none,E.fz,E.lay⟩) (fun _ _ _ q=>q) _ ha hv) hk;refine ⟨fn,h1,h2,h3,fun n=>(h4 n).mono fun e w' he => ?_⟩
 cases e <;> first
  | exact he.elim
  |(obtain ⟨av,h',nx',E1,k1,k2,k3,k4⟩:=he
    have hkeep:∀ b,b<w.heap.size->w'.heap[b]? = w.heap[b]? := fun b hb=>k4.keep b hb fun id n hid=>by cases hid
    have hnew:∀ b i v,E1.fz b i=some v->w.heap.size<=b\/∃ v',E.fz b i=some v':=fun b i v hf=>by
     rcases k4.fzn b i v hf with q | q | ⟨id,n,q⟩
     ·exact .inl q
     ·exact .inr q
     ·cases q
    have H':HR P B ⟨E.nm,E1.fz,E1.lay⟩ h nx w':={
     blk:=fun id hid=>by
      obtain ⟨b,n,o,q1,q2,q3⟩:=H.blk id hid;refine ⟨b,n,o,q1,by rw [hkeep b (H.lt _ _ _ q1).2];exact q2,?_⟩;exact BR.mono (E:=E) (E':=⟨E.nm,E1.fz,E1.lay⟩) ⟨fun _ _ q=>q,fun b i v q=>k4.le.fz b i v q⟩ q3
     inj:=H.inj
     fresh:=H.fresh
     lt:=fun id b n hid=>⟨(H.lt id b n hid).1,Zcn (H.lt id b n hid).2 k4.size⟩
     base:=Zbt H.base k4.size
     frz:=fun b i v hf=>by
      refine ⟨(k3.frz b i v hf).1,fun id n hid => ?_⟩;rcases hnew b i v hf with q | ⟨v',q⟩
      ·have:=(H.lt id b n hid).2;omega
      ·exact (H.frz b i v' q).2 id n hid }
    have X':Ex E ⟨E.nm,E1.fz,E1.lay⟩ w w':=⟨⟨fun _ _ q=>q,fun b i v q=>k4.le.fz b i v q⟩,k4.os,k4.tape,k4.output,k4.size,fun b hb _=>hkeep b hb,fun id b n hid=>.inr ⟨id,n,hid⟩,fun b i v hf=>(hnew b i v hf).imp_right .inl,k4.loop⟩;obtain ⟨r1,r2,r3⟩:=pE H H' X' (fun _ _=>rfl);have hz:fzB 20 .e h' av=some r:=by
     unfold endG at k1;cases hq:fzB 20 .e h' av with
     | none=>simp [hq] at k1
     | some v'=>simp [hq] at k1;rw [k1]
    refine ⟨r,h,nx,_,hK r rfl H.fr,d7 k3 (fun _=>r3) (fun id b n _ _ hE=>⟨fun ho => ?_,.inl ?_⟩) (fun v vv ho => ?_) (bS 20 hz) k2,r1,r2⟩
    ·obtain ⟨id0,n0,q1,_⟩:=ho;have hb:=(H.lt _ _ _ q1).2;rcases k4.new id b n hE with hge | ⟨_,_,q⟩
     ·omega
     ·cases q
    ·rcases k4.new id b n hE with hge | ⟨_,_,q⟩
     ·exact hge
     ·cases q
    ·rcases ho with ⟨id,off,_,hid⟩ | ⟨id,_,hid⟩ | ⟨id,_,hid⟩ | ⟨id,off,ln,cap,esz,_,hid⟩ <;> exact (hid (T.cu _ id)).elim)
theorem jQ {S:Nat->Bool} {J:Nat->List AV->T Blk->Option (AV×T Blk)} {fns:T (Option Fn)} (hT:zbc P fns) (hm:P.follows .mixedOrders=true) (hJ:∀ B,JOk P B J) {fuel n f:Nat} {args:List AV} {r:AV} (ha:nns args=true) (hk:(wW S J fns fuel n).fn f (.of f) args .e .z endG=.ok r) :
  Pure P B f args (· = r):=zih (fun B=>bW hT (zbq hm) (hJ B) fuel n) ha hk
end Go.Ev
namespace Go.Ev
open Go
variable {P:Program}
def zwi (P:Program) (f:Nat) (args:List AV) (r:AV):Prop :=
 ∀ (B:Nat) (K:Kw Prop),(∀ v h' nx',Frz False (fun _=>True) (fun _=>False) h' v r->K v h' nx'=.ok True)->(CS P B).fn f (.of f) args .e .z K=.ok True
theorem zii {B:Nat} {E:Env} {f:Nat} {args args':List AV} {h:T Blk} {nx:Pa} {w:World} {vs:Array Value} {r:AV} (H:HR P B E h nx w) (hv:VRL E args vs.toList) (hF:FrzL .e h args args') (hn:nns args'=true) (hq:zwi P f args' r):zom P B E nx w f vs r h:=by
 classical
 have hke:qA .e h:=fun id hid=>(hid (T.cu _ id)).elim;have H0:=H.zjw hke;obtain ⟨r1,r2,r3⟩:=pE H0 H (Ex.refl E w) hke
 have r1':HR P w.heap.size ⟨fun _=>none,(E.fix .e w E w).fz,(E.fix .e w E w).lay⟩ .e .z w:={
  blk:=fun id hid=>hid.elim (T.cu _ id)
  inj:=fun id id' b n n' h1=>(h1 (T.cu _ id)).elim
  fresh:=fun _ _=>rfl
  lt:=fun id b n hid=>by cases hid
  base:=Zai _
  frz:=fun b i v hf=>⟨(r1.frz b i v hf).1,fun id n hid=>by cases hid⟩ }
 have hv':=VRL.nn (E:=E.fix .e w E w) (E':=⟨fun _=>none,(E.fix .e w E w).fz,(E.fix .e w E w).lay⟩) (fun _ _ _ q=>q) _ hn (cQ H0 H (Ex.refl E w) hke hF hv);have hc:=hq w.heap.size (fun v h' _=>if Frz False (fun _=>True) (fun _=>False) h' v r then .ok True else .no 0) (fun v h' _ hv=>if_pos hv);rw [tJ] at hc;obtain ⟨fn,h1,h2,h3,h4⟩:=hc.1 _ w vs r1' hv';refine ⟨fn,h1,h2,h3,fun n=>(h4 n).mono fun e w' he => ?_⟩
 cases e <;> first
  | exact he.elim
  |(obtain ⟨av,h',nx',E1,k1,k2,k3,k4⟩:=he
    have hQ:Frz False (fun _=>True) (fun _=>False) h' av r:=by
     by_cases hq:Frz False (fun _=>True) (fun _=>False) h' av r
     ·exact hq
     ·have k1':(if Frz False (fun _=>True) (fun _=>False) h' av r then (Out.ok True:Out Prop) else .no 0)=.ok True:=k1;rw [if_neg hq] at k1';cases k1'
    have hkeep:∀ b,b<w.heap.size->w'.heap[b]? = w.heap[b]? := fun b hb=>k4.keep b hb fun id n hid=>by cases hid
    have H':HR P B E h nx w':={
     blk:=fun id hid=>by
      obtain ⟨b,n,o,q1,q2,q3⟩:=H.blk id hid;exact ⟨b,n,o,q1,by rw [hkeep b (H.lt _ _ _ q1).2];exact q2,q3⟩
     inj:=H.inj
     fresh:=H.fresh
     lt:=fun id b n hid=>⟨(H.lt id b n hid).1,Zcn (H.lt id b n hid).2 k4.size⟩
     base:=Zbt H.base k4.size
     frz:=fun b i v hf=>by
      obtain ⟨⟨c,ty,fr,q1,q2⟩,q3⟩:=H.frz b i v hf;exact ⟨⟨c,ty,fr,by rw [hkeep b (Array.getElem?_eq_some_iff.1 q1).1];exact q1,q2⟩,q3⟩ }
    have X':Ex E E w w':=⟨.refl _,k4.os,k4.tape,k4.output,k4.size,fun b hb _=>hkeep b hb,fun id b n hid=>.inr ⟨id,n,hid⟩,fun _ _ v h=>.inr (.inl ⟨v,h⟩),k4.loop⟩;obtain ⟨s1,s2,_⟩:=pE H H' X' (fun _ _=>rfl);refine ⟨_,_,rfl,d7 (A:=False) (N:=fun _=>True) (O:=fun _=>False) k3 (fun q=>q.elim) (fun id b n _ _ hE=>⟨fun ho => ?_,.inl ?_⟩) (fun _ _ q=>q.elim) hQ k2,s1,s2⟩
    ·obtain ⟨id0,n0,q1,_⟩:=ho;have hb:=(H.lt _ _ _ q1).2;rcases k4.new id b n hE with hge | ⟨_,_,q⟩
     ·omega
     ·cases q
    ·rcases k4.new id b n hE with hge | ⟨_,_,q⟩
     ·exact hge
     ·cases q)
inductive MK where
 | lett | plain | neww
def MKok (P:Program) (f:Nat) (e:List AV×AV×MK):Prop:=nns e.1=true/\match e.2.2 with
 | .lett=>∀ B,Pure P B f e.1 (· = e.2.1)
 | .plain=>(∀ B,Pure P B f e.1 (· = e.2.1))/\Plain e.2.1
 | .neww=>zwi P f e.1 e.2.1
def zov (tab:Nat->List (List AV×AV×MK)) (J:Nat->List AV->T Blk->Option (AV×T Blk)) (f:Nat) (args:List AV) (h:T Blk):Option (AV×T Blk):=match tab f with
 | []=>J f args h
 | e0::es=>match args.mapM (fzB 20 .e h) with
  | some a=>match (e0::es).find? (fun e=>xE e.1 a) with
   | some e=>(match e.2.2 with
    | .lett=>some (e.2.1,.e)
    | _=>some (e.2.1,h))
   | none=>J f args h
  | none=>J f args h
theorem zow {tab:Nat->List (List AV×AV×MK)} {J:Nat->List AV->T Blk->Option (AV×T Blk)} {B:Nat} (hm:∀ f,∀ e∈tab f,MKok P f e) (hJ:JOk P B J):JOk P B (zov tab J):=by
 intro E h nx w f args vs v h2 H hv hj;unfold zov at hj;split at hj
 ·exact hJ H hv hj
 rename_i e0 es he0;split at hj
 case h_2=>exact hJ H hv hj
 rename_i a ha;split at hj
 case h_2=>exact hJ H hv hj
 rename_i e he;have hq:=List.find?_some he;have hin:=List.mem_of_find?_eq_some he;have ea:e.1=a:=kY hq;obtain ⟨hnn,hk⟩:=hm f e (by rw [he0];exact hin);have hF:=zfu ha;rw [<- ea] at hF;have hke:qA .e h:=fun id hid=>(hid (T.cu _ id)).elim;obtain ⟨a1,r,m⟩:=e;cases m with
 | lett =>
  cases hj
  exact ztr H hv hke hF (hk B)
 | plain =>
  cases hj
  exact zlg H hv hF hnn hk.1 hk.2
 | neww =>
  cases hj
  exact zii H hv hF hnn hk
end Go.Ev
namespace Go.Ev
open Go
abbrev KTm:=Tm->T Blk->Pa->OP
section
variable {C:Calls Prop} {N:Nat} {O:yu Prop} {K:Ks Prop}
theorem zC (a b:IR) (tm:T AV) (h:T Blk) (nx:Pa):IR.run (.seq a b) C N O K tm h nx=IR.run a C N O (IR.run b C N O K) tm h nx:=rfl
theorem qL (l:List RO) (tm:T AV) (h:T Blk) (nx:Pa):IR.run (.reg l) C N O K tm h nx=yR l C ⟨tm,[]⟩ h nx (fun tm h nx=>K tm.v h nx):=rfl
theorem yA (c:Arg) (a b:IR) (tm:T AV) (h:T Blk) (nx:Pa):IR.run (.cond c a b) C N O K tm h nx=zX (c.ev ⟨tm,[]⟩) (IR.run a C N O K tm h nx) (IR.run b C N O K tm h nx):=rfl
theorem yH (tm:T AV) (h:T Blk) (nx:Pa):IR.run .skip C N O K tm h nx=K tm h nx:=rfl
theorem qG (i:Nat) (tm:T AV) (h:T Blk) (nx:Pa):IR.run (.exit i) C N O K tm h nx=O.ex i tm h nx:=rfl
theorem yB (tm:T AV) (h:T Blk) (nx:Pa):IR.run .ret C N O K tm h nx=O.rt tm h nx:=rfl
end
theorem vX (want:Bool) (op:(AV->OP)->OP) {K:AV->OP}:sG .u want op K=K .u:=nr rfl
end Go.Ev
