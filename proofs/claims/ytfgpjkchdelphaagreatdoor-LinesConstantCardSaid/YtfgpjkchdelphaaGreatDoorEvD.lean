import Derived.Test.YtfgpjkchdelphaaGreatDoorEvC
import Derived.Laws.Externs
import Derived.Shelf.Spec.BitsCarry
set_option linter.unusedSimpArgs false
set_option linter.unusedVariables false
noncomputable section
namespace Go.Ev
open Go
def uy (o:Option Pa) (e n:Nat):AV:=match o with
 | none=>.za
 | some id=>.sl id 0 n none e
def cellV (o:Option Pa) (n:Nat):AV:=match o with
 | none=>.za
 | some id=>.sl id 0 n (some n) 1
inductive Ob where
 | arr (id:Pa) (l:List AV)
 | row (o:Option Pa) (e n:Nat) (l:List AV)
 | tab (id:Pa) (rs:List (Option Pa)) (ll:List (List AV))
 | gro (o:Option Pa) (e n:Nat) (l:List AV)
 | map (id:Pa) (l:List (AV×AV))
 | iter (id mid:Pa) (n:Nat) (seen:List Nat) (c:Nat)
 | raw (id:Pa) (b:Blk)
def Ob.names:Ob->List Pa
 | .arr id _=>[id]
 | .row o _ _ _=>o.toList
 | .tab id rs _=>id::rs.filterMap (λo=>o)
 | .gro o _ _ _=>o.toList
 | .map id _=>[id]
 | .iter id _ _ _ _=>[id]
 | .raw id _=>[id]
def qi (h:T Blk) (id:Pa) (l:List AV):Prop:=∃ op t,T.get .no id h=.cells op l.length t/\yU t 0 l.length=l
def zph (rs:List (Option Pa)) (ll:List (List AV)):List AV:=List.zipWith (λo l=>cellV o (List.length l)) rs ll
def Ob.holds (h:T Blk):Ob->Prop
 | .arr id l=>qi h id l
 | .row o e n l=>match o with
  | none=>l=[]/\n=0
  | some id=>∃ m t,T.get .no id h=.cells true m t/\l.length=n*e/\n*e<=m/\e∣m/\yU t 0 (n*e)=l
 | .tab id rs ll=>qi h id (zph rs ll)/\rs.length=ll.length/\(∀ (i:Nat) (r:Pa),rs[i]? = some (some r)->∃ l,ll[i]? = some l/\qi h r l)/\∀ (i:Nat) l,rs[i]? = some none->ll[i]? = some l->l=[]
 | .gro o e n l=>match o with
  | none=>l=[]/\n=0
  | some id=>∃ t,T.get .no id h=.cells true (n*e) t/\l.length=n*e/\yU t 0 (n*e)=l
 | .map id l=>T.get .no id h=.map l.length l
 | .iter id mid n seen c=>T.get .no id h=.iter mid n seen c
 | .raw id b=>T.get .no id h=b/\b≠.no
theorem qi.congr {h h':T Blk} {id:Pa} {l:List AV} (H:qi h id l) (e:T.get .no id h'=T.get .no id h):qi h' id l:=by
 obtain ⟨op,t,h1,h2⟩:=H;exact ⟨op,t,by rw [e];exact h1,h2⟩
theorem Ob.holds.congr {h h':T Blk}:∀ {x:Ob},x.holds h->(∀ n∈x.names,T.get .no n h'=T.get .no n h)->x.holds h'
 | .arr id l,H,e=>qi.congr H (e id (by simp [Ob.names]))
 | .row none _ _ l,H,_=>H
 | .row (some id) _ _ l,H,e=>by
  obtain ⟨m,t,h1,h2⟩:=H;exact ⟨m,t,by rw [e id (by simp [Ob.names])];exact h1,h2⟩
 | .tab id rs ll,H,e=>by
  obtain ⟨h1,h2,h3,h4⟩:=H;refine ⟨h1.congr (e id (by simp [Ob.names])),h2,λi r hr => ?_,h4⟩;obtain ⟨l,q1,q2⟩:=h3 i r hr;exact ⟨l,q1,q2.congr (e r (by simp [Ob.names];exact .inr (Zad hr)))⟩
 | .gro none _ _ l,H,_=>H
 | .gro (some id) _ _ l,H,e=>by
  obtain ⟨t,h1,h2⟩:=H;exact ⟨t,by rw [e id (by simp [Ob.names])];exact h1,h2⟩
 | .map id l,H,e=>(e id (by simp [Ob.names])).trans H
 | .iter id _ _ _ _,H,e=>(e id (by simp [Ob.names])).trans H
 | .raw id _,H,e=>⟨(e id (by simp [Ob.names])).trans H.1,H.2⟩
theorem Ob.holds.live {h:T Blk}:∀ {x:Ob},x.holds h->∀ n∈x.names,T.get .no n h≠.no
 | .arr id l,⟨op,t,h1,_⟩,n,hn=>by
  simp [Ob.names] at hn;subst hn;rw [h1];intro e;cases e
 | .row none _ _ l,H,n,hn=>by simp [Ob.names] at hn
 | .row (some id) _ _ l,⟨m,t,h1,h2⟩,n,hn=>by
  simp [Ob.names] at hn;subst hn;rw [h1];intro e;cases e
 | .tab id rs ll,⟨⟨op,t,h1,_⟩,h2,h3,h4⟩,n,hn=>by
  simp [Ob.names] at hn;rcases hn with rfl | hn
  .rw [h1];intro e;cases e
  .obtain ⟨i,hi⟩:=List.mem_iff_getElem?.1 hn;obtain ⟨l,_,op,t,q,_⟩:=h3 i n hi;rw [q];intro e;cases e
 | .gro none _ _ l,H,n,hn=>by simp [Ob.names] at hn
 | .gro (some id) _ _ l,⟨t,h1,h2⟩,n,hn=>by
  simp [Ob.names] at hn;subst hn;rw [h1];intro e;cases e
 | .map id l,H,n,hn=>by
  simp [Ob.names] at hn;subst hn;have H:T.get .no n h=.map l.length l:=H;rw [H];intro e;cases e
 | .iter id mid k seen c,H,n,hn=>by
  simp [Ob.names] at hn;subst hn;have H:T.get .no n h=.iter mid k seen c:=H;rw [H];intro e;cases e
 | .raw id b,⟨h1,h2⟩,n,hn=>by
  simp [Ob.names] at hn;subst hn;rw [h1];exact h2
structure Hp (h0 h:T Blk) (nx:Pa) (L:List Ob):Prop where
 keep:kO h0 h
 own:∀ x∈L,x.holds h
 off:∀ n∈L.flatMap Ob.names,T.get .no n h0=.no
 nd:(L.flatMap Ob.names).Nodup
 fr:Fr h nx
variable {h0 h h':T Blk} {nx:Pa} {L L':List Ob} {K:KW3} {k i n c:Nat} {id:Pa} {l:List AV} {v:AV}
theorem Hp.init (hf:Fr h nx):Hp h h nx []:=⟨λ_ _=>rfl,by simp,by simp,by simp,hf⟩
theorem Hp.cast (H:Hp h0 h nx L) (e:L=L'):Hp h0 h nx L':=e ▸ H
theorem Hp.drop {x:Ob} (H:Hp h0 h nx (x::L)):Hp h0 h nx L:=⟨H.keep,λy hy=>H.own y (Zao _ hy),λn hn=>H.off n (by rw [Zdc];exact Zdy _ hn),
 by have:=H.nd;rw [Zdc] at this;exact (List.nodup_append.1 this).2.1,H.fr⟩
theorem Hp.perm (H:Hp h0 h nx L) (hp:L.Perm L'):Hp h0 h nx L':=⟨H.keep,λx hx=>H.own x (hp.mem_iff.2 hx),λn hn=>H.off n ((hp.flatMap_right Ob.names).mem_iff.2 hn),(hp.flatMap_right Ob.names).nodup_iff.1 H.nd,H.fr⟩
theorem Hp.lt (H:Hp h0 h nx L) {x:Ob} (hx:x∈L) {m:Pa} (hm:m∈x.names):m≠nx:=by
 rintro rfl;exact (H.own x hx).live _ hm (H.fr _ (Zaf _))
theorem Hp.zpi (H:Hp h0 h nx L):T.get .no nx h0=.no:=by
 by_cases e:T.get .no nx h0=.no
 .exact e
 .have:=H.keep nx e;rw [H.fr nx (Zaf _)] at this;exact this.symm
theorem Hp.new (H:Hp h0 h nx L) {b:Blk} {x:Ob} (hn:x.names=[nx]) (hx:∀ h',T.get .no nx h'=b->x.holds h'):Hp h0 (T.set .no b nx h) nx.succ (x::L):=by
 have other:∀ j,j≠nx->T.get .no j (T.set .no b nx h)=T.get .no j h:=λj hj=>T.zw _ _ _ _ _ hj;refine ⟨λj hj => ?_,λy hy => ?_,λm hm => ?_,?_,λj hj => ?_⟩
 .rw [other j (by rintro rfl;exact hj H.zpi)];exact H.keep j hj
 .rcases List.mem_cons.1 hy with rfl | hy
  .exact hx _ (T.get_set_same _ _ _ _)
  .exact (H.own y hy).congr λm hm=>other m (H.lt hy hm)
 .rw [Zdc,hn] at hm;rcases List.mem_append.1 hm with hm | hm
  .rw [List.mem_singleton.1 hm];exact H.zpi
  .exact H.off m hm
 .rw [Zdc,hn];refine List.nodup_append.2 ⟨by simp,H.nd,?_⟩;rintro a ha b hb rfl;rw [List.mem_singleton.1 ha] at hb;obtain ⟨y,hy,hb⟩:=List.mem_flatMap.1 hb;exact H.lt hy hb rfl
 .rw [Pa.ah] at hj;rw [other j (by rintro rfl;omega)];exact H.fr j (by omega)
theorem Hp.upd (H:Hp h0 h nx L) {b:Blk} {x x':Ob} (hk:L[k]? = some x) (hm:id∈x.names) (hn:x'.names=x.names) (hx:x'.holds (T.set .no b id h)):Hp h0 (T.set .no b id h) nx (L.set k x'):=by
 have hkl:=(List.getElem?_eq_some_iff.1 hk).1;have hxm:=Zad hk;have other:∀ j,j≠id->T.get .no j (T.set .no b id h)=T.get .no j h:=λj hj=>T.zw _ _ _ _ _ hj;have hid:T.get .no id h0=.no:=H.off id (List.mem_flatMap.2 ⟨x,hxm,hm⟩);have hL:L=L.take k++x::L.drop (k+1):=by
  rw [List.getElem?_eq_getElem hkl] at hk;rw [<- Option.some.inj hk];simp
 have hS:L.set k x'=L.take k++x'::L.drop (k+1):=by rw [Zdk,if_pos hkl]
 have hfl:(L.set k x').flatMap Ob.names=L.flatMap Ob.names:=by
  conv=>rhs;rw [hL]
  rw [hS];simp [hn]
 have hnd:=H.nd;rw [hL] at hnd;simp only [List.flatMap_append,Zdc] at hnd;have hnot:∀ y,y∈L.take k\/y∈L.drop (k+1)->id∉y.names:=by
  intro y hy hi;rcases hy with hy | hy
  .exact (List.nodup_append.1 hnd).2.2 id (List.mem_flatMap.2 ⟨y,hy,hi⟩) id (Zdf _ hm) rfl
  .exact (List.nodup_append.1 (List.nodup_append.1 hnd).2.1).2.2 id hm id (List.mem_flatMap.2 ⟨y,hy,hi⟩) rfl
 refine ⟨λj hj => ?_,λy hy => ?_,?_,by rw [hfl];exact H.nd,λj hj => ?_⟩
 .rw [other j (by rintro rfl;exact hj hid)];exact H.keep j hj
 .rw [hS] at hy;have step:∀ y,y∈L.take k\/y∈L.drop (k+1)->y.holds (T.set .no b id h):=λy hy =>
   (H.own y (by rw [hL];rcases hy with hy | hy <;> simp [hy])).congr λm hm'=>other m (by rintro rfl;exact hnot y hy hm')
  rcases List.mem_append.1 hy with hy | hy
  .exact step y (.inl hy)
  .rcases List.mem_cons.1 hy with rfl | hy
   .exact hx
   .exact step y (.inr hy)
 .rw [hfl];exact H.off
 .rw [other j (by rintro rfl;exact (H.own x hxm).live _ hm (H.fr _ hj))];exact H.fr j hj
theorem qY (l:List AV):yU (gO l .e 0) 0 l.length=l:=by
 have:=dX .e [] l 0 rfl;simpa using this
theorem Hp.zeh (H:Hp h0 h nx L) (op:Bool) (l:List AV):Hp h0 (T.set .no (.cells op l.length (gO l .e 0)) nx h) nx.succ (.arr nx l::L) :=
 H.new rfl λh' e=>⟨op,_,e,qY l⟩
theorem Hp.box (H:Hp h0 h nx L) (hv:v.cells=some l) (hK:∀ id h' nx',Hp h0 h' nx' (.arr id l::L)->K (.ptr id 0) h' nx'=.ok True):wz v h nx K=.ok True:=by
 unfold wz;rw [hv];show yX false l h nx _=_;rw [yM];exact hK _ _ _ (H.zeh false l)
theorem Hp.alloc (H:Hp h0 h nx L) (hK:∀ id h' nx',Hp h0 h' nx' (.arr id l::L)->K (.ptr id 0) h' nx'=.ok True):yN l h nx K=.ok True:=by
 unfold yN;rw [yM];exact hK _ _ _ (H.zeh false l)
theorem Hp.cu {esz n:Nat} {zero:List AV} {ps:List (Nat×Nat×AV)} (H:Hp h0 h nx L) (hf:gL (nW n zero) ps=some l) (hK:∀ id h' nx',Hp h0 h' nx' (.arr id l::L)->K (.sl id 0 n (some n) esz) h' nx'=.ok True):jI esz n zero ps h nx K=.ok True:=by
 unfold jI;rw [hf];show yX false l h nx _=_;rw [yM];exact hK _ _ _ (H.zeh false l)
theorem zpj (n:Nat) (z:AV):nW n [z]=List.replicate n z:=by
 induction n with
 | zero=>rfl
 | succ n ih=>show [z]++nW n [z]=_;rw [ih];rfl
theorem Hp.mkN {kl kc:IntKind} {esz bytes:Nat} {zero:List AV} {x y:Int} (H:Hp h0 h nx L) (hx:x=(n:Int)) (hy:y=(c:Int)) (h1:n<=c) (h2:c<=1000000) (h3:bytes*c<=281474976710656)
  (hK:∀ id h' nx',Hp h0 h' nx' (.arr id (nW c zero)::L)->K (.sl id 0 n (some c) esz) h' nx'=.ok True):xJ esz bytes zero (.int kl x) (.int kc y) h nx K=.ok True:=by
 subst hx;subst hy;show (bif Nat.ble n c&&Nat.ble c 1000000&&Nat.ble (bytes*c) 281474976710656 then yX false (nW c zero) h nx (λid h' nx'=>K (.sl id 0 n (some c) esz) h' nx') else Out.no 41)=_;rw [Zag h1,Zag h2,Zag h3];simp only [Zgr,cond_true];rw [yM];exact hK _ _ _ (H.zeh false _)
theorem Hp.mk1 {kl kc:IntKind} {bytes:Nat} {z:AV} {x y:Int} (n:Nat) (H:Hp h0 h nx L) (hx:x=(n:Int)) (hy:y=(n:Int)) (h2:n<=1000000) (h3:bytes<=281474976)
  (hK:∀ id h' nx',Hp h0 h' nx' (.arr id (List.replicate n z)::L)->K (.sl id 0 n (some n) 1) h' nx'=.ok True):xJ 1 bytes [z] (.int kl x) (.int kc y) h nx K=.ok True :=
 H.mkN hx hy (Zaf _) h2 (by have:=Zbk h3 h2;omega) (by rw [zpj];exact hK)
theorem qi.load {op:AV->OP} (H:qi h id l) (hi:l[i]? = some v):zI (.ptr id i) h op=op v:=by
 obtain ⟨o,t,h1,h2⟩:=H;have hil:=(List.getElem?_eq_some_iff.1 hi).1;rw [zc0 h1 hil];have:=yK t 0 l.length i hil;rw [h2,hi,Zbl] at this;rw [Option.some.inj this]
theorem Hp.load {op:AV->OP} (H:Hp h0 h nx L) (hk:L[k]? = some (.arr id l)) (hi:l[i]? = some v):zI (.ptr id i) h op=op v :=
 qi.load (H.own _ (Zad hk)) hi
theorem zbh (t:T AV) (l:List AV) (i:Nat) (hi:i<l.length) (v:AV) (h:yU t 0 l.length=l):yU (T.set .u v (.of i) t) 0 l.length=l.set i v:=by
 apply Zca;intro j;by_cases hj:j<l.length
 .rw [yK _ _ _ _ hj,Zbl,T.zbi,List.getElem?_set];by_cases e:j=i
  .subst e;simp [hj]
  .rw [if_neg e,if_neg (λq=>e q.symm)];have:=yK t 0 l.length j hj;rw [h,Zbl] at this;exact this.symm
 .rw [List.getElem?_eq_none (by simp;omega),List.getElem?_eq_none (by simp;omega)]
theorem qi.set {op:Bool} {t:T AV} (h1:T.get .no id h=.cells op l.length t) (h2:yU t 0 l.length=l) (hi:i<l.length):qi (T.set .no (.cells op l.length (T.set .u v (.of i) t)) id h) id (l.set i v) :=
 ⟨op,T.set .u v (.of i) t,by rw [T.get_set_same,Zan],by rw [Zan];exact zbh t l i hi v h2⟩
theorem Hp.store (H:Hp h0 h nx L) (hk:L[k]? = some (.arr id l)) (hi:i<l.length) (hv:v.cells=some [v]) (hK:∀ h',Hp h0 h' nx (L.set k (.arr id (l.set i v)))->K .u h' nx=.ok True):zX 1 (.ptr id i) v h nx K=.ok True:=by
 obtain ⟨o,t,h1,h2⟩:qi h id l:=H.own _ (Zad hk);rw [zbg h1 hi hv];exact hK _ (H.upd hk (by simp [Ob.names]) rfl (qi.set h1 h2 hi))
theorem Hp.app {esz bytes:Nat} {o:Option Pa} {x:AV} {new:List AV} (H:Hp h0 h nx L) (hk:L[k]? = some (.row o esz n l)) (hx:∀ (no:OP) (K':List AV->Nat->OP),wX x h no K'=K' new 1) (hne:new.length=esz) (hs:new.all uz=true)
  (he:1<=esz) (hb:bytes*1000000<=70368744177664) (hlim:l.length+1<=1000000) (hK:∀ o' h' nx',Hp h0 h' nx' (L.set k (.row o' esz (n+1) (l++new)))->K (uy o' esz (n+1)) h' nx'=.ok True) :
  sZ esz bytes (uy o esz n) x h nx K=.ok True:=by
 have hc:(Nat.ble (bytes*1000000) 70368744177664&&Nat.beq new.length (1*esz)&&Nat.ble 1 esz&&new.all uz)=true:=by
  simp only [Zak,hs,and_true];exact ⟨⟨Zag hb,by rw [hne,Zcv];exact Zbv _⟩,Zag he⟩
 unfold sZ appA;rw [hx,hc,cond_true];have hkl:=(List.getElem?_eq_some_iff.1 hk).1;have hmem:=Zad hk;have hL:L=L.take k++.row o esz n l::L.drop (k+1):=by
  have hk:=hk;rw [List.getElem?_eq_getElem hkl] at hk;rw [<- Option.some.inj hk];simp
 have hS:∀ x',L.set k x'=L.take k++x'::L.drop (k+1):=λx'=>by rw [Zdk,if_pos hkl]
 have zkj:∀ x',(x'::(L.take k++L.drop (k+1))).Perm (L.set k x'):=λx'=>by
  rw [hS];exact (Zdu).symm
 have front:L.Perm (.row o esz n l::(L.take k++L.drop (k+1))):=by
  conv=>lhs;rw [hL]
  exact Zdu
 have own:=H.own _ hmem;cases o with
 | none =>
  obtain ⟨rfl,rfl⟩:=own;show (bif Nat.beq 1 0 then K .za h nx else bif Nat.ble 1 1000000 then yX true new h nx (λid h' nx'=>K (.sl id 0 1 none esz) h' nx') else .no 31)=_;rw [yM];refine hK (some nx) _ _ ?_;refine Hp.perm (Hp.new ((H.perm front).drop) (x:=.row (some nx) esz 1 ([]++new)) rfl λh' e => ?_) (zkj _);refine ⟨new.length,_,e,by simp [hne],by omega,by rw [hne];exact Nat.dvd_refl _,?_⟩;have:=qY new;rw [hne] at this;simpa using this
 | some id =>
  obtain ⟨m,t,hb,hl,hm,hd,hrd⟩:=own;have hn:n+1<=1000000:=by
   have:n<=n*esz:=Nat.le_mul_of_pos_right _ he;omega
  by_cases hroom:(n+1)*esz<=m
  .show (bif Nat.beq esz esz&&Nat.ble (n+1) 1000000 then qc (T.get .no id h) _ (.no 35) else .no 36)=_;rw [hb,Zbv,Zag hn];show (bif Nat.ble (0+n*esz) m then (bif Nat.ble (0+(n+1)*esz) m then wJ id 0 n none esz true m t new 1 h nx K else _) else _)=_;rw [Zag (by omega),Zag (by omega)];show gZ new t (0+n*esz) _=_;rw [jL,T.gy,y3,Zbl];refine hK (some id) _ _ (H.upd hk (by simp [Ob.names]) rfl ?_);refine ⟨m,_,T.get_set_same _ _ _ _,by simp [hl,hne,Zbf],hroom,hd,?_⟩;have:=dX t l new (n*esz) hrd;rw [hne] at this;rw [Zbf,Zcv];exact this
  .have hmn:n*esz=m:=by
    obtain ⟨q,rfl⟩:=hd;have h1:esz*n<=esz*q:=by rw [Zcm esz n];exact hm
    have h2:¬ esz*(n+1)<=esz*q:=by rw [Zcm esz (n+1)];exact hroom
    have h3:n<=q:=Nat.le_of_mul_le_mul_left h1 he;have h4:¬ n+1<=q:=λh=>h2 (Zds _ h);rw [show q=n by omega,Zcm]
   show (bif Nat.beq esz esz&&Nat.ble (n+1) 1000000 then qc (T.get .no id h) _ (.no 35) else .no 36)=_;rw [hb,Zbv,Zag hn];show (bif Nat.ble (0+n*esz) m then (bif Nat.ble (0+(n+1)*esz) m then wJ id 0 n none esz true m t new 1 h nx K else (bif true&&Nat.beq (0+n*esz) m&&Nat.beq 0 0 then bJ id n esz m t new 1 h nx K else .no 33)) else _)=_;have hnot:Nat.ble (0+(n+1)*esz) m=false:=by
    cases hq:Nat.ble (0+(n+1)*esz) m with
    | false=>rfl
    | true=>have:=yF hq;omega
   have hbq:Nat.beq (0+n*esz) m=true:=by rw [Zbl,hmn];exact Zbv _
   rw [Zag (by omega),hnot,hbq];show gZ new t m _=_;rw [jL,y3,T.gy,T.gy,y3];refine hK (some nx) _ _ (Hp.perm (Hp.new (b:=.cells true (m+1*esz) (gO new t m)) (x:=.row (some nx) esz (n+1) (l++new)) (h:=T.set .no .no id h) ?_ rfl λh' e => ?_) (zkj _))
   .have H2:=H.perm front;have hid:T.get .no id h0=.no:=H2.off id (by simp [Ob.names]);have H3:=H2.drop;have nd:=H2.nd;simp only [Zdc,Ob.names,Option.toList] at nd;have hni:id∉(L.take k++L.drop (k+1)).flatMap Ob.names:=λhi=>(List.nodup_append.1 nd).2.2 id (by simp) id hi rfl;have other:∀ j,j≠id->T.get .no j (T.set .no .no id h)=T.get .no j h:=λj hj=>T.zw _ _ _ _ _ hj;refine ⟨λj hj => ?_,λy hy => ?_,H3.off,H3.nd,λj hj => ?_⟩
    .rw [other j (by rintro rfl;exact hj hid)];exact H.keep j hj
    .exact (H3.own y hy).congr λm hm=>other m (by rintro rfl;exact hni (List.mem_flatMap.2 ⟨y,hy,hm⟩))
    .by_cases e:j=id
     .subst e;exact T.get_set_same _ _ _ _
     .rw [other j e];exact H.fr j hj
   .refine ⟨m+1*esz,_,e,by simp [hl,hne,Zbf],by rw [<- hmn,Zbf];omega,?_,?_⟩
    .rw [Zcv];exact Nat.dvd_add hd (Nat.dvd_refl _)
    .have:=dX t l new (n*esz) hrd;rw [hne] at this;rw [Zbf,Zcv,<- hmn];exact this
theorem Hp.cut {e:Nat} {o:Option Pa} {m:Nat} (H:Hp h0 h nx L) (hk:L[k]? = some (.row o e n l)) (hm:m<=n):Hp h0 h nx (L.set k (.row o e m (l.take (m*e)))):=by
  have hkl:=(List.getElem?_eq_some_iff.1 hk).1;have hmem:=Zad hk;have hL:L=L.take k++.row o e n l::L.drop (k+1):=by
    have hk:=hk;rw [List.getElem?_eq_getElem hkl] at hk;rw [<- Option.some.inj hk];simp
  have hS:L.set k (.row o e m (l.take (m*e)))=L.take k++.row o e m (l.take (m*e))::L.drop (k+1):=by rw [Zdk,if_pos hkl]
  have hfl:(L.set k (.row o e m (l.take (m*e)))).flatMap Ob.names=L.flatMap Ob.names:=by
    conv=>rhs;rw [hL]
    rw [hS];simp [Ob.names]
  refine ⟨H.keep,λy hy => ?_,by rw [hfl];exact H.off,by rw [hfl];exact H.nd,H.fr⟩;rw [hS] at hy;rcases List.mem_append.1 hy with hy | hy
  . exact H.own y (by rw [hL];simp [hy])
  . rcases List.mem_cons.1 hy with rfl | hy
    . have:=H.own _ hmem;cases o with
      | none=>obtain ⟨rfl,rfl⟩:=this;obtain rfl:m=0:=by omega
              exact ⟨by simp,rfl⟩
      | some id =>
        obtain ⟨q,t,hb,hl,hm',hd,hrd⟩:=this;have hme:m*e<=n*e:=Zax _ hm;refine ⟨q,t,hb,by rw [Zah];omega,by omega,hd,?_⟩;rw [<- hrd];apply Zca;intro i;rw [List.getElem?_take];by_cases hi:i<m*e
        . rw [yK _ _ _ _ hi,if_pos hi,yK _ _ _ _ (by omega)]
        . rw [List.getElem?_eq_none (by simp;omega),if_neg hi]
    . exact H.own y (by rw [hL];simp [hy])
theorem sIx {e':Nat} {cap:Option Nat} {kk:IntKind} {j:Int} {op:AV->OP} (hj:j=(i:Int)) (hi:i<n):zL 1 (.sl id 0 n cap e') (.int kk j) op=op (.ptr id i):=by
 subst hj;rw [qP hi];simp
theorem fO {e:Nat} {kk:IntKind} {j:Int} {op:AV->OP} (hj:j=(i:Int)) (hi:i<n):zL e (.lst e n l) (.int kk j) op=op (.fp (l.drop (i*e))):=by
 subst hj;rw [zi0 hi]
def fP:AV->Bool
 | .bool _ | .int _ _ | .str _ | .sM | .za | .esl | .sO | .sw=>true
 | .lst _ _ l=>nns l
 | .fp l=>nns l
 | _=>false
theorem fP.uz:∀ {v:AV},fP v=true->Ev.uz v=true:=by
 intro v h;cases v <;> first | rfl | (simp [fP] at h)
theorem fP.nn:∀ {v:AV},fP v=true->Ev.nn v=true:=by
 intro v h;cases v <;> first | rfl | (simp [fP] at h;done) | (simpa [fP,Ev.nn] using h)
theorem xS:∀ {l:List AV},(∀ v∈l,fP v=true)->nns l=true
 | [],_=>rfl
 | a::l,h=>by simp [nns,fP.nn (h a (by simp)),xS (l:=l) λv hv=>h v (by simp [hv])]
theorem zR {N:Pa->Prop} {O:AV->Prop} {hh:T Blk}:∀ {v:AV},fP v=true->Frz True N O hh v v:=by
 intro v h
 cases v <;> first
  |(simp [fP] at h;done)
  | exact .bool _ | exact .int _ _ | exact .str _ | exact .sM | exact .za | exact .esl | exact .sO | exact .sw
  | exact .lst _ _ _ trivial h
  | exact .fp _ trivial h
theorem qi.frz {N:Pa->Prop} {O:AV->Prop} {cap:Option Nat} {e n:Nat} (H:qi h id l) (hid:N id) (hcap:zkh n cap) (hl:l.length=n*e) (hf:∀ v∈l,fP v=true):Frz True N O h (.sl id 0 n cap e) (.lst e n l):=by
 obtain ⟨op,t,h1,h2⟩:=H;refine .sl _ _ _ _ _ op _ t _ hid hcap h1 (by omega) hl (List.all_eq_true.2 λv hv=>fP.uz (hf v hv)) λi v hi => ?_;have:=yK t 0 l.length i (List.getElem?_eq_some_iff.1 hi).1;rw [h2,hi] at this;rw [<- Option.some.inj this];exact zR (hf v (Zad hi))
theorem Hp.zxn {cap:Option Nat} {e n:Nat} (H:Hp h0 h nx L) (hk:L[k]? = some (.arr id l)) (hcap:zkh n cap) (hl:l.length=n*e) (hf:∀ v∈l,fP v=true):tC h0 h (.sl id 0 n cap e) (.lst e n l) :=
 qi.frz (H.own _ (Zad hk)) (H.off id (List.mem_flatMap.2 ⟨_,Zad hk,by simp [Ob.names]⟩)) hcap hl hf
theorem zT {P:Program} {B:Nat} {f:Nat} {args:List AV} {Q:AV->Prop}
  (hk:∀ (h:T Blk) (nx:Pa) (K:Kw Prop),Hp h h nx []->(∀ v h' nx' L v',Hp h h' nx' L->tC h h' v v'->Q v'->K v h' nx'=.ok True)->(CS P B).fn f (.of f) args h nx K=.ok True):Pure P B f args Q :=
 zs1 λh nx K hf hK=>hk h nx K (Hp.init hf) λv h' nx' _ v' H hF hQ=>hK v h' nx' H.fr H.keep ⟨v',hF,hQ⟩
theorem jP {N:Pa->Prop} {O:AV->Prop} {hh:T Blk} {a b a' b':AV} (h1:Frz True N O hh a a') (h2:Frz True N O hh b b'):Frz True N O hh (.tup [a,b]) (.tup [a',b']):=by
 refine .tup _ _ rfl λi v v' hi hi' => ?_
 match i with
 | 0=>simp at hi hi';subst hi;subst hi';exact h1
 | 1=>simp at hi hi';subst hi;subst hi';exact h2
 | i+2=>simp at hi
theorem zgp {N:Pa->Prop} {O:AV->Prop} {hh:T Blk} {a b c a' b' c':AV} (h1:Frz True N O hh a a') (h2:Frz True N O hh b b') (h3:Frz True N O hh c c'):Frz True N O hh (.tup [a,b,c]) (.tup [a',b',c']):=by
 refine .tup _ _ rfl λi v v' hi hi' => ?_
 match i with
 | 0=>simp at hi hi';subst hi;subst hi';exact h1
 | 1=>simp at hi hi';subst hi;subst hi';exact h2
 | 2=>simp at hi hi';subst hi;subst hi';exact h3
 | i+3=>simp at hi
end Go.Ev
namespace Go.Ev
open Go
def rowL {α:Type} (W:Nat) (d:Nat->α):List α:=(List.range W).map d
section
variable {α:Type} {W:Nat} {d d':Nat->α} {j:Nat} {v:α}
@[simp] theorem zgq:(rowL W d).length=W:=by simp [rowL]
def tabL (N W:Nat) (D:Nat->Nat->α):List (List α):=rowL N λi=>rowL W (D i)
variable {N k:Nat} {D D':Nat->Nat->α}
@[simp] theorem zvd:(tabL N W D).length=N:=zgq
end
end Go.Ev
namespace Go.Ev
open Go
abbrev encI (l:List Int):AV:=.lst 1 l.length (l.map I)
abbrev uq (ll:List (List Int)):AV:=.lst 1 ll.length (ll.map encI)
theorem zxo (l:List Int):nns (l.map I)=true:=xS λv hv=>by
 obtain ⟨x,_,rfl⟩:=List.mem_map.1 hv;rfl
theorem zma (l:List Int):fP (encI l)=true:=zxo l
theorem aI {l:List Int} {i:Nat} {x:Int} (h:l[i]? = some x):(l.map I)[i]? = some (I x):=by rw [List.getElem?_map,h];rfl
theorem getT {ll:List (List Int)} {i:Nat} {l:List Int} (h:ll[i]? = some l):(ll.map encI)[i]? = some (encI l):=by rw [List.getElem?_map,h];rfl
theorem ldL {h:T Blk} {l:List AV} {i:Nat} {v:AV} {op:AV->OP} (hv:l[i]? = some v):zI (.fp (l.drop (i*1))) h op=op v:=by rw [Zco];exact zi1 hv
def tEq:T AV->T AV->Bool
 | .e,.e=>true
 | .n l v r,.n l' v' r'=>aX v v'&&tEq l l'&&tEq r r'
 | _,_=>false
theorem zi2:∀ {a b:T AV},tEq a b=true->a=b
 | .e,.e,_=>rfl
 | .e,.n ..,h=>by simp [tEq] at h
 | .n ..,.e,h=>by simp [tEq] at h
 | .n l v r,.n l' v' r',h=>by
  simp only [tEq,Zak] at h;rw [vO h.1.1,zi2 h.1.2,zi2 h.2]
def esEq:List (AV×AV)->List (AV×AV)->Bool
 | [],[]=>true
 |(a,b)::l,(c,d)::m=>aX a c&&aX b d&&esEq l m
 | _,_=>false
theorem zkk:∀ {a b:List (AV×AV)},esEq a b=true->a=b
 | [],[],_=>rfl
 | [],_::_,h=>by simp [esEq] at h
 | _::_,[],h=>by simp [esEq] at h
 |(a,b)::l,(c,d)::m,h=>by
  simp only [esEq,Zak] at h;rw [vO h.1.1,vO h.1.2,zkk h.2]
def fB:Blk->Blk->Bool
 | .no,_=>true
 | .cells op n t,.cells op' n' t'=>op==op'&&Nat.beq n n'&&tEq t t'
 | .map n l,.map n' l'=>Nat.beq n n'&&esEq l l'
 | _,_=>false
theorem zi3:∀ {a b:Blk},fB a b=true->a≠.no->b=a:=by
 intro a b h hn
 cases a <;> cases b <;> first
  | exact (hn rfl).elim
  |(simp [fB] at h;done)
  |(simp only [fB,Zak] at h
    first
     |(obtain ⟨⟨h1,h2⟩,h3⟩:=h;rw [eq_of_beq h1,yO h2,zi2 h3])
     |(rw [yO h.1,zkk h.2]))
def zbj:T Blk->T Blk->Bool
 | .e,_=>true
 | .n l v r,.n l' v' r'=>fB v v'&&zbj l l'&&zbj r r'
 | .n ..,.e=>false
theorem zbk:∀ {h h':T Blk},zbj h h'=true->∀ id,T.get .no id h≠.no->T.get .no id h'=T.get .no id h
 | .e,_,_,id,hn=>(hn (T.rW _ id)).elim
 | .n ..,.e,h,_,_=>by simp [zbj] at h
 | .n l v r,.n l' v' r',h,id,hn=>by
  simp only [zbj,Zak] at h;cases id with
  | z=>rw [T.zkl] at hn ⊢;rw [T.zkl];exact zi3 h.1.1 hn
  | l p=>rw [T.zc1] at hn ⊢;rw [T.zc1];exact zbk h.1.2 p hn
  | r p=>rw [T.zc2] at hn ⊢;rw [T.zc2];exact zbk h.2 p hn
def allEq (f:Nat->Out AV) (v:AV):List Nat->Bool
 | []=>true
 | i::l=>match f i with
  | .ok u=>bif aX u v then allEq f v l else false
  | .no _=>false
theorem zgr {f:Nat->Out AV} {v:AV}:∀ {l:List Nat},allEq f v l=true->∀ i∈l,f i=.ok v
 | [],_,i,hi=>by simp at hi
 | j::l,h,i,hi=>by
  simp only [allEq] at h;cases hf:f j with
  | no=>simp [hf] at h
  | ok u =>
   rw [hf] at h;cases hq:aX u v with
   | false=>simp [hq] at h
   | true =>
    simp [hq] at h;rcases List.mem_cons.1 hi with rfl | hi
    .rw [hf,vO hq]
    .exact zgr h i hi
def zpk (L:List Nat) (f:Nat->Out AV):Out AV:=match L with
 | []=>.no 70
 | i::l=>match f i with
  | .ok v=>bif allEq f v l then .ok v else .no 71
  | .no n=>.no n
theorem zpl {L:List Nat} {f:Nat->Out AV} {r:AV} (h:zpk L f=.ok r):∀ i∈L,f i=.ok r:=by
 cases L with
 | nil=>cases h
 | cons i l =>
  simp only [zpk] at h;cases hf:f i with
  | no=>simp [hf] at h
  | ok v =>
   rw [hf] at h;cases hq:allEq f v l with
   | false=>simp [hq] at h
   | true =>
    simp [hq] at h;subst h;intro j hj;rcases List.mem_cons.1 hj with rfl | hj
    .exact hf
    .exact zgr hq j hj
def letK (h:T Blk):Kw AV:=λv h' _=>bif zbj h h' then (match fzB 20 h h' v with
 | some v'=>.ok v'
 | none=>.no 72) else .no 73
def dJ (S:Nat->Bool) (J:Nat->List AV->T Blk->Option (AV×T Blk)) (fns:T (Option Fn)) (fuel:Nat) (n:Nat):Calls AV :=
 Nat.rec ⟨λ_ _ _ _ _ _=>.no 80,λ_ _ _ _ _=>.no 81,λ_ _=>.no 79⟩ (λ_ C=>⟨λf p args h nx K=>Option.rec (motive:=λ_=>Out AV)
  (Bool.rec (zS fns fuel C p args h nx K) (Out.rec (motive:=λ_=>Out AV) (λv=>K v h nx) (λn=>.no n) (zS fns fuel C p args h nx (letK h))) (S f))
  (λx=>Prod.rec (motive:=λ_=>Out AV) (λv h=>K v h nx) x) (J f args h),zd1 fuel C,zpk⟩) n
variable {P:Program} {B:Nat}
theorem zc3 {S:Nat->Bool} {J:Nat->List AV->T Blk->Option (AV×T Blk)} {fns:T (Option Fn)} (hT:zcu P fns) (hD:bM P B AV) (hJ:JOk P B J) (fuel:Nat):∀ n,COk P B (dJ S J fns fuel n)
 | 0=>⟨λ_ _ hk=>(by cases hk),λ_ _ _ hk=>(by cases hk),λ_ _ _ hk=>(by cases hk)⟩
 | n+1=>by
  have ih:=zc3 (S:=S) hT hD hJ fuel n;refine ⟨λ{E h nx w f args vs K r} H hv hk => ?_,λH hE hv hk=>zcn ih (hD ih) H hE hv hk,λ_ _ _ hk=>zpl hk⟩
  have hk:Option.rec (motive:=λ_=>Out AV)
   (Bool.rec (zS fns fuel (dJ S J fns fuel n) (.of f) args h nx K) (Out.rec (motive:=λ_=>Out AV) (λv=>K v h nx) (λn=>.no n) (zS fns fuel (dJ S J fns fuel n) (.of f) args h nx (letK h))) (S f))
   (λx=>Prod.rec (motive:=λ_=>Out AV) (λv h=>K v h nx) x) (J f args h)=.ok r:=hk
  cases hj:J f args h with
  | none =>
   rw [hj] at hk;cases hs:S f with
   | false=>rw [hs] at hk;exact vL hT ih (hD ih) H hv hk
   | true =>
    rw [hs] at hk;have hk:Out.rec (motive:=λ_=>Out AV) (λv=>K v h nx) (λn=>.no n) (zS fns fuel (dJ S J fns fuel n) (.of f) args h nx (letK h))=.ok r:=hk;cases hc:zS fns fuel (dJ S J fns fuel n) (.of f) args h nx (letK h) with
    | no m=>rw [hc] at hk;cases hk
    | ok v' =>
     rw [hc] at hk;have hk:K v' h nx=.ok r:=hk;obtain ⟨fn,h1,h2,h3,h4⟩:=vL hT ih (hD ih) H hv hc;refine ⟨fn,h1,h2,h3,λn=>(h4 n).mono λe w' he => ?_⟩
     cases e <;> first
      | exact he.elim
      |(obtain ⟨av,h',nx',E',k1,k2,k3,k4⟩:=he
        unfold letK at k1;cases hq:zbj h h' with
        | false=>simp [hq] at k1
        | true =>
         rw [hq,cond_true] at k1;cases hz:fzB 20 h h' av with
         | none=>simp [hz] at k1
         | some v2 =>
          simp [hz] at k1;subst k1;have hkp:kO h h':=zbk hq;obtain ⟨r1,r2,_⟩:=zcz H k3 k4 hkp;exact ⟨v2,h,nx,_,hk,ziz H k3 k4 hkp (zeg 20 hz) k2,r1,r2⟩)
  | some x =>
   obtain ⟨v,h2⟩:=x;rw [hj] at hk;obtain ⟨fn,h1,h2,h3,h4⟩:=hJ H hv hj;refine ⟨fn,h1,h2,h3,λn=>(h4 n).mono λe w' he => ?_⟩;obtain ⟨u,E',rfl,q1,q2,q3⟩:=he;exact ⟨v,_,nx,E',hk,q1,q2,q3⟩
theorem jE {S:Nat->Bool} {J:Nat->List AV->T Blk->Option (AV×T Blk)} {fns:T (Option Fn)} (hT:zcu P fns) (hm:P.follows .mixedOrders=true) (hJ:∀ B,JOk P B J) {fuel n f:Nat} {args:List AV} {r:AV} (ha:nns args=true) (hk:(dJ S J fns fuel n).fn f (.of f) args .e .z endK=.ok r) :
  Pure P B f args (· = r):=zl8 (λB=>zc3 hT (zbf hm) (hJ B) fuel n) ha hk
end Go.Ev
namespace Go.Ev
open Go Classical
variable {P:Program}
def zgs (tab:Nat->List (List AV×AV)) (J:Nat->List AV->T Blk->Option (AV×T Blk)) (f:Nat) (args:List AV) (h:T Blk):Option (AV×T Blk):=match (tab f).find? (λe=>xW e.1 args) with
 | some e=>some (e.2,h)
 | none=>J f args h
def gI (P:Program) (f:Nat) (l:List (List AV×AV)):Prop:=∀ e∈l,∀ B,Pure P B f e.1 (· = e.2)
theorem zei {tab:Nat->List (List AV×AV)} {J:Nat->List AV->T Blk->Option (AV×T Blk)} {B:Nat} (hm:∀ f,gI P f (tab f)) (hJ:JOk P B J):JOk P B (zgs tab J):=by
 intro E h nx w f args vs v h2 H hv hj;unfold zgs at hj;split at hj
 case h_2=>exact hJ H hv hj
 rename_i e he;cases hj
 have hq:=List.find?_some he;have hin:=List.mem_of_find?_eq_some he;have ea:e.1=args:=qD hq;have hc:=hm f e hin B .z h nx (λv h2 nx2=>if v=e.2/\h2=h/\nx2=nx then .ok True else .no 0) (λv hv _=>if_pos ⟨hv,rfl,rfl⟩);rw [ea,aR] at hc;obtain ⟨fn,h1,h2,h3,h4⟩:=hc.1 _ w vs H hv;refine ⟨fn,h1,h2,h3,λn=>(h4 n).mono λe' w' he' => ?_⟩
 cases e' <;> first
  | exact he'.elim
  |(obtain ⟨av,h2,nx',E1,k1,k2,k3,k4⟩:=he'
    have k1':(if av=e.2/\h2=h/\nx'=nx then (Out.ok True:Out Prop) else .no 0)=.ok True:=k1;split at k1'
    .rename_i hh;obtain ⟨rfl,rfl,rfl⟩:=hh;exact ⟨_,E1,rfl,k2,k3,k4⟩
    .cases k1')
end Go.Ev
namespace Go.Ev
open Go
abbrev KTm:=Tm->T Blk->Pa->OP
section
variable {C:Calls Prop} {N:Nat} {O:fQ Prop} {K:Ks Prop}
theorem zA (a b:IR) (tm:T AV) (h:T Blk) (nx:Pa):IR.run (.seq a b) C N O K tm h nx=IR.run a C N O (IR.run b C N O K) tm h nx:=rfl
theorem gD (l:List RO) (tm:T AV) (h:T Blk) (nx:Pa):IR.run (.reg l) C N O K tm h nx=yG l C ⟨tm,[]⟩ h nx (λtm h nx=>K tm.v h nx):=rfl
theorem zB (c:Arg) (a b:IR) (tm:T AV) (h:T Blk) (nx:Pa):IR.run (.cond c a b) C N O K tm h nx=yP (c.ev ⟨tm,[]⟩) (IR.run a C N O K tm h nx) (IR.run b C N O K tm h nx):=rfl
theorem zG (tm:T AV) (h:T Blk) (nx:Pa):IR.run .skip C N O K tm h nx=K tm h nx:=rfl
theorem zV (i:Nat) (tm:T AV) (h:T Blk) (nx:Pa):IR.run (.exit i) C N O K tm h nx=O.ex i tm h nx:=rfl
theorem zE (tm:T AV) (h:T Blk) (nx:Pa):IR.run .ret C N O K tm h nx=O.rt tm h nx:=rfl
end
theorem vU (want:Bool) (op:(AV->OP)->OP) {K:AV->OP}:sG .u want op K=K .u:=nr rfl
theorem yE {fns:T (Option Fn)} {f:Nat} {F:Fn} {b:IR} {fr:T AV} {args:List AV} {C:Calls Prop} {N:Nat} {K:Kw Prop} {h:T Blk} {nx:Pa} (h1:T.get none (.of f) fns=some F) (h2:∀ k:T AV->OP,kM F.params args F.init k=k fr) (h3:F.body=b):zS fns N C (.of f) args h nx K=IR.run b C N (fnO F.res K) (zo F.res K) fr h nx:=by
 rw [jK h1,h2,h3]
end Go.Ev
namespace Go.Ev
open Go
variable {h0 h h':T Blk} {nx:Pa} {L L':List Ob} {K:KW3} {k i n c:Nat} {id:Pa} {l:List AV} {v:AV}
theorem mT {x:Ob} (hk:L[k]? = some x):L=L.take k++x::L.drop (k+1)/\∀ x',L.set k x'=L.take k++x'::L.drop (k+1):=by
 have hkl:=(List.getElem?_eq_some_iff.1 hk).1;refine ⟨?_,λx'=>by rw [Zdk,if_pos hkl]⟩;rw [List.getElem?_eq_getElem hkl] at hk;rw [<- Option.some.inj hk];simp
theorem Hp.front {x:Ob} (H:Hp h0 h nx L) (hk:L[k]? = some x):Hp h0 h nx (x::(L.take k++L.drop (k+1))):=by
 obtain ⟨e1,_⟩:=mT hk;refine H.perm ?_
 conv=>lhs;rw [e1]
 exact Zdu
theorem Hp.back {x x':Ob} (hk:L[k]? = some x) (H:Hp h0 h nx (x'::(L.take k++L.drop (k+1)))):Hp h0 h nx (L.set k x'):=by
 obtain ⟨_,e2⟩:=mT hk;rw [e2];exact H.perm List.perm_middle.symm
theorem Hp.kill (H:Hp h0 h nx (.gro (some id) c n l::L)):Hp h0 (T.set .no .no id h) nx L:=by
 have hid:T.get .no id h0=.no:=H.off id (by simp [Ob.names]);have H3:=H.drop;have nd:=H.nd;simp only [Zdc,Ob.names,Option.toList] at nd;have hni:id∉L.flatMap Ob.names:=λhi=>(List.nodup_append.1 nd).2.2 id (by simp) id hi rfl;have other:∀ j,j≠id->T.get .no j (T.set .no .no id h)=T.get .no j h:=λj hj=>T.zw _ _ _ _ _ hj;refine ⟨λj hj => ?_,λy hy => ?_,H3.off,H3.nd,λj hj => ?_⟩
 .rw [other j (by rintro rfl;exact hj hid)];exact H.keep j hj
 .exact (H3.own y hy).congr λm hm=>other m (by rintro rfl;exact hni (List.mem_flatMap.2 ⟨y,hy,hm⟩))
 .by_cases e:j=id
  .subst e;exact T.get_set_same _ _ _ _
  .rw [other j e];exact H.fr j hj
theorem zbl:kO (T.set .no .no id h) h:=λj hj=>by
 by_cases e:j=id
 .subst e;exact (hj (T.get_set_same _ _ _ _)).elim
 .exact (T.zw _ _ _ _ _ e).symm
theorem Hp.appN {esz bytes:Nat} {o:Option Pa} {x:AV} {new:List AV} (H:Hp h0 h nx L) (hk:L[k]? = some (.gro o esz n l)) (hx:∀ (no:OP) (K':List AV->Nat->OP),wX x h no K'=K' new c) (hne:new.length=c*esz) (hs:new.all uz=true)
  (he:1<=esz) (hb:bytes*1000000<=70368744177664) (hlim:n+c<=1000000) (hK:∀ o' h' nx',(o≠none\/1<=c->o'≠none)->Hp h0 h' nx' (L.set k (.gro o' esz (n+c) (l++new)))->K (uy o' esz (n+c)) h' nx'=.ok True) :
  sZ esz bytes (uy o esz n) x h nx K=.ok True:=by
 have hc:(Nat.ble (bytes*1000000) 70368744177664&&Nat.beq new.length (c*esz)&&Nat.ble 1 esz&&new.all uz)=true:=by
  simp only [Zak,hs,and_true];exact ⟨⟨Zag hb,by rw [hne];exact Zbv _⟩,Zag he⟩
 unfold sZ appA;rw [hx,hc,cond_true];have own:=H.own _ (Zad hk);have HF:=H.front hk;cases o with
 | none =>
  obtain ⟨rfl,rfl⟩:=own;by_cases hc0:c=0
  .subst hc0;obtain rfl:new=[]:=by simpa using hne
   show K .za h nx=_;refine hK none _ _ (λq=>by rcases q with q | q <;> first | exact (q rfl).elim | omega) (H.cast ?_);rw [(mT hk).2];exact (mT hk).1
  .show (bif Nat.beq c 0 then K .za h nx else bif Nat.ble c 1000000 then yX true new h nx (λid h' nx'=>K (.sl id 0 c none esz) h' nx') else .no 31)=_;rw [aH hc0,Zag (by omega),cond_false,cond_true];rw [yM];rw [Zbl] at hK;refine hK (some nx) _ _ (λ_=>by simp) (Hp.back hk (Hp.new HF.drop (x:=.gro (some nx) esz c ([]++new)) rfl λh' e => ?_));refine ⟨_,by rw [e,hne],by simp [hne],?_⟩;have:=qY new;rw [hne] at this;simpa using this
 | some id =>
  obtain ⟨t,hb,hl,hrd⟩:=own;show (bif Nat.beq esz esz&&Nat.ble (n+c) 1000000 then qc (T.get .no id h) _ (.no 35) else .no 36)=_;rw [hb,Zbv,Zag hlim];have hwr:=dX t l new (n*esz) hrd;rw [hne,<- Zbf] at hwr;by_cases hc0:c=0
  .subst hc0;obtain rfl:new=[]:=by simpa using hne
   show (bif Nat.ble (0+n*esz) (n*esz) then (bif Nat.ble (0+(n+0)*esz) (n*esz) then wJ id 0 n none esz true (n*esz) t [] 0 h nx K else _) else _)=_;rw [Zag (by omega),Zag (by simp),cond_true,cond_true];unfold wJ;rw [jL,T.gy,y3,Zbl];exact hK (some id) _ _ (λ_=>by simp) (H.upd hk (by simp [Ob.names]) rfl ⟨_,T.get_set_same _ _ _ _,by simp [hl],hwr⟩)
  .have hlt:n*esz<(n+c)*esz:=by
    rw [Zbf];have:1*1<=c*esz:=Zbk (by omega) he;omega
   show (bif Nat.ble (0+n*esz) (n*esz) then (bif Nat.ble (0+(n+c)*esz) (n*esz) then wJ id 0 n none esz true (n*esz) t new c h nx K else (bif true&&Nat.beq (0+n*esz) (n*esz)&&Nat.beq 0 0 then bJ id n esz (n*esz) t new c h nx K else .no 33)) else _)=_;rw [Zag (by omega),bleF (by omega),eu (Zbl _)];simp only [Zbv,Zgr,cond_true,cond_false];unfold bJ;rw [jL,y3,T.gy,T.gy,y3];refine hK (some nx) _ _ (λ_=>by simp) (Hp.back hk (Hp.new (b:=.cells true (n*esz+c*esz) (gO new t (n*esz))) HF.kill rfl λh' e => ?_));exact ⟨_,by rw [e,Zbf],by simp [hl,hne,Zbf],hwr⟩
theorem Hp.zi4 {o:Option Pa} {e:Nat} (H:Hp h0 h nx (.gro o e n l::L)) (hf:∀ v∈l,fP v=true):∃ h',kO h' h/\Hp h0 h' nx L/\tC h' h (uy o e n) (.lst e n l):=by
 cases o with
 | none =>
  obtain ⟨rfl,rfl⟩:=H.own _ (Zaj ..);exact ⟨h,λ_ _=>rfl,H.drop,.zcx e⟩
 | some id =>
  refine ⟨_,zbl,H.kill,?_⟩;obtain ⟨t,h1,h2,h3⟩:=H.own _ (Zaj ..);refine .sl _ _ _ _ _ true _ t _ (T.get_set_same _ _ _ _) trivial h1 (by omega) h2 (List.all_eq_true.2 λv hv=>fP.uz (hf v hv)) λi v hi => ?_;have:=yK t 0 (n*e) i (by rw [<- h2];exact (List.getElem?_eq_some_iff.1 hi).1);rw [h3,hi] at this;rw [<- Option.some.inj this];exact zR (hf v (Zad hi))
theorem Hp.zej {o:Option Pa} {e:Nat} (H:Hp h0 h nx L) (hk:L[k]? = some (.gro o e n l)) (hf:∀ v∈l,fP v=true):tC h0 h (uy o e n) (.lst e n l):=by
 have own:=H.own _ (Zad hk);have hoff:=H.off;cases o with
 | none=>obtain ⟨rfl,rfl⟩:=own;exact .zcx e
 | some id =>
  obtain ⟨t,h1,h2,h3⟩:=own;refine .sl _ _ _ _ _ true _ t _ (hoff id (List.mem_flatMap.2 ⟨_,Zad hk,by simp [Ob.names]⟩)) trivial h1 (by omega) h2 (List.all_eq_true.2 λv hv=>fP.uz (hf v hv)) λi v hi => ?_;have:=yK t 0 (n*e) i (by rw [<- h2];exact (List.getElem?_eq_some_iff.1 hi).1);rw [h3,hi] at this;rw [<- Option.some.inj this];exact zR (hf v (Zad hi))
theorem qi.rd {cap:Option Nat} {e:Nat} (H:qi h id l) (hl:l.length=n*e) (no:OP) (K':List AV->Nat->OP):wX (.sl id 0 n cap e) h no K'=K' l n:=by
 obtain ⟨op,t,h1,h2⟩:=H;show qc (T.get .no id h) (λ_ m t=>bif Nat.ble (0+n*e) m then K' (yU t 0 (n*e)) n else no) no=_;rw [h1];show (bif Nat.ble (0+n*e) l.length then K' (yU t 0 (n*e)) n else no)=_;rw [Zag (by omega),cond_true,<- hl,h2]
def LI (v:AV) (l:List Int):Prop:=(v=.za/\l=[])\/v=encI l
theorem LI.rd {l:List Int} (H:LI v l) (h:T Blk) (no:OP) (K':List AV->Nat->OP):wX v h no K'=K' (l.map I) l.length:=by
 rcases H with ⟨rfl,rfl⟩ | rfl <;> rfl
theorem Hp.zxp (H:Hp h0 h nx L) (hm : .arr id l∈L):T.get .no id h0=.no:=H.off id (List.mem_flatMap.2 ⟨_,hm,by simp [Ob.names]⟩)
theorem Hp.copy {z:AV} {new:List AV} {w:AV} {bytes:Nat} (H:Hp h0 h nx L) (hr:∀ h1,kO h0 h1->∀ (no:OP) (K':List AV->Nat->OP),wX w h1 no K'=K' new c) (hl:new.length=c) (hf:∀ v∈new,fP v=true) (hb:bytes*1000000<=70368744177664) (hc:c<=1000000)
  (hK:∀ (v:AV) (X:Ob) (h':T Blk) (nx':Pa),Hp h0 h' nx' (X::L)->v.cells=some [v]->uz v=true->(∀ h0' h'' nx'' L'',Hp h0' h'' nx'' L''->X∈L''->tC h0' h'' v (.lst 1 c new))->K v h' nx'=.ok True) :
  (jI 1 0 [z] [] h nx λv1 h1 n1=>sZ 1 bytes v1 w h1 n1 K)=.ok True:=by
 refine H.cu (l:=[]) rfl λe h1 n1 H1 => ?_;have hs:new.all uz=true:=List.all_eq_true.2 λv hv=>fP.uz (hf v hv);unfold sZ appA;rw [hr _ H1.keep];have hcc:(Nat.ble (bytes*1000000) 70368744177664&&Nat.beq new.length (c*1)&&Nat.ble 1 1&&new.all uz)=true:=by
  simp only [Zak,hs,and_true];exact ⟨⟨Zag hb,by rw [hl,Zco];exact Zbv _⟩,rfl⟩
 rw [hcc,cond_true];obtain ⟨op,t,g1,g2⟩:qi h1 e []:=H1.own _ (Zaj ..);show (bif Nat.beq 1 1&&Nat.ble (0+c) 1000000 then qc (T.get .no e h1) _ (.no 35) else .no 36)=_;rw [g1,Zag (by omega)];show (bif Nat.ble (0+c) 0 then (bif Nat.ble (0+(0+c)*1) 0 then wJ e 0 0 (some 0) 1 op 0 t new c h1 n1 _ else .no 32) else wI 0 0 1 t new c h1 n1 _)=_;by_cases hc0:c=0
 .subst hc0;obtain rfl:new=[]:=Zci hl;rw [show Nat.ble (0+0) 0=true from rfl,cond_true,cond_true];unfold wJ;rw [jL,T.gy,y3];refine hK (.sl e 0 0 (some 0) 1) (.arr e []) _ _ (H1.upd (k:=0) (x':=.arr e []) rfl (by simp [Ob.names]) rfl ⟨op,_,T.get_set_same _ _ _ _,rfl⟩) rfl rfl λh0' h'' nx'' L'' H'' hm => ?_;exact qi.frz (H''.own _ hm) (H''.zxp hm) (Zaf _) rfl (by simp)
 .rw [bleF (by omega),cond_false];unfold wI;rw [yM,y3]
  have H2:Hp h0 (T.set .no (.cells true new.length (gO new .e 0)) n1 h1) n1.succ (.gro (some n1) 1 c new::L) :=
   Hp.new (x:=.gro (some n1) 1 c new) H1.drop rfl λh' q=>⟨_,by rw [q,hl,Zco],by rw [hl,Zco],by have:=qY new;rw [hl] at this;rw [Zco];exact this⟩
  rw [Zbl];refine hK (.sl n1 0 c none 1) _ _ _ H2 rfl rfl λh0' h'' nx'' L'' H'' hm => ?_;obtain ⟨q,hq⟩:=List.mem_iff_getElem?.1 hm;exact H''.zej (o:=some n1) hq hf
theorem zbm {P:Program} {B f:Nat} {p:Pa} {cap args:List AV}:zae (CS P B) (.fn f p cap) args h nx K=(CS P B).fn f p (args++cap) h nx K:=nr rfl
theorem zbn (o:Option Pa) (e n:Nat):(uy o e n).cells=some [uy o e n]:=by cases o <;> rfl
end Go.Ev
namespace Go.Ev
open Go
variable {h0 h:T Blk} {nx:Pa} {L:List Ob}
theorem xV {i n d:Nat} (h:i<=n):bnd (some (I (i:Int))) n d=some i:=by
 show (bif Nat.ble i n then some i else none)=_;rw [Zag h];rfl
theorem Hp.qax {k e n i:Nat} {o:Option Pa} {l:List AV} {op:AV->OP} (H:Hp h0 h nx L) (hk:L[k]? = some (.gro o e n l)) (hi:i<=n):wV e (uy o e n) none (some (I (i:Int))) none op=op (uy o e i):=by
 cases o with
 | none =>
  obtain ⟨_,rfl⟩:=H.own _ (Zad hk);obtain rfl:i=0:=by omega
  rfl
 | some id =>
  show (bif Nat.beq e e then (match bnd (some (I (i:Int))) n n with | none=>Out.no 17 | some h=>match bnd none h 0 with | none=>.no 17 | some l=>bif Nat.beq l 0 then op (.sl id 0 h none e) else _) else _)=_;rw [Zbv,cond_true,xV hi]
  rfl
theorem Hp.oo {K:AV->T Blk->Pa->OP} {k e n i:Nat} {id:Pa} {l:List AV} {v:AV} (H:Hp h0 h nx L) (hk:L[k]? = some (.gro (some id) e n l)) (hi:i<l.length) (hv:v.cells=some [v]) (hK:∀ h',Hp h0 h' nx (L.set k (.gro (some id) e n (l.set i v)))->K .u h' nx=.ok True):zX 1 (.ptr id i) v h nx K=.ok True:=by
 obtain ⟨t,h1,h2,h3⟩:=H.own _ (Zad hk);rw [zbg h1 (by omega) hv];refine hK _ (H.upd hk (by simp [Ob.names]) rfl ⟨T.set .u v (.of i) t,by rw [T.get_set_same],by rw [Zan];exact h2,?_⟩);rw [<- h2];exact zbh t l i hi v (by rw [h2];exact h3)
theorem Hp.zkm {k e n i:Nat} {id:Pa} {l:List AV} {v:AV} {op:AV->OP} (H:Hp h0 h nx L) (hk:L[k]? = some (.gro (some id) e n l)) (hi:l[i]? = some v):zI (.ptr id i) h op=op v:=by
 obtain ⟨t,h1,h2,h3⟩:=H.own _ (Zad hk);exact qi.load ⟨true,t,by rw [h1,h2],by rw [h2];exact h3⟩ hi
end Go.Ev
namespace Go.Ev
open Go
variable {h0 h h':T Blk} {nx:Pa} {L L':List Ob} {K:KW3} {k i n c:Nat} {id:Pa} {l:List AV} {v:AV} {P:Program} {B:Nat}
abbrev Key:=List Nat
abbrev u8 (v:Nat):AV:=.int .u8 (v:Int)
structure KsOk (m:Nat) (ks G:List Key):Prop where
 nd:ks.Nodup
 mem:∀ y,y∈ks↔y∈G
 len:∀ y∈G,y.length=m
theorem KsOk.nil (m:Nat):KsOk m [] []:=⟨by simp,by simp,by simp⟩
theorem KsOk.perm {m:Nat} {ks G G':List Key} (H:KsOk m ks G) (hp:G.Perm G'):KsOk m ks G':=⟨H.nd,λy=>(H.mem y).trans hp.mem_iff,λy hy=>H.len y (hp.mem_iff.2 hy)⟩
theorem zc4 {n i:Nat} {seen:List Nat}:i∈zf0 n seen↔i<n/\i∉seen:=by
 simp [zf0]
theorem Hp.range {es:List (AV×AV)} (H:Hp h0 h nx L) (hk:L[k]? = some (.map id es)) (hK:∀ it h' nx',Hp h0 h' nx' (.iter it id es.length [] es.length::L)->K (.ptr it 0) h' nx'=.ok True):zol (.map id) h nx K=.ok True:=by
 have own:T.get .no id h=.map _ _:=H.own _ (Zad hk);show rG (T.get .no id h) _ _=_;rw [own];show T.fw Blk.no (.iter id es.length [] es.length) nx h (λh'=>K (.ptr nx 0) h' nx.succ)=_;rw [T.gy];exact hK _ _ _ (H.new rfl λh' e=>e)
theorem Hp.next {es:List (AV×AV)} {it:Pa} {j:Nat} {seen:List Nat} (H:Hp h0 h nx L) (hk:L[k]? = some (.iter it id es.length seen c)) (hm:L[j]? = some (.map id es))
  (hK0:(∀ i,i<es.length->i∈seen)->K (.tup [.bool false]) h nx=.ok True)
  (hK1:∀ (i:Nat) a b h',i<es.length->i∉seen->es[i]? = some (a,b)->Hp h0 h' nx (L.set k (.iter it id es.length (i::seen) es.length))->K (.tup [.bool true,a,b]) h' nx=.ok True):zuz (CS P B) (.ptr it 0) h nx K=.ok True:=by
 have own:T.get .no it h=.iter _ _ _ _:=H.own _ (Zad hk);have own2:T.get .no id h=.map _ _:=H.own _ (Zad hm);show aW (T.get .no it h) _ _=_;rw [own];show rG (T.get .no id h) _ _=_;rw [own2]
 show (bif Nat.beq es.length es.length then (match zf0 es.length seen with
  | []=>K (.tup [.bool false]) h nx
  | i::is=>(CS P B).pk (i::is) λi=>match es[i]? with
   | some (a,b)=>T.fw Blk.no (.iter id es.length (i::seen) es.length) it h λh'=>K (.tup [.bool true,a,b]) h' nx
   | none=>.no 56) else .no 56)=_
 rw [Zbv,cond_true];cases hl:zf0 es.length seen with
 | nil =>
  refine hK0 λi hi=>Classical.byContradiction λhn => ?_;have:=zc4.2 ⟨hi,hn⟩;rw [hl] at this;cases this
 | cons i is =>
  refine zu9.2 ⟨λq hq => ?_,rfl⟩;rw [<- hl] at hq;obtain ⟨h1,h2⟩:=zc4.1 hq;have e:es[q]? = some (es[q].1,es[q].2):=List.getElem?_eq_getElem h1;rw [e];simp only [T.gy];exact hK1 q _ _ _ h1 h2 e (H.upd hk (by simp [Ob.names]) rfl (T.get_set_same _ _ _ _))
theorem Hp.entry {es:List (AV×AV)} {it:Pa} {j i:Nat} {seen:List Nat} {a b:AV} {op:AV->OP} (H:Hp h0 h nx L) (hk:L[k]? = some (.iter it id es.length (i::seen) es.length)) (hm:L[j]? = some (.map id es)) (he:es[i]? = some (a,b)):zof (.ptr it 0) h op=op (.tup [a,b]):=by
 have own:T.get .no it h=.iter _ _ _ _:=H.own _ (Zad hk);have own2:T.get .no id h=.map _ _:=H.own _ (Zad hm);show aW (T.get .no it h) _ _=_;rw [own];show rG (T.get .no id h) _ _=_;rw [own2];show (bif Nat.beq es.length es.length then (match es[i]? with | some (a,b)=>op (.tup [a,b]) | none=>.no 54) else .no 54)=_;rw [Zbv,cond_true,he]
theorem Hp.zak (H:Hp h0 h nx L) (hK:∀ id h' nx',Hp h0 h' nx' (.map id []::L)->K (.map id) h' nx'=.ok True):zpd h nx K=.ok True:=by
 unfold zpd;rw [T.gy];exact hK _ _ _ (H.new rfl λh' e=>e)
theorem Hp.zk {op:AV->OP} (H:Hp h0 h nx L) (hk:L[k]? = some (.arr id l)) (hl:l.length=n):zF n (.ptr id 0) h op=op (.agg l):=by
 obtain ⟨o,t,h1,h2⟩:=H.own _ (Zad hk);show qc (T.get .no id h) _ _=_;rw [h1];show (bif Nat.ble (0+n) l.length then op (.agg (yU t 0 n)) else .no 8)=_;rw [Zag (by omega),cond_true,<- hl,h2]
theorem Hp.yx {l2:List AV} (H:Hp h0 h nx L) (hk:L[k]? = some (.arr id l)) (hl:l.length=n) (hl2:l2.length=n) (hK:∀ h',Hp h0 h' nx (L.set k (.arr id l2))->K .u h' nx=.ok True):zX n (.ptr id 0) (.agg l2) h nx K=.ok True:=by
 obtain ⟨o,t,h1,h2⟩:=H.own _ (Zad hk);show qc (T.get .no id h) _ _=_;rw [h1];show (bif Nat.beq l2.length n&&Nat.ble (0+n) l.length then gZ l2 t 0 (λt'=>T.fw Blk.no (.cells o l.length t') id h λh'=>K .u h' nx) else .no 42)=_;rw [eu hl2,Zag (by omega)];simp only [Zgr,cond_true];rw [jL,T.gy];refine hK _ (H.upd hk (by simp [Ob.names]) rfl ⟨o,_,by rw [T.get_set_same,hl,hl2],?_⟩);apply Zca;intro i;by_cases hi:i<l2.length
 .rw [yK _ _ _ _ hi,Zbl,u5,if_pos (by omega)];simp [Zaa,hi]
 .rw [List.getElem?_eq_none (by simp;omega),List.getElem?_eq_none (by omega)]
theorem sFx {o p:Nat} {op:AV->OP}:zK p (.ptr id o) op=op (.ptr id (o+p)):=by
 show mh (o+p) (λo=>op (.ptr id o))=_;rw [y3]
theorem Hp.zc5 {o:Option Pa} {j:Nat} (H:Hp h0 h nx L) (hk:L[k]? = some (.gro o 1 n l)) (hj:l[j]? = some v):∃ id,(∀ (kk:IntKind) (op:AV->OP),zL 1 (uy o 1 n) (.int kk (j:Int)) op=op (.ptr id j))/\∀ op:AV->OP,zI (.ptr id j) h op=op v:=by
 have own:=H.own _ (Zad hk);have hjl:=(List.getElem?_eq_some_iff.1 hj).1;cases o with
 | none=>obtain ⟨rfl,_⟩:=own;simp at hj
 | some id =>
  obtain ⟨t,h1,h2,h3⟩:=own;refine ⟨id,λkk op=>by rw [uy,qP (by omega)];simp,λop => ?_⟩;rw [zc0 h1 (by omega)];have:=yK t 0 (n*1) j (by omega);rw [h3,hj,Zbl] at this;rw [Option.some.inj this]
theorem Hp.oJ {o:Option Pa} {e:Nat} {op:AV->OP} (H:Hp h0 h nx L) (hk:L[k]? = some (.gro o e n l)):sLen (uy o e n) op=op (I n):=by
 cases o with
 | none=>obtain ⟨_,rfl⟩:=H.own _ (Zad hk);rfl
 | some id=>rfl
end Go.Ev
namespace Go.Ev
open Go
variable {h0 h:T Blk} {nx:Pa} {L:List Ob}
theorem Hp.zs2 {id:Pa} {b:Blk} (H:Hp h0 h nx (.raw id b::L)):Hp h0 (T.set .no .no id h) nx L:=by
 have hid:T.get .no id h0=.no:=H.off id (by simp [Ob.names]);have H3:=H.drop;have nd:=H.nd;simp only [Zdc,Ob.names] at nd;have hni:id∉L.flatMap Ob.names:=λhi=>(List.nodup_append.1 nd).2.2 id (by simp) id hi rfl;have other:∀ j,j≠id->T.get .no j (T.set .no .no id h)=T.get .no j h:=λj hj=>T.zw _ _ _ _ _ hj;refine ⟨λj hj => ?_,λy hy => ?_,H3.off,H3.nd,λj hj => ?_⟩
 .rw [other j (by rintro rfl;exact hj hid)];exact H.keep j hj
 .exact (H3.own y hy).congr λm hm=>other m (by rintro rfl;exact hni (List.mem_flatMap.2 ⟨y,hy,hm⟩))
 .by_cases e:j=id
  .subst e;exact T.get_set_same _ _ _ _
  .rw [other j e];exact H.fr j hj
theorem Hp.rf {N:Nat} {C:Calls Prop} {O:fQ Prop} {K:Ks Prop} {tm:T AV} {f:Arg} {ps:List Pa} {a b:IR} {g:Nat} {p:Pa} {cap:List AV} (H:Hp h0 h nx L) (hf:f.ev ⟨tm,[]⟩=.fn g p cap)
  (hK:∀ id h' nx',Hp h0 h' nx' (.raw id (.loop .ready .none tm ps a b)::L)->C.fn g p (.yld id::cap) h' nx' (λ_ h nx'=>p5 (T.get .no id h) (λst j _ _ _ _=>T.fw .no .no id h λh=>zf1 O K st j tm h nx') (.no 63))=.ok True) :
  IR.run (.rf f ps a b) C N O K tm h nx=.ok True:=by
 show T.fw .no (.loop .ready .none tm ps a b) nx h (λh'=>asFn (f.ev ⟨tm,[]⟩) _ _ _)=_;rw [T.gy,hf];exact hK nx _ _ (Hp.new H rfl λh' e=>⟨e,by intro q;cases q⟩)
theorem Hp.zf1 {O:fQ Prop} {K:Ks Prop} {tm tm':T AV} {id:Pa} {st:LSt} {j:Jump} {ps:List Pa} {a b:IR} (H:Hp h0 h nx (.raw id (.loop st j tm' ps a b)::L)) (hK:∀ h',Hp h0 h' nx L->Ev.zf1 O K st j tm h' nx=.ok True) :
  p5 (T.get .no id h) (λst j _ _ _ _=>T.fw .no .no id h λh=>Ev.zf1 O K st j tm h nx) (.no 63)=.ok True:=by
 have h1:T.get .no id h=.loop st j tm' ps a b:=(H.own _ (Zaj ..)).1;rw [h1];show T.fw _ _ _ _ _=_;rw [T.gy];exact hK _ H.zs2
end Go.Ev
