import Derived.Test.YtfgpjkchdelphaaGreatDoorEvC
import Derived.Laws.Externs
import Derived.Shelf.Spec.BitsCarry
set_option linter.unusedSimpArgs false
set_option linter.unusedVariables false
noncomputable section
namespace Go.Ev
open Go
def uw (o:Option Pa) (e n:Nat):AV:=match o with
 | none=>.zb
 | some id=>.sl id 0 n none e
def cellV (o:Option Pa) (n:Nat):AV:=match o with
 | none=>.zb
 | some id=>.sl id 0 n (some n) 1
inductive Ob where
 | arr (id:Pa) (l:List AV)
 | row (o:Option Pa) (e n:Nat) (l:List AV)
 | tab (id:Pa) (rs:List (Option Pa)) (ll:List (List AV))
 | gro (o:Option Pa) (e n:Nat) (l:List AV)
 | map (id:Pa) (l:List (AV×AV))
 | iter (id mid:Pa) (n:Nat) (seen:List Nat) (c:Nat)
 | raw (id:Pa) (b:Blk)
def Ob.names:Ob->List Pa
 | .arr id _=>[id]
 | .row o _ _ _=>o.toList
 | .tab id rs _=>id::rs.filterMap (λo=>o)
 | .gro o _ _ _=>o.toList
 | .map id _=>[id]
 | .iter id _ _ _ _=>[id]
 | .raw id _=>[id]
def qc (h:T Blk) (id:Pa) (l:List AV):Prop:=∃ op t,T.get .no id h=.cells op l.length t/\yY t 0 l.length=l
def zo9 (rs:List (Option Pa)) (ll:List (List AV)):List AV:=List.zipWith (λo l=>cellV o (List.length l)) rs ll
def Ob.holds (h:T Blk):Ob->Prop
 | .arr id l=>qc h id l
 | .row o e n l=>match o with
  | none=>l=[]/\n=0
  | some id=>∃ m t,T.get .no id h=.cells true m t/\l.length=n*e/\n*e<=m/\e∣m/\yY t 0 (n*e)=l
 | .tab id rs ll=>qc h id (zo9 rs ll)/\rs.length=ll.length/\(∀ (i:Nat) (r:Pa),rs[i]? = some (some r)->∃ l,ll[i]? = some l/\qc h r l)/\∀ (i:Nat) l,rs[i]? = some none->ll[i]? = some l->l=[]
 | .gro o e n l=>match o with
  | none=>l=[]/\n=0
  | some id=>∃ t,T.get .no id h=.cells true (n*e) t/\l.length=n*e/\yY t 0 (n*e)=l
 | .map id l=>T.get .no id h=.map l.length l
 | .iter id mid n seen c=>T.get .no id h=.iter mid n seen c
 | .raw id b=>T.get .no id h=b/\b≠.no
theorem qc.congr {h h':T Blk} {id:Pa} {l:List AV} (H:qc h id l) (e:T.get .no id h'=T.get .no id h):qc h' id l:=by
 obtain ⟨op,t,h1,h2⟩:=H;exact ⟨op,t,by rw [e];exact h1,h2⟩
theorem Ob.holds.congr {h h':T Blk}:∀ {x:Ob},x.holds h->(∀ n∈x.names,T.get .no n h'=T.get .no n h)->x.holds h'
 | .arr id l,H,e=>qc.congr H (e id (by simp [Ob.names]))
 | .row none _ _ l,H,_=>H
 | .row (some id) _ _ l,H,e=>by
  obtain ⟨m,t,h1,h2⟩:=H;exact ⟨m,t,by rw [e id (by simp [Ob.names])];exact h1,h2⟩
 | .tab id rs ll,H,e=>by
  obtain ⟨h1,h2,h3,h4⟩:=H;refine ⟨h1.congr (e id (by simp [Ob.names])),h2,λi r hr => ?_,h4⟩;obtain ⟨l,q1,q2⟩:=h3 i r hr;exact ⟨l,q1,q2.congr (e r (by simp [Ob.names];exact .inr (Zad hr)))⟩
 | .gro none _ _ l,H,_=>H
 | .gro (some id) _ _ l,H,e=>by
  obtain ⟨t,h1,h2⟩:=H;exact ⟨t,by rw [e id (by simp [Ob.names])];exact h1,h2⟩
 | .map id l,H,e=>(e id (by simp [Ob.names])).trans H
 | .iter id _ _ _ _,H,e=>(e id (by simp [Ob.names])).trans H
 | .raw id _,H,e=>⟨(e id (by simp [Ob.names])).trans H.1,H.2⟩
theorem Ob.holds.live {h:T Blk}:∀ {x:Ob},x.holds h->∀ n∈x.names,T.get .no n h≠.no
 | .arr id l,⟨op,t,h1,_⟩,n,hn=>by
  simp [Ob.names] at hn;subst hn;rw [h1];intro e;cases e
 | .row none _ _ l,H,n,hn=>by simp [Ob.names] at hn
 | .row (some id) _ _ l,⟨m,t,h1,h2⟩,n,hn=>by
  simp [Ob.names] at hn;subst hn;rw [h1];intro e;cases e
 | .tab id rs ll,⟨⟨op,t,h1,_⟩,h2,h3,h4⟩,n,hn=>by
  simp [Ob.names] at hn;rcases hn with rfl | hn
  .rw [h1];intro e;cases e
  .obtain ⟨i,hi⟩:=Zau.1 hn;obtain ⟨l,_,op,t,q,_⟩:=h3 i n hi;rw [q];intro e;cases e
 | .gro none _ _ l,H,n,hn=>by simp [Ob.names] at hn
 | .gro (some id) _ _ l,⟨t,h1,h2⟩,n,hn=>by
  simp [Ob.names] at hn;subst hn;rw [h1];intro e;cases e
 | .map id l,H,n,hn=>by
  simp [Ob.names] at hn;subst hn;have H:T.get .no n h=.map l.length l:=H;rw [H];intro e;cases e
 | .iter id mid k seen c,H,n,hn=>by
  simp [Ob.names] at hn;subst hn;have H:T.get .no n h=.iter mid k seen c:=H;rw [H];intro e;cases e
 | .raw id b,⟨h1,h2⟩,n,hn=>by
  simp [Ob.names] at hn;subst hn;rw [h1];exact h2
structure Hp (h0 h:T Blk) (nx:Pa) (L:List Ob):Prop where
 keep:kS h0 h
 own:∀ x∈L,x.holds h
 off:∀ n∈L.flatMap Ob.names,T.get .no n h0=.no
 nd:(L.flatMap Ob.names).Nodup
 fr:Fr h nx
variable {h0 h h':T Blk} {nx:Pa} {L L':List Ob} {K:KW3} {k i n c:Nat} {id:Pa} {l:List AV} {v:AV}
theorem Hp.init (hf:Fr h nx):Hp h h nx []:=⟨λ_ _=>rfl,by simp,by simp,by simp,hf⟩
theorem Hp.cast (H:Hp h0 h nx L) (e:L=L'):Hp h0 h nx L':=e ▸ H
theorem Hp.drop {x:Ob} (H:Hp h0 h nx (x::L)):Hp h0 h nx L:=⟨H.keep,λy hy=>H.own y (Zap _ hy),λn hn=>H.off n (by rw [Zdf];exact Zdt _ hn),
 by have:=H.nd;rw [Zdf] at this;exact (Zcy.1 this).2.1,H.fr⟩
theorem Hp.perm (H:Hp h0 h nx L) (hp:L.Perm L'):Hp h0 h nx L':=⟨H.keep,λx hx=>H.own x (hp.mem_iff.2 hx),λn hn=>H.off n ((hp.flatMap_right Ob.names).mem_iff.2 hn),(hp.flatMap_right Ob.names).nodup_iff.1 H.nd,H.fr⟩
theorem Hp.lt (H:Hp h0 h nx L) {x:Ob} (hx:x∈L) {m:Pa} (hm:m∈x.names):m≠nx:=by
 rintro rfl;exact (H.own x hx).live _ hm (H.fr _ (Zaf _))
theorem Hp.zpa (H:Hp h0 h nx L):T.get .no nx h0=.no:=by
 by_cases e:T.get .no nx h0=.no
 .exact e
 .have:=H.keep nx e;rw [H.fr nx (Zaf _)] at this;exact this.symm
theorem Hp.new (H:Hp h0 h nx L) {b:Blk} {x:Ob} (hn:x.names=[nx]) (hx:∀ h',T.get .no nx h'=b->x.holds h'):Hp h0 (T.set .no b nx h) nx.succ (x::L):=by
 have other:∀ j,j≠nx->T.get .no j (T.set .no b nx h)=T.get .no j h:=λj hj=>T.zx _ _ _ _ _ hj;refine ⟨λj hj => ?_,λy hy => ?_,λm hm => ?_,?_,λj hj => ?_⟩
 .rw [other j (by rintro rfl;exact hj H.zpa)];exact H.keep j hj
 .rcases Zas.1 hy with rfl | hy
  .exact hx _ (T.get_set_same _ _ _ _)
  .exact (H.own y hy).congr λm hm=>other m (H.lt hy hm)
 .rw [Zdf,hn] at hm;rcases Zbf.1 hm with hm | hm
  .rw [Zaz.1 hm];exact H.zpa
  .exact H.off m hm
 .rw [Zdf,hn];refine Zcy.2 ⟨by simp,H.nd,?_⟩;rintro a ha b hb rfl;rw [Zaz.1 ha] at hb;obtain ⟨y,hy,hb⟩:=Zca.1 hb;exact H.lt hy hb rfl
 .rw [Pa.ah] at hj;rw [other j (by rintro rfl;omega)];exact H.fr j (by omega)
theorem Hp.upd (H:Hp h0 h nx L) {b:Blk} {x x':Ob} (hk:L[k]? = some x) (hm:id∈x.names) (hn:x'.names=x.names) (hx:x'.holds (T.set .no b id h)):Hp h0 (T.set .no b id h) nx (L.set k x'):=by
 have hkl:=(Zgw.1 hk).1;have hxm:=Zad hk;have other:∀ j,j≠id->T.get .no j (T.set .no b id h)=T.get .no j h:=λj hj=>T.zx _ _ _ _ _ hj;have hid:T.get .no id h0=.no:=H.off id (Zca.2 ⟨x,hxm,hm⟩);have hL:L=L.take k++x::L.drop (k+1):=by
  rw [Zgv hkl] at hk;rw [<- Option.some.inj hk];simp
 have hS:L.set k x'=L.take k++x'::L.drop (k+1):=by rw [Zdy,if_pos hkl]
 have hfl:(L.set k x').flatMap Ob.names=L.flatMap Ob.names:=by
  conv=>rhs;rw [hL]
  rw [hS];simp [hn]
 have hnd:=H.nd;rw [hL] at hnd;simp only [List.flatMap_append,Zdf] at hnd;have hnot:∀ y,y∈L.take k\/y∈L.drop (k+1)->id∉y.names:=by
  intro y hy hi;rcases hy with hy | hy
  .exact (Zcy.1 hnd).2.2 id (Zca.2 ⟨y,hy,hi⟩) id (Zdd _ hm) rfl
  .exact (Zcy.1 (Zcy.1 hnd).2.1).2.2 id hm id (Zca.2 ⟨y,hy,hi⟩) rfl
 refine ⟨λj hj => ?_,λy hy => ?_,?_,by rw [hfl];exact H.nd,λj hj => ?_⟩
 .rw [other j (by rintro rfl;exact hj hid)];exact H.keep j hj
 .rw [hS] at hy;have step:∀ y,y∈L.take k\/y∈L.drop (k+1)->y.holds (T.set .no b id h):=λy hy =>
   (H.own y (by rw [hL];rcases hy with hy | hy <;> simp [hy])).congr λm hm'=>other m (by rintro rfl;exact hnot y hy hm')
  rcases Zbf.1 hy with hy | hy
  .exact step y (.inl hy)
  .rcases Zas.1 hy with rfl | hy
   .exact hx
   .exact step y (.inr hy)
 .rw [hfl];exact H.off
 .rw [other j (by rintro rfl;exact (H.own x hxm).live _ hm (H.fr _ hj))];exact H.fr j hj
theorem qZ (l:List AV):yY (gQ l .e 0) 0 l.length=l:=by
 have:=dY .e [] l 0 rfl;simpa using this
theorem Hp.zeu (H:Hp h0 h nx L) (op:Bool) (l:List AV):Hp h0 (T.set .no (.cells op l.length (gQ l .e 0)) nx h) nx.succ (.arr nx l::L) :=
 H.new rfl λh' e=>⟨op,_,e,qZ l⟩
theorem Hp.box (H:Hp h0 h nx L) (hv:v.cells=some l) (hK:∀ id h' nx',Hp h0 h' nx' (.arr id l::L)->K (.ptr id 0) h' nx'=.ok True):xq v h nx K=.ok True:=by
 unfold xq;rw [hv];show yV false l h nx _=_;rw [yO];exact hK _ _ _ (H.zeu false l)
theorem Hp.alloc (H:Hp h0 h nx L) (hK:∀ id h' nx',Hp h0 h' nx' (.arr id l::L)->K (.ptr id 0) h' nx'=.ok True):yX l h nx K=.ok True:=by
 unfold yX;rw [yO];exact hK _ _ _ (H.zeu false l)
theorem Hp.fq {esz n:Nat} {zero:List AV} {ps:List (Nat×Nat×AV)} (H:Hp h0 h nx L) (hf:gL (ni n zero) ps=some l) (hK:∀ id h' nx',Hp h0 h' nx' (.arr id l::L)->K (.sl id 0 n (some n) esz) h' nx'=.ok True):yS esz n zero ps h nx K=.ok True:=by
 unfold yS;rw [hf];show yV false l h nx _=_;rw [yO];exact hK _ _ _ (H.zeu false l)
theorem zpb (n:Nat) (z:AV):ni n [z]=List.replicate n z:=by
 induction n with
 | zero=>rfl
 | succ n ih=>show [z]++ni n [z]=_;rw [ih];rfl
theorem Hp.mkN {kl kc:IntKind} {esz bytes:Nat} {zero:List AV} {x y:Int} (H:Hp h0 h nx L) (hx:x=(n:Int)) (hy:y=(c:Int)) (h1:n<=c) (h2:c<=1000000) (h3:bytes*c<=281474976710656)
  (hK:∀ id h' nx',Hp h0 h' nx' (.arr id (ni c zero)::L)->K (.sl id 0 n (some c) esz) h' nx'=.ok True):q8 esz bytes zero (.int kl x) (.int kc y) h nx K=.ok True:=by
 subst hx;subst hy;show (bif Nat.ble n c&&Nat.ble c 1000000&&Nat.ble (bytes*c) 281474976710656 then yV false (ni c zero) h nx (λid h' nx'=>K (.sl id 0 n (some c) esz) h' nx') else Out.no 41)=_;rw [Zag h1,Zag h2,Zag h3];simp only [Zgq,cond_true];rw [yO];exact hK _ _ _ (H.zeu false _)
theorem Hp.mk1 {kl kc:IntKind} {bytes:Nat} {z:AV} {x y:Int} (n:Nat) (H:Hp h0 h nx L) (hx:x=(n:Int)) (hy:y=(n:Int)) (h2:n<=1000000) (h3:bytes<=281474976)
  (hK:∀ id h' nx',Hp h0 h' nx' (.arr id (List.replicate n z)::L)->K (.sl id 0 n (some n) 1) h' nx'=.ok True):q8 1 bytes [z] (.int kl x) (.int kc y) h nx K=.ok True :=
 H.mkN hx hy (Zaf _) h2 (by have:=Zbl h3 h2;omega) (by rw [zpb];exact hK)
theorem qc.load {op:AV->OP} (H:qc h id l) (hi:l[i]? = some v):zG (.ptr id i) h op=op v:=by
 obtain ⟨o,t,h1,h2⟩:=H;have hil:=(Zgw.1 hi).1;rw [zc6 h1 hil];have:=yN t 0 l.length i hil;rw [h2,hi,Zbg] at this;rw [Option.some.inj this]
theorem Hp.load {op:AV->OP} (H:Hp h0 h nx L) (hk:L[k]? = some (.arr id l)) (hi:l[i]? = some v):zG (.ptr id i) h op=op v :=
 qc.load (H.own _ (Zad hk)) hi
theorem zbj (t:T AV) (l:List AV) (i:Nat) (hi:i<l.length) (v:AV) (h:yY t 0 l.length=l):yY (T.set .u v (.of i) t) 0 l.length=l.set i v:=by
 apply Zbu;intro j;by_cases hj:j<l.length
 .rw [yN _ _ _ _ hj,Zbg,T.zbk,Zhn];by_cases e:j=i
  .subst e;simp [hj]
  .rw [if_neg e,if_neg (λq=>e q.symm)];have:=yN t 0 l.length j hj;rw [h,Zbg] at this;exact this.symm
 .rw [Zha (by simp;omega),Zha (by simp;omega)]
theorem qc.set {op:Bool} {t:T AV} (h1:T.get .no id h=.cells op l.length t) (h2:yY t 0 l.length=l) (hi:i<l.length):qc (T.set .no (.cells op l.length (T.set .u v (.of i) t)) id h) id (l.set i v) :=
 ⟨op,T.set .u v (.of i) t,by rw [T.get_set_same,Zan],by rw [Zan];exact zbj t l i hi v h2⟩
theorem Hp.store (H:Hp h0 h nx L) (hk:L[k]? = some (.arr id l)) (hi:i<l.length) (hv:v.cells=some [v]) (hK:∀ h',Hp h0 h' nx (L.set k (.arr id (l.set i v)))->K .u h' nx=.ok True):zV 1 (.ptr id i) v h nx K=.ok True:=by
 obtain ⟨o,t,h1,h2⟩:qc h id l:=H.own _ (Zad hk);rw [zbi h1 hi hv];exact hK _ (H.upd hk (by simp [Ob.names]) rfl (qc.set h1 h2 hi))
theorem Hp.app {esz bytes:Nat} {o:Option Pa} {x:AV} {new:List AV} (H:Hp h0 h nx L) (hk:L[k]? = some (.row o esz n l)) (hx:∀ (no:OP) (K':List AV->Nat->OP),xY x h no K'=K' new 1) (hne:new.length=esz) (hs:new.all qb=true)
  (he:1<=esz) (hb:bytes*1000000<=70368744177664) (hlim:l.length+1<=1000000) (hK:∀ o' h' nx',Hp h0 h' nx' (L.set k (.row o' esz (n+1) (l++new)))->K (uw o' esz (n+1)) h' nx'=.ok True) :
  rY esz bytes (uw o esz n) x h nx K=.ok True:=by
 have hc:(Nat.ble (bytes*1000000) 70368744177664&&Nat.beq new.length (1*esz)&&Nat.ble 1 esz&&new.all qb)=true:=by
  simp only [Zal,hs,and_true];exact ⟨⟨Zag hb,by rw [hne,Zey];exact Zbs _⟩,Zag he⟩
 unfold rY appA;rw [hx,hc,cond_true];have hkl:=(Zgw.1 hk).1;have hmem:=Zad hk;have hL:L=L.take k++.row o esz n l::L.drop (k+1):=by
  have hk:=hk;rw [Zgv hkl] at hk;rw [<- Option.some.inj hk];simp
 have hS:∀ x',L.set k x'=L.take k++x'::L.drop (k+1):=λx'=>by rw [Zdy,if_pos hkl]
 have zki:∀ x',(x'::(L.take k++L.drop (k+1))).Perm (L.set k x'):=λx'=>by
  rw [hS];exact (Zdq).symm
 have front:L.Perm (.row o esz n l::(L.take k++L.drop (k+1))):=by
  conv=>lhs;rw [hL]
  exact Zdq
 have own:=H.own _ hmem;cases o with
 | none =>
  obtain ⟨rfl,rfl⟩:=own;show (bif Nat.beq 1 0 then K .zb h nx else bif Nat.ble 1 1000000 then yV true new h nx (λid h' nx'=>K (.sl id 0 1 none esz) h' nx') else .no 31)=_;rw [yO];refine hK (some nx) _ _ ?_;refine Hp.perm (Hp.new ((H.perm front).drop) (x:=.row (some nx) esz 1 ([]++new)) rfl λh' e => ?_) (zki _);refine ⟨new.length,_,e,by simp [hne],by omega,by rw [hne];exact Nat.dvd_refl _,?_⟩;have:=qZ new;rw [hne] at this;simpa using this
 | some id =>
  obtain ⟨m,t,hb,hl,hm,hd,hrd⟩:=own;have hn:n+1<=1000000:=by
   have:n<=n*esz:=Nat.le_mul_of_pos_right _ he;omega
  by_cases hroom:(n+1)*esz<=m
  .show (bif Nat.beq esz esz&&Nat.ble (n+1) 1000000 then qm (T.get .no id h) _ (.no 35) else .no 36)=_;rw [hb,Zbs,Zag hn];show (bif Nat.ble (0+n*esz) m then (bif Nat.ble (0+(n+1)*esz) m then wJ id 0 n none esz true m t new 1 h nx K else _) else _)=_;rw [Zag (by omega),Zag (by omega)];show uF new t (0+n*esz) _=_;rw [jM,T.ul,yM,Zbg];refine hK (some id) _ _ (H.upd hk (by simp [Ob.names]) rfl ?_);refine ⟨m,_,T.get_set_same _ _ _ _,by simp [hl,hne,Zbn],hroom,hd,?_⟩;have:=dY t l new (n*esz) hrd;rw [hne] at this;rw [Zbn,Zey];exact this
  .have hmn:n*esz=m:=by
    obtain ⟨q,rfl⟩:=hd;have h1:esz*n<=esz*q:=by rw [Zby esz n];exact hm
    have h2:¬ esz*(n+1)<=esz*q:=by rw [Zby esz (n+1)];exact hroom
    have h3:n<=q:=Nat.le_of_mul_le_mul_left h1 he;have h4:¬ n+1<=q:=λh=>h2 (Zfa _ h);rw [show q=n by omega,Zby]
   show (bif Nat.beq esz esz&&Nat.ble (n+1) 1000000 then qm (T.get .no id h) _ (.no 35) else .no 36)=_;rw [hb,Zbs,Zag hn];show (bif Nat.ble (0+n*esz) m then (bif Nat.ble (0+(n+1)*esz) m then wJ id 0 n none esz true m t new 1 h nx K else (bif true&&Nat.beq (0+n*esz) m&&Nat.beq 0 0 then bC id n esz m t new 1 h nx K else .no 33)) else _)=_;have hnot:Nat.ble (0+(n+1)*esz) m=false:=by
    cases hq:Nat.ble (0+(n+1)*esz) m with
    | false=>rfl
    | true=>have:=yG hq;omega
   have hbq:Nat.beq (0+n*esz) m=true:=by rw [Zbg,hmn];exact Zbs _
   rw [Zag (by omega),hnot,hbq];show uF new t m _=_;rw [jM,yM,T.ul,T.ul,yM];refine hK (some nx) _ _ (Hp.perm (Hp.new (b:=.cells true (m+1*esz) (gQ new t m)) (x:=.row (some nx) esz (n+1) (l++new)) (h:=T.set .no .no id h) ?_ rfl λh' e => ?_) (zki _))
   .have H2:=H.perm front;have hid:T.get .no id h0=.no:=H2.off id (by simp [Ob.names]);have H3:=H2.drop;have nd:=H2.nd;simp only [Zdf,Ob.names,Option.toList] at nd;have hni:id∉(L.take k++L.drop (k+1)).flatMap Ob.names:=λhi=>(Zcy.1 nd).2.2 id (by simp) id hi rfl;have other:∀ j,j≠id->T.get .no j (T.set .no .no id h)=T.get .no j h:=λj hj=>T.zx _ _ _ _ _ hj;refine ⟨λj hj => ?_,λy hy => ?_,H3.off,H3.nd,λj hj => ?_⟩
    .rw [other j (by rintro rfl;exact hj hid)];exact H.keep j hj
    .exact (H3.own y hy).congr λm hm=>other m (by rintro rfl;exact hni (Zca.2 ⟨y,hy,hm⟩))
    .by_cases e:j=id
     .subst e;exact T.get_set_same _ _ _ _
     .rw [other j e];exact H.fr j hj
   .refine ⟨m+1*esz,_,e,by simp [hl,hne,Zbn],by rw [<- hmn,Zbn];omega,?_,?_⟩
    .rw [Zey];exact Nat.dvd_add hd (Nat.dvd_refl _)
    .have:=dY t l new (n*esz) hrd;rw [hne] at this;rw [Zbn,Zey,<- hmn];exact this
theorem sIx {e':Nat} {cap:Option Nat} {kk:IntKind} {j:Int} {op:AV->OP} (hj:j=(i:Int)) (hi:i<n):zJ 1 (.sl id 0 n cap e') (.int kk j) op=op (.ptr id i):=by
 subst hj;rw [uR hi];simp
theorem cu {e:Nat} {kk:IntKind} {j:Int} {op:AV->OP} (hj:j=(i:Int)) (hi:i<n):zJ e (.lst e n l) (.int kk j) op=op (.fp (l.drop (i*e))):=by
 subst hj;rw [ziy hi]
def rJ:AV->Bool
 | .bool _ | .int _ _ | .str _ | .sV | .zb | .esl | .sW | .sO=>true
 | .lst _ _ l=>nns l
 | .fp l=>nns l
 | _=>false
theorem rJ.qb:∀ {v:AV},rJ v=true->Ev.qb v=true:=by
 intro v h;cases v <;> first | rfl | (simp [rJ] at h)
theorem rJ.nn:∀ {v:AV},rJ v=true->Ev.nn v=true:=by
 intro v h;cases v <;> first | rfl | (simp [rJ] at h;done) | (simpa [rJ,Ev.nn] using h)
theorem qE:∀ {l:List AV},(∀ v∈l,rJ v=true)->nns l=true
 | [],_=>rfl
 | a::l,h=>by simp [nns,rJ.nn (h a (by simp)),qE (l:=l) λv hv=>h v (by simp [hv])]
theorem zS {N:Pa->Prop} {O:AV->Prop} {hh:T Blk}:∀ {v:AV},rJ v=true->Frz True N O hh v v:=by
 intro v h
 cases v <;> first
  |(simp [rJ] at h;done)
  | exact .bool _ | exact .int _ _ | exact .str _ | exact .sV | exact .zb | exact .esl | exact .sW | exact .sO
  | exact .lst _ _ _ trivial h
  | exact .fp _ trivial h
theorem qc.frz {N:Pa->Prop} {O:AV->Prop} {cap:Option Nat} {e n:Nat} (H:qc h id l) (hid:N id) (hcap:zkg n cap) (hl:l.length=n*e) (hf:∀ v∈l,rJ v=true):Frz True N O h (.sl id 0 n cap e) (.lst e n l):=by
 obtain ⟨op,t,h1,h2⟩:=H;refine .sl _ _ _ _ _ op _ t _ hid hcap h1 (by omega) hl (Zaw.2 λv hv=>rJ.qb (hf v hv)) λi v hi => ?_;have:=yN t 0 l.length i (Zgw.1 hi).1;rw [h2,hi] at this;rw [<- Option.some.inj this];exact zS (hf v (Zad hi))
theorem Hp.zi0 {cap:Option Nat} {e n:Nat} (H:Hp h0 h nx L) (hk:L[k]? = some (.arr id l)) (hcap:zkg n cap) (hl:l.length=n*e) (hf:∀ v∈l,rJ v=true):tN h0 h (.sl id 0 n cap e) (.lst e n l) :=
 qc.frz (H.own _ (Zad hk)) (H.off id (Zca.2 ⟨_,Zad hk,by simp [Ob.names]⟩)) hcap hl hf
theorem zT {P:Program} {B:Nat} {f:Nat} {args:List AV} {Q:AV->Prop}
  (hk:∀ (h:T Blk) (nx:Pa) (K:Kw Prop),Hp h h nx []->(∀ v h' nx' L v',Hp h h' nx' L->tN h h' v v'->Q v'->K v h' nx'=.ok True)->(CS P B).fn f (.of f) args h nx K=.ok True):Pure P B f args Q :=
 zs7 λh nx K hf hK=>hk h nx K (Hp.init hf) λv h' nx' _ v' H hF hQ=>hK v h' nx' H.fr H.keep ⟨v',hF,hQ⟩
theorem j4 {N:Pa->Prop} {O:AV->Prop} {hh:T Blk} {a b a' b':AV} (h1:Frz True N O hh a a') (h2:Frz True N O hh b b'):Frz True N O hh (.tup [a,b]) (.tup [a',b']):=by
 refine .tup _ _ rfl λi v v' hi hi' => ?_
 match i with
 | 0=>simp at hi hi';subst hi;subst hi';exact h1
 | 1=>simp at hi hi';subst hi;subst hi';exact h2
 | i+2=>simp at hi
theorem zgr {N:Pa->Prop} {O:AV->Prop} {hh:T Blk} {a b c a' b' c':AV} (h1:Frz True N O hh a a') (h2:Frz True N O hh b b') (h3:Frz True N O hh c c'):Frz True N O hh (.tup [a,b,c]) (.tup [a',b',c']):=by
 refine .tup _ _ rfl λi v v' hi hi' => ?_
 match i with
 | 0=>simp at hi hi';subst hi;subst hi';exact h1
 | 1=>simp at hi hi';subst hi;subst hi';exact h2
 | 2=>simp at hi hi';subst hi;subst hi';exact h3
 | i+3=>simp at hi
end Go.Ev
namespace Go.Ev
open Go
def rowL {α:Type} (W:Nat) (d:Nat->α):List α:=(List.range W).map d
section
variable {α:Type} {W:Nat} {d d':Nat->α} {j:Nat} {v:α}
@[simp] theorem zgs:(rowL W d).length=W:=by simp [rowL]
def tabL (N W:Nat) (D:Nat->Nat->α):List (List α):=rowL N λi=>rowL W (D i)
variable {N k:Nat} {D D':Nat->Nat->α}
@[simp] theorem zvv:(tabL N W D).length=N:=zgs
end
end Go.Ev
namespace Go.Ev
open Go
abbrev encI (l:List Int):AV:=.lst 1 l.length (l.map I)
abbrev uf (ll:List (List Int)):AV:=.lst 1 ll.length (ll.map encI)
theorem zx9 (l:List Int):nns (l.map I)=true:=qE λv hv=>by
 obtain ⟨x,_,rfl⟩:=Zar.1 hv;rfl
theorem zl5 (l:List Int):rJ (encI l)=true:=zx9 l
theorem sF {l:List Int} {i:Nat} {x:Int} (h:l[i]? = some x):(l.map I)[i]? = some (I x):=by rw [Zgx,h];rfl
theorem getT {ll:List (List Int)} {i:Nat} {l:List Int} (h:ll[i]? = some l):(ll.map encI)[i]? = some (encI l):=by rw [Zgx,h];rfl
theorem ldL {h:T Blk} {l:List AV} {i:Nat} {v:AV} {op:AV->OP} (hv:l[i]? = some v):zG (.fp (l.drop (i*1))) h op=op v:=by rw [Zbv];exact ziz hv
def tEq:T AV->T AV->Bool
 | .e,.e=>true
 | .n l v r,.n l' v' r'=>eH v v'&&tEq l l'&&tEq r r'
 | _,_=>false
theorem zi1:∀ {a b:T AV},tEq a b=true->a=b
 | .e,.e,_=>rfl
 | .e,.n ..,h=>by simp [tEq] at h
 | .n ..,.e,h=>by simp [tEq] at h
 | .n l v r,.n l' v' r',h=>by
  simp only [tEq,Zal] at h;rw [vJ h.1.1,zi1 h.1.2,zi1 h.2]
def esEq:List (AV×AV)->List (AV×AV)->Bool
 | [],[]=>true
 |(a,b)::l,(c,d)::m=>eH a c&&eH b d&&esEq l m
 | _,_=>false
theorem zkj:∀ {a b:List (AV×AV)},esEq a b=true->a=b
 | [],[],_=>rfl
 | [],_::_,h=>by simp [esEq] at h
 | _::_,[],h=>by simp [esEq] at h
 |(a,b)::l,(c,d)::m,h=>by
  simp only [esEq,Zal] at h;rw [vJ h.1.1,vJ h.1.2,zkj h.2]
def c9:Blk->Blk->Bool
 | .no,_=>true
 | .cells op n t,.cells op' n' t'=>op==op'&&Nat.beq n n'&&tEq t t'
 | .map n l,.map n' l'=>Nat.beq n n'&&esEq l l'
 | _,_=>false
theorem zi2:∀ {a b:Blk},c9 a b=true->a≠.no->b=a:=by
 intro a b h hn
 cases a <;> cases b <;> first
  | exact (hn rfl).elim
  |(simp [c9] at h;done)
  |(simp only [c9,Zal] at h
    first
     |(obtain ⟨⟨h1,h2⟩,h3⟩:=h;rw [eq_of_beq h1,yP h2,zi1 h3])
     |(rw [yP h.1,zkj h.2]))
def zbl:T Blk->T Blk->Bool
 | .e,_=>true
 | .n l v r,.n l' v' r'=>c9 v v'&&zbl l l'&&zbl r r'
 | .n ..,.e=>false
theorem zbm:∀ {h h':T Blk},zbl h h'=true->∀ id,T.get .no id h≠.no->T.get .no id h'=T.get .no id h
 | .e,_,_,id,hn=>(hn (T.rV _ id)).elim
 | .n ..,.e,h,_,_=>by simp [zbl] at h
 | .n l v r,.n l' v' r',h,id,hn=>by
  simp only [zbl,Zal] at h;cases id with
  | z=>rw [T.zkk] at hn ⊢;rw [T.zkk];exact zi2 h.1.1 hn
  | l p=>rw [T.zc7] at hn ⊢;rw [T.zc7];exact zbm h.1.2 p hn
  | r p=>rw [T.zc8] at hn ⊢;rw [T.zc8];exact zbm h.2 p hn
def allEq (f:Nat->Out AV) (v:AV):List Nat->Bool
 | []=>true
 | i::l=>match f i with
  | .ok u=>bif eH u v then allEq f v l else false
  | .no _=>false
theorem zgt {f:Nat->Out AV} {v:AV}:∀ {l:List Nat},allEq f v l=true->∀ i∈l,f i=.ok v
 | [],_,i,hi=>by simp at hi
 | j::l,h,i,hi=>by
  simp only [allEq] at h;cases hf:f j with
  | no=>simp [hf] at h
  | ok u =>
   rw [hf] at h;cases hq:eH u v with
   | false=>simp [hq] at h
   | true =>
    simp [hq] at h;rcases Zas.1 hi with rfl | hi
    .rw [hf,vJ hq]
    .exact zgt h i hi
def zpc (L:List Nat) (f:Nat->Out AV):Out AV:=match L with
 | []=>.no 70
 | i::l=>match f i with
  | .ok v=>bif allEq f v l then .ok v else .no 71
  | .no n=>.no n
theorem zpd {L:List Nat} {f:Nat->Out AV} {r:AV} (h:zpc L f=.ok r):∀ i∈L,f i=.ok r:=by
 cases L with
 | nil=>cases h
 | cons i l =>
  simp only [zpc] at h;cases hf:f i with
  | no=>simp [hf] at h
  | ok v =>
   rw [hf] at h;cases hq:allEq f v l with
   | false=>simp [hq] at h
   | true =>
    simp [hq] at h;subst h;intro j hj;rcases Zas.1 hj with rfl | hj
    .exact hf
    .exact zgt hq j hj
def letK (h:T Blk):Kw AV:=λv h' _=>bif zbl h h' then (match fzB 20 h h' v with
 | some v'=>.ok v'
 | none=>.no 72) else .no 73
def dJ (S:Nat->Bool) (J:Nat->List AV->T Blk->Option (AV×T Blk)) (fns:T (Option Fn)) (fuel:Nat) (n:Nat):Calls AV :=
 Nat.rec ⟨λ_ _ _ _ _ _=>.no 80,λ_ _ _ _ _=>.no 81,λ_ _=>.no 79⟩ (λ_ C=>⟨λf p args h nx K=>Option.rec (motive:=λ_=>Out AV)
  (Bool.rec (zP fns fuel C p args h nx K) (Out.rec (motive:=λ_=>Out AV) (λv=>K v h nx) (λn=>.no n) (zP fns fuel C p args h nx (letK h))) (S f))
  (λx=>Prod.rec (motive:=λ_=>Out AV) (λv h=>K v h nx) x) (J f args h),zed fuel C,zpc⟩) n
variable {P:Program} {B:Nat}
theorem zc9 {S:Nat->Bool} {J:Nat->List AV->T Blk->Option (AV×T Blk)} {fns:T (Option Fn)} (hT:zc1 P fns) (hD:bG P B AV) (hJ:JOk P B J) (fuel:Nat):∀ n,COk P B (dJ S J fns fuel n)
 | 0=>⟨λ_ _ hk=>(by cases hk),λ_ _ _ hk=>(by cases hk),λ_ _ _ hk=>(by cases hk)⟩
 | n+1=>by
  have ih:=zc9 (S:=S) hT hD hJ fuel n;refine ⟨λ{E h nx w f args vs K r} H hv hk => ?_,λH hE hv hk=>zcs ih (hD ih) H hE hv hk,λ_ _ _ hk=>zpd hk⟩
  have hk:Option.rec (motive:=λ_=>Out AV)
   (Bool.rec (zP fns fuel (dJ S J fns fuel n) (.of f) args h nx K) (Out.rec (motive:=λ_=>Out AV) (λv=>K v h nx) (λn=>.no n) (zP fns fuel (dJ S J fns fuel n) (.of f) args h nx (letK h))) (S f))
   (λx=>Prod.rec (motive:=λ_=>Out AV) (λv h=>K v h nx) x) (J f args h)=.ok r:=hk
  cases hj:J f args h with
  | none =>
   rw [hj] at hk;cases hs:S f with
   | false=>rw [hs] at hk;exact vG hT ih (hD ih) H hv hk
   | true =>
    rw [hs] at hk;have hk:Out.rec (motive:=λ_=>Out AV) (λv=>K v h nx) (λn=>.no n) (zP fns fuel (dJ S J fns fuel n) (.of f) args h nx (letK h))=.ok r:=hk;cases hc:zP fns fuel (dJ S J fns fuel n) (.of f) args h nx (letK h) with
    | no m=>rw [hc] at hk;cases hk
    | ok v' =>
     rw [hc] at hk;have hk:K v' h nx=.ok r:=hk;obtain ⟨fn,h1,h2,h3,h4⟩:=vG hT ih (hD ih) H hv hc;refine ⟨fn,h1,h2,h3,λn=>(h4 n).mono λe w' he => ?_⟩
     cases e <;> first
      | exact he.elim
      |(obtain ⟨av,h',nx',E',k1,k2,k3,k4⟩:=he
        unfold letK at k1;cases hq:zbl h h' with
        | false=>simp [hq] at k1
        | true =>
         rw [hq,cond_true] at k1;cases hz:fzB 20 h h' av with
         | none=>simp [hz] at k1
         | some v2 =>
          simp [hz] at k1;subst k1;have hkp:kS h h':=zbm hq;obtain ⟨r1,r2,_⟩:=zc5 H k3 k4 hkp;exact ⟨v2,h,nx,_,hk,zix H k3 k4 hkp (zet 20 hz) k2,r1,r2⟩)
  | some x =>
   obtain ⟨v,h2⟩:=x;rw [hj] at hk;obtain ⟨fn,h1,h2,h3,h4⟩:=hJ H hv hj;refine ⟨fn,h1,h2,h3,λn=>(h4 n).mono λe w' he => ?_⟩;obtain ⟨u,E',rfl,q1,q2,q3⟩:=he;exact ⟨v,_,nx,E',hk,q1,q2,q3⟩
theorem jC {S:Nat->Bool} {J:Nat->List AV->T Blk->Option (AV×T Blk)} {fns:T (Option Fn)} (hT:zc1 P fns) (hm:P.follows .mixedOrders=true) (hJ:∀ B,JOk P B J) {fuel n f:Nat} {args:List AV} {r:AV} (ha:nns args=true) (hk:(dJ S J fns fuel n).fn f (.of f) args .e .z endK=.ok r) :
  Pure P B f args (· = r):=zl3 (λB=>zc9 hT (zbh hm) (hJ B) fuel n) ha hk
end Go.Ev
namespace Go.Ev
open Go Classical
variable {P:Program}
def zgu (tab:Nat->List (List AV×AV)) (J:Nat->List AV->T Blk->Option (AV×T Blk)) (f:Nat) (args:List AV) (h:T Blk):Option (AV×T Blk):=match (tab f).find? (λe=>xO e.1 args) with
 | some e=>some (e.2,h)
 | none=>J f args h
def gH (P:Program) (f:Nat) (l:List (List AV×AV)):Prop:=∀ e∈l,∀ B,Pure P B f e.1 (· = e.2)
theorem zev {tab:Nat->List (List AV×AV)} {J:Nat->List AV->T Blk->Option (AV×T Blk)} {B:Nat} (hm:∀ f,gH P f (tab f)) (hJ:JOk P B J):JOk P B (zgu tab J):=by
 intro E h nx w f args vs v h2 H hv hj;unfold zgu at hj;split at hj
 case h_2=>exact hJ H hv hj
 rename_i e he;cases hj
 have hq:=List.find?_some he;have hin:=List.mem_of_find?_eq_some he;have ea:e.1=args:=qH hq;have hc:=hm f e hin B .z h nx (λv h2 nx2=>if v=e.2/\h2=h/\nx2=nx then .ok True else .no 0) (λv hv _=>if_pos ⟨hv,rfl,rfl⟩);rw [ea,aW] at hc;obtain ⟨fn,h1,h2,h3,h4⟩:=hc.1 _ w vs H hv;refine ⟨fn,h1,h2,h3,λn=>(h4 n).mono λe' w' he' => ?_⟩
 cases e' <;> first
  | exact he'.elim
  |(obtain ⟨av,h2,nx',E1,k1,k2,k3,k4⟩:=he'
    have k1':(if av=e.2/\h2=h/\nx'=nx then (Out.ok True:Out Prop) else .no 0)=.ok True:=k1;split at k1'
    .rename_i hh;obtain ⟨rfl,rfl,rfl⟩:=hh;exact ⟨_,E1,rfl,k2,k3,k4⟩
    .cases k1')
end Go.Ev
namespace Go.Ev
open Go
abbrev KTm:=Tm->T Blk->Pa->OP
section
variable {C:Calls Prop} {N:Nat} {O:fK Prop} {K:Ks Prop}
theorem zA (a b:IR) (tm:T AV) (h:T Blk) (nx:Pa):IR.run (.seq a b) C N O K tm h nx=IR.run a C N O (IR.run b C N O K) tm h nx:=rfl
theorem jN (l:List RO) (tm:T AV) (h:T Blk) (nx:Pa):IR.run (.reg l) C N O K tm h nx=zZ l C ⟨tm,[]⟩ h nx (λtm h nx=>K tm.v h nx):=rfl
theorem zB (c:Arg) (a b:IR) (tm:T AV) (h:T Blk) (nx:Pa):IR.run (.cond c a b) C N O K tm h nx=yH (c.ev ⟨tm,[]⟩) (IR.run a C N O K tm h nx) (IR.run b C N O K tm h nx):=rfl
theorem zE (tm:T AV) (h:T Blk) (nx:Pa):IR.run .skip C N O K tm h nx=K tm h nx:=rfl
theorem zX (i:Nat) (tm:T AV) (h:T Blk) (nx:Pa):IR.run (.exit i) C N O K tm h nx=O.ex i tm h nx:=rfl
theorem zF (tm:T AV) (h:T Blk) (nx:Pa):IR.run .ret C N O K tm h nx=O.rt tm h nx:=rfl
end
theorem zda (want:Bool) (op:(AV->OP)->OP) {K:AV->OP}:sG .u want op K=K .u:=nr rfl
theorem yE {fns:T (Option Fn)} {f:Nat} {F:Fn} {b:IR} {fr:T AV} {args:List AV} {C:Calls Prop} {N:Nat} {K:Kw Prop} {h:T Blk} {nx:Pa} (h1:T.get none (.of f) fns=some F) (h2:∀ k:T AV->OP,kP F.params args F.init k=k fr) (h3:F.body=b):zP fns N C (.of f) args h nx K=IR.run b C N (fnO F.res K) (zi F.res K) fr h nx:=by
 rw [yK h1,h2,h3]
end Go.Ev
namespace Go.Ev
open Go
variable {h0 h h':T Blk} {nx:Pa} {L L':List Ob} {K:KW3} {k i n c:Nat} {id:Pa} {l:List AV} {v:AV}
theorem mR {x:Ob} (hk:L[k]? = some x):L=L.take k++x::L.drop (k+1)/\∀ x',L.set k x'=L.take k++x'::L.drop (k+1):=by
 have hkl:=(Zgw.1 hk).1;refine ⟨?_,λx'=>by rw [Zdy,if_pos hkl]⟩;rw [Zgv hkl] at hk;rw [<- Option.some.inj hk];simp
theorem Hp.front {x:Ob} (H:Hp h0 h nx L) (hk:L[k]? = some x):Hp h0 h nx (x::(L.take k++L.drop (k+1))):=by
 obtain ⟨e1,_⟩:=mR hk;refine H.perm ?_
 conv=>lhs;rw [e1]
 exact Zdq
theorem Hp.back {x x':Ob} (hk:L[k]? = some x) (H:Hp h0 h nx (x'::(L.take k++L.drop (k+1)))):Hp h0 h nx (L.set k x'):=by
 obtain ⟨_,e2⟩:=mR hk;rw [e2];exact H.perm List.perm_middle.symm
theorem Hp.kill (H:Hp h0 h nx (.gro (some id) c n l::L)):Hp h0 (T.set .no .no id h) nx L:=by
 have hid:T.get .no id h0=.no:=H.off id (by simp [Ob.names]);have H3:=H.drop;have nd:=H.nd;simp only [Zdf,Ob.names,Option.toList] at nd;have hni:id∉L.flatMap Ob.names:=λhi=>(Zcy.1 nd).2.2 id (by simp) id hi rfl;have other:∀ j,j≠id->T.get .no j (T.set .no .no id h)=T.get .no j h:=λj hj=>T.zx _ _ _ _ _ hj;refine ⟨λj hj => ?_,λy hy => ?_,H3.off,H3.nd,λj hj => ?_⟩
 .rw [other j (by rintro rfl;exact hj hid)];exact H.keep j hj
 .exact (H3.own y hy).congr λm hm=>other m (by rintro rfl;exact hni (Zca.2 ⟨y,hy,hm⟩))
 .by_cases e:j=id
  .subst e;exact T.get_set_same _ _ _ _
  .rw [other j e];exact H.fr j hj
theorem zbn:kS (T.set .no .no id h) h:=λj hj=>by
 by_cases e:j=id
 .subst e;exact (hj (T.get_set_same _ _ _ _)).elim
 .exact (T.zx _ _ _ _ _ e).symm
theorem Hp.appN {esz bytes:Nat} {o:Option Pa} {x:AV} {new:List AV} (H:Hp h0 h nx L) (hk:L[k]? = some (.gro o esz n l)) (hx:∀ (no:OP) (K':List AV->Nat->OP),xY x h no K'=K' new c) (hne:new.length=c*esz) (hs:new.all qb=true)
  (he:1<=esz) (hb:bytes*1000000<=70368744177664) (hlim:n+c<=1000000) (hK:∀ o' h' nx',(o≠none\/1<=c->o'≠none)->Hp h0 h' nx' (L.set k (.gro o' esz (n+c) (l++new)))->K (uw o' esz (n+c)) h' nx'=.ok True) :
  rY esz bytes (uw o esz n) x h nx K=.ok True:=by
 have hc:(Nat.ble (bytes*1000000) 70368744177664&&Nat.beq new.length (c*esz)&&Nat.ble 1 esz&&new.all qb)=true:=by
  simp only [Zal,hs,and_true];exact ⟨⟨Zag hb,by rw [hne];exact Zbs _⟩,Zag he⟩
 unfold rY appA;rw [hx,hc,cond_true];have own:=H.own _ (Zad hk);have HF:=H.front hk;cases o with
 | none =>
  obtain ⟨rfl,rfl⟩:=own;by_cases hc0:c=0
  .subst hc0;obtain rfl:new=[]:=by simpa using hne
   show K .zb h nx=_;refine hK none _ _ (λq=>by rcases q with q | q <;> first | exact (q rfl).elim | omega) (H.cast ?_);rw [(mR hk).2];exact (mR hk).1
  .show (bif Nat.beq c 0 then K .zb h nx else bif Nat.ble c 1000000 then yV true new h nx (λid h' nx'=>K (.sl id 0 c none esz) h' nx') else .no 31)=_;rw [aK hc0,Zag (by omega),cond_false,cond_true];rw [yO];rw [Zbg] at hK;refine hK (some nx) _ _ (λ_=>by simp) (Hp.back hk (Hp.new HF.drop (x:=.gro (some nx) esz c ([]++new)) rfl λh' e => ?_));refine ⟨_,by rw [e,hne],by simp [hne],?_⟩;have:=qZ new;rw [hne] at this;simpa using this
 | some id =>
  obtain ⟨t,hb,hl,hrd⟩:=own;show (bif Nat.beq esz esz&&Nat.ble (n+c) 1000000 then qm (T.get .no id h) _ (.no 35) else .no 36)=_;rw [hb,Zbs,Zag hlim];have hwr:=dY t l new (n*esz) hrd;rw [hne,<- Zbn] at hwr;by_cases hc0:c=0
  .subst hc0;obtain rfl:new=[]:=by simpa using hne
   show (bif Nat.ble (0+n*esz) (n*esz) then (bif Nat.ble (0+(n+0)*esz) (n*esz) then wJ id 0 n none esz true (n*esz) t [] 0 h nx K else _) else _)=_;rw [Zag (by omega),Zag (by simp),cond_true,cond_true];unfold wJ;rw [jM,T.ul,yM,Zbg];exact hK (some id) _ _ (λ_=>by simp) (H.upd hk (by simp [Ob.names]) rfl ⟨_,T.get_set_same _ _ _ _,by simp [hl],hwr⟩)
  .have hlt:n*esz<(n+c)*esz:=by
    rw [Zbn];have:1*1<=c*esz:=Zbl (by omega) he;omega
   show (bif Nat.ble (0+n*esz) (n*esz) then (bif Nat.ble (0+(n+c)*esz) (n*esz) then wJ id 0 n none esz true (n*esz) t new c h nx K else (bif true&&Nat.beq (0+n*esz) (n*esz)&&Nat.beq 0 0 then bC id n esz (n*esz) t new c h nx K else .no 33)) else _)=_;rw [Zag (by omega),bleF (by omega),eU (Zbg _)];simp only [Zbs,Zgq,cond_true,cond_false];unfold bC;rw [jM,yM,T.ul,T.ul,yM];refine hK (some nx) _ _ (λ_=>by simp) (Hp.back hk (Hp.new (b:=.cells true (n*esz+c*esz) (gQ new t (n*esz))) HF.kill rfl λh' e => ?_));exact ⟨_,by rw [e,Zbn],by simp [hl,hne,Zbn],hwr⟩
theorem Hp.zi3 {o:Option Pa} {e:Nat} (H:Hp h0 h nx (.gro o e n l::L)) (hf:∀ v∈l,rJ v=true):∃ h',kS h' h/\Hp h0 h' nx L/\tN h' h (uw o e n) (.lst e n l):=by
 cases o with
 | none =>
  obtain ⟨rfl,rfl⟩:=H.own _ (Zaj ..);exact ⟨h,λ_ _=>rfl,H.drop,.aX e⟩
 | some id =>
  refine ⟨_,zbn,H.kill,?_⟩;obtain ⟨t,h1,h2,h3⟩:=H.own _ (Zaj ..);refine .sl _ _ _ _ _ true _ t _ (T.get_set_same _ _ _ _) trivial h1 (by omega) h2 (Zaw.2 λv hv=>rJ.qb (hf v hv)) λi v hi => ?_;have:=yN t 0 (n*e) i (by rw [<- h2];exact (Zgw.1 hi).1);rw [h3,hi] at this;rw [<- Option.some.inj this];exact zS (hf v (Zad hi))
theorem Hp.ak {o:Option Pa} {e:Nat} (H:Hp h0 h nx L) (hk:L[k]? = some (.gro o e n l)) (hf:∀ v∈l,rJ v=true):tN h0 h (uw o e n) (.lst e n l):=by
 have own:=H.own _ (Zad hk);have hoff:=H.off;cases o with
 | none=>obtain ⟨rfl,rfl⟩:=own;exact .aX e
 | some id =>
  obtain ⟨t,h1,h2,h3⟩:=own;refine .sl _ _ _ _ _ true _ t _ (hoff id (Zca.2 ⟨_,Zad hk,by simp [Ob.names]⟩)) trivial h1 (by omega) h2 (Zaw.2 λv hv=>rJ.qb (hf v hv)) λi v hi => ?_;have:=yN t 0 (n*e) i (by rw [<- h2];exact (Zgw.1 hi).1);rw [h3,hi] at this;rw [<- Option.some.inj this];exact zS (hf v (Zad hi))
theorem qc.rd {cap:Option Nat} {e:Nat} (H:qc h id l) (hl:l.length=n*e) (no:OP) (K':List AV->Nat->OP):xY (.sl id 0 n cap e) h no K'=K' l n:=by
 obtain ⟨op,t,h1,h2⟩:=H;show qm (T.get .no id h) (λ_ m t=>bif Nat.ble (0+n*e) m then K' (yY t 0 (n*e)) n else no) no=_;rw [h1];show (bif Nat.ble (0+n*e) l.length then K' (yY t 0 (n*e)) n else no)=_;rw [Zag (by omega),cond_true,<- hl,h2]
theorem Hp.zya (H:Hp h0 h nx L) (hm : .arr id l∈L):T.get .no id h0=.no:=H.off id (Zca.2 ⟨_,hm,by simp [Ob.names]⟩)
theorem Hp.copy {z:AV} {new:List AV} {w:AV} {bytes:Nat} (H:Hp h0 h nx L) (hr:∀ h1,kS h0 h1->∀ (no:OP) (K':List AV->Nat->OP),xY w h1 no K'=K' new c) (hl:new.length=c) (hf:∀ v∈new,rJ v=true) (hb:bytes*1000000<=70368744177664) (hc:c<=1000000)
  (hK:∀ (v:AV) (X:Ob) (h':T Blk) (nx':Pa),Hp h0 h' nx' (X::L)->v.cells=some [v]->qb v=true->(∀ h0' h'' nx'' L'',Hp h0' h'' nx'' L''->X∈L''->tN h0' h'' v (.lst 1 c new))->K v h' nx'=.ok True) :
  (yS 1 0 [z] [] h nx λv1 h1 n1=>rY 1 bytes v1 w h1 n1 K)=.ok True:=by
 refine H.fq (l:=[]) rfl λe h1 n1 H1 => ?_;have hs:new.all qb=true:=Zaw.2 λv hv=>rJ.qb (hf v hv);unfold rY appA;rw [hr _ H1.keep];have hcc:(Nat.ble (bytes*1000000) 70368744177664&&Nat.beq new.length (c*1)&&Nat.ble 1 1&&new.all qb)=true:=by
  simp only [Zal,hs,and_true];exact ⟨⟨Zag hb,by rw [hl,Zbv];exact Zbs _⟩,rfl⟩
 rw [hcc,cond_true];obtain ⟨op,t,g1,g2⟩:qc h1 e []:=H1.own _ (Zaj ..);show (bif Nat.beq 1 1&&Nat.ble (0+c) 1000000 then qm (T.get .no e h1) _ (.no 35) else .no 36)=_;rw [g1,Zag (by omega)];show (bif Nat.ble (0+c) 0 then (bif Nat.ble (0+(0+c)*1) 0 then wJ e 0 0 (some 0) 1 op 0 t new c h1 n1 _ else .no 32) else wI 0 0 1 t new c h1 n1 _)=_;by_cases hc0:c=0
 .subst hc0;obtain rfl:new=[]:=Zda hl;rw [show Nat.ble (0+0) 0=true from rfl,cond_true,cond_true];unfold wJ;rw [jM,T.ul,yM];refine hK (.sl e 0 0 (some 0) 1) (.arr e []) _ _ (H1.upd (k:=0) (x':=.arr e []) rfl (by simp [Ob.names]) rfl ⟨op,_,T.get_set_same _ _ _ _,rfl⟩) rfl rfl λh0' h'' nx'' L'' H'' hm => ?_;exact qc.frz (H''.own _ hm) (H''.zya hm) (Zaf _) rfl (by simp)
 .rw [bleF (by omega),cond_false];unfold wI;rw [yO,yM]
  have H2:Hp h0 (T.set .no (.cells true new.length (gQ new .e 0)) n1 h1) n1.succ (.gro (some n1) 1 c new::L) :=
   Hp.new (x:=.gro (some n1) 1 c new) H1.drop rfl λh' q=>⟨_,by rw [q,hl,Zbv],by rw [hl,Zbv],by have:=qZ new;rw [hl] at this;rw [Zbv];exact this⟩
  rw [Zbg];refine hK (.sl n1 0 c none 1) _ _ _ H2 rfl rfl λh0' h'' nx'' L'' H'' hm => ?_;obtain ⟨q,hq⟩:=Zau.1 hm;exact H''.ak (o:=some n1) hq hf
theorem mC {P:Program} {B f:Nat} {p:Pa} {cap args:List AV}:zae (CS P B) (.fn f p cap) args h nx K=(CS P B).fn f p (args++cap) h nx K:=nr rfl
theorem zbo (o:Option Pa) (e n:Nat):(uw o e n).cells=some [uw o e n]:=by cases o <;> rfl
end Go.Ev
namespace Go.Ev
open Go
variable {h0 h:T Blk} {nx:Pa} {L:List Ob}
theorem qG {i n d:Nat} (h:i<=n):bnd (some (I (i:Int))) n d=some i:=by
 show (bif Nat.ble i n then some i else none)=_;rw [Zag h];rfl
theorem Hp.qbn {k e n i:Nat} {o:Option Pa} {l:List AV} {op:AV->OP} (H:Hp h0 h nx L) (hk:L[k]? = some (.gro o e n l)) (hi:i<=n):wX e (uw o e n) none (some (I (i:Int))) none op=op (uw o e i):=by
 cases o with
 | none =>
  obtain ⟨_,rfl⟩:=H.own _ (Zad hk);obtain rfl:i=0:=by omega
  rfl
 | some id =>
  show (bif Nat.beq e e then (match bnd (some (I (i:Int))) n n with | none=>Out.no 17 | some h=>match bnd none h 0 with | none=>.no 17 | some l=>bif Nat.beq l 0 then op (.sl id 0 h none e) else _) else _)=_;rw [Zbs,cond_true,qG hi]
  rfl
theorem Hp.oD {K:AV->T Blk->Pa->OP} {k e n i:Nat} {id:Pa} {l:List AV} {v:AV} (H:Hp h0 h nx L) (hk:L[k]? = some (.gro (some id) e n l)) (hi:i<l.length) (hv:v.cells=some [v]) (hK:∀ h',Hp h0 h' nx (L.set k (.gro (some id) e n (l.set i v)))->K .u h' nx=.ok True):zV 1 (.ptr id i) v h nx K=.ok True:=by
 obtain ⟨t,h1,h2,h3⟩:=H.own _ (Zad hk);rw [zbi h1 (by omega) hv];refine hK _ (H.upd hk (by simp [Ob.names]) rfl ⟨T.set .u v (.of i) t,by rw [T.get_set_same],by rw [Zan];exact h2,?_⟩);rw [<- h2];exact zbj t l i hi v (by rw [h2];exact h3)
theorem Hp.zkl {k e n i:Nat} {id:Pa} {l:List AV} {v:AV} {op:AV->OP} (H:Hp h0 h nx L) (hk:L[k]? = some (.gro (some id) e n l)) (hi:l[i]? = some v):zG (.ptr id i) h op=op v:=by
 obtain ⟨t,h1,h2,h3⟩:=H.own _ (Zad hk);exact qc.load ⟨true,t,by rw [h1,h2],by rw [h2];exact h3⟩ hi
end Go.Ev
namespace Go.Ev
open Go
variable {h0 h h':T Blk} {nx:Pa} {L L':List Ob} {K:KW3} {k i n c:Nat} {id:Pa} {l:List AV} {v:AV} {P:Program} {B:Nat}
abbrev u8 (v:Nat):AV:=.int .u8 (v:Int)
theorem zdb {n i:Nat} {seen:List Nat}:i∈zf3 n seen↔i<n/\i∉seen:=by
 simp [zf3]
theorem Hp.range {es:List (AV×AV)} (H:Hp h0 h nx L) (hk:L[k]? = some (.map id es)) (hK:∀ it h' nx',Hp h0 h' nx' (.iter it id es.length [] es.length::L)->K (.ptr it 0) h' nx'=.ok True):zod (.map id) h nx K=.ok True:=by
 have own:T.get .no id h=.map _ _:=H.own _ (Zad hk);show rM (T.get .no id h) _ _=_;rw [own];show T.fV Blk.no (.iter id es.length [] es.length) nx h (λh'=>K (.ptr nx 0) h' nx.succ)=_;rw [T.ul];exact hK _ _ _ (H.new rfl λh' e=>e)
theorem Hp.next {es:List (AV×AV)} {it:Pa} {j:Nat} {seen:List Nat} (H:Hp h0 h nx L) (hk:L[k]? = some (.iter it id es.length seen c)) (hm:L[j]? = some (.map id es))
  (hK0:(∀ i,i<es.length->i∈seen)->K (.tup [.bool false]) h nx=.ok True)
  (hK1:∀ (i:Nat) a b h',i<es.length->i∉seen->es[i]? = some (a,b)->Hp h0 h' nx (L.set k (.iter it id es.length (i::seen) es.length))->K (.tup [.bool true,a,b]) h' nx=.ok True):zvh (CS P B) (.ptr it 0) h nx K=.ok True:=by
 have own:T.get .no it h=.iter _ _ _ _:=H.own _ (Zad hk);have own2:T.get .no id h=.map _ _:=H.own _ (Zad hm);show oL (T.get .no it h) _ _=_;rw [own];show rM (T.get .no id h) _ _=_;rw [own2]
 show (bif Nat.beq es.length es.length then (match zf3 es.length seen with
  | []=>K (.tup [.bool false]) h nx
  | i::is=>(CS P B).pk (i::is) λi=>match es[i]? with
   | some (a,b)=>T.fV Blk.no (.iter id es.length (i::seen) es.length) it h λh'=>K (.tup [.bool true,a,b]) h' nx
   | none=>.no 56) else .no 56)=_
 rw [Zbs,cond_true];cases hl:zf3 es.length seen with
 | nil =>
  refine hK0 λi hi=>Classical.byContradiction λhn => ?_;have:=zdb.2 ⟨hi,hn⟩;rw [hl] at this;cases this
 | cons i is =>
  refine zvr.2 ⟨λq hq => ?_,rfl⟩;rw [<- hl] at hq;obtain ⟨h1,h2⟩:=zdb.1 hq;have e:es[q]? = some (es[q].1,es[q].2):=Zgv h1;rw [e];simp only [T.ul];exact hK1 q _ _ _ h1 h2 e (H.upd hk (by simp [Ob.names]) rfl (T.get_set_same _ _ _ _))
theorem Hp.zam (H:Hp h0 h nx L) (hK:∀ id h' nx',Hp h0 h' nx' (.map id []::L)->K (.map id) h' nx'=.ok True):zo5 h nx K=.ok True:=by
 unfold zo5;rw [T.ul];exact hK _ _ _ (H.new rfl λh' e=>e)
theorem Hp.zm {op:AV->OP} (H:Hp h0 h nx L) (hk:L[k]? = some (.arr id l)) (hl:l.length=n):zK n (.ptr id 0) h op=op (.agg l):=by
 obtain ⟨o,t,h1,h2⟩:=H.own _ (Zad hk);show qm (T.get .no id h) _ _=_;rw [h1];show (bif Nat.ble (0+n) l.length then op (.agg (yY t 0 n)) else .no 8)=_;rw [Zag (by omega),cond_true,<- hl,h2]
theorem Hp.jh {l2:List AV} (H:Hp h0 h nx L) (hk:L[k]? = some (.arr id l)) (hl:l.length=n) (hl2:l2.length=n) (hK:∀ h',Hp h0 h' nx (L.set k (.arr id l2))->K .u h' nx=.ok True):zV n (.ptr id 0) (.agg l2) h nx K=.ok True:=by
 obtain ⟨o,t,h1,h2⟩:=H.own _ (Zad hk);show qm (T.get .no id h) _ _=_;rw [h1];show (bif Nat.beq l2.length n&&Nat.ble (0+n) l.length then uF l2 t 0 (λt'=>T.fV Blk.no (.cells o l.length t') id h λh'=>K .u h' nx) else .no 42)=_;rw [eU hl2,Zag (by omega)];simp only [Zgq,cond_true];rw [jM,T.ul];refine hK _ (H.upd hk (by simp [Ob.names]) rfl ⟨o,_,by rw [T.get_set_same,hl,hl2],?_⟩);apply Zbu;intro i;by_cases hi:i<l2.length
 .rw [yN _ _ _ _ hi,Zbg,u6,if_pos (by omega)];simp [Zaa,hi]
 .rw [Zha (by simp;omega),Zha (by omega)]
theorem sFx {o p:Nat} {op:AV->OP}:zM p (.ptr id o) op=op (.ptr id (o+p)):=by
 show pq (o+p) (λo=>op (.ptr id o))=_;rw [yM]
theorem Hp.zdc {o:Option Pa} {j:Nat} (H:Hp h0 h nx L) (hk:L[k]? = some (.gro o 1 n l)) (hj:l[j]? = some v):∃ id,(∀ (kk:IntKind) (op:AV->OP),zJ 1 (uw o 1 n) (.int kk (j:Int)) op=op (.ptr id j))/\∀ op:AV->OP,zG (.ptr id j) h op=op v:=by
 have own:=H.own _ (Zad hk);have hjl:=(Zgw.1 hj).1;cases o with
 | none=>obtain ⟨rfl,_⟩:=own;simp at hj
 | some id =>
  obtain ⟨t,h1,h2,h3⟩:=own;refine ⟨id,λkk op=>by rw [uw,uR (by omega)];simp,λop => ?_⟩;rw [zc6 h1 (by omega)];have:=yN t 0 (n*1) j (by omega);rw [h3,hj,Zbg] at this;rw [Option.some.inj this]
theorem Hp.zbp {o:Option Pa} {e:Nat} {op:AV->OP} (H:Hp h0 h nx L) (hk:L[k]? = some (.gro o e n l)):sLen (uw o e n) op=op (I n):=by
 cases o with
 | none=>obtain ⟨_,rfl⟩:=H.own _ (Zad hk);rfl
 | some id=>rfl
end Go.Ev
namespace Go.Ev
open Go
variable {h0 h:T Blk} {nx:Pa} {L:List Ob}
theorem Hp.rf {N:Nat} {C:Calls Prop} {O:fK Prop} {K:Ks Prop} {tm:T AV} {f:Arg} {ps:List Pa} {a b:IR} {g:Nat} {p:Pa} {cap:List AV} (H:Hp h0 h nx L) (hf:f.ev ⟨tm,[]⟩=.fn g p cap)
  (hK:∀ id h' nx',Hp h0 h' nx' (.raw id (.loop .ready .none tm ps a b)::L)->C.fn g p (.yld id::cap) h' nx' (λ_ h nx'=>cD (T.get .no id h) (λst j _ _ _ _=>T.fV .no .no id h λh=>zvk O K st j tm h nx') (.no 63))=.ok True) :
  IR.run (.rf f ps a b) C N O K tm h nx=.ok True:=by
 show T.fV .no (.loop .ready .none tm ps a b) nx h (λh'=>asFn (f.ev ⟨tm,[]⟩) _ _ _)=_;rw [T.ul,hf];exact hK nx _ _ (Hp.new H rfl λh' e=>⟨e,by intro q;cases q⟩)
end Go.Ev
