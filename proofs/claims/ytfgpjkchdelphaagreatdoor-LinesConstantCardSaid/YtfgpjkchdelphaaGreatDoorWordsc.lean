import Derived.Test.YtfgpjkchdelphaaGreatDoorWordsb
import Derived.Test.YtfgpjkchdelphaaGreatDoorCodeb
import Derived.Test.YtfgpjkchdelphaaGreatDoorWordsa
import Derived.Test.YtfgpjkchdelphaaGreatDoorCodea
import Derived.Test.YtfgpjkchdelphaaGreatDoorEvD
set_option linter.unusedSimpArgs false
set_option linter.unusedVariables false
namespace Go.Ev
open Go Go.Proofs
structure Ee (n:Nat) (E:List (List Rat)) (P:List Nat):Prop where
 len:E.length=P.length
 row:∀ l∈E,l.length=n
 rng:∀ p∈P,p<n
 asc:P.Pairwise (· < ·)
 one:∀ a b,a<P.length->b<P.length->at' (E.getD a []) (P.getD b 0)=if a=b then 1 else 0
 lead:∀ a,a<P.length->∀ c,c<P.getD a 0->at' (E.getD a []) c=0
 sm:P.length<=11->∀ c:Nat->Nat,(∀ j,j<=P.length->c j<n)->∃ x:Nat->Int,(∃ j,j<=P.length/\x j≠0)/\(∀ j,(x j).natAbs<=ZB)/\∀ q∈E,dot q (plF n c (λi=>(x i:Rat)) (P.length+1))=0
theorem Gd.ee {w j:Nat} {M0 M:List (List Rat)} {P:List Nat} (h:Gd w M0 j M P) (hS:SmP M0) (hsg:∀ o∈M0,o.length=w/\∀ c,Sg (at' o c)):Ee w (M.take P.length) P:=by
 have hpm:=h.pm;have g:∀ a,a<P.length->(M.take P.length).getD a []=M.getD a []:=λa ha=>by
  rw [Zaa,List.getElem?_take_of_lt ha,<- Zaa]
 refine ⟨by rw [Zah];omega,λl hl=>h.row l (Zbt hl),λp hp=>Zcj (h.rng p hp) h.jw,h.asc,λa b ha hb=>by rw [g a ha];exact h.one a b ha hb,λa ha c hc=>by rw [g a ha];exact h.lead a ha c hc,λhP c hc => ?_⟩;obtain ⟨O,hol,hom,hker,_⟩:=h.org;obtain ⟨x,h1,h2,h3⟩:=hS O c hom (by omega);rw [hol] at h1;refine ⟨x,h1,h2,λq hq => ?_⟩;obtain ⟨a,ha⟩:=List.mem_iff_getElem?.1 hq;have hal:=(List.getElem?_eq_some_iff.1 ha).1;rw [Zah] at hal;have hqa:M.getD a []=q:=by rw [<- g a (by omega),Zaa,ha];rfl
 rw [<- hqa];refine hker _ (uK _) (λo ho => ?_) a (by omega);rw [kI (hsg o (hom o ho)).1 _ λi hi=>hc i (by omega)];have:=h3 o ho;rw [hol] at this;exact this
theorem cK {P:List Nat} (h:P.Pairwise (· < ·)):P.Nodup:=h.imp λh=>Nat.ne_of_lt h
theorem c6 {P:List Nat} (h:P.Nodup) {a b:Nat} (ha:a<P.length) (hb:b<P.length) (hab:a≠b):P.getD a 0≠P.getD b 0:=λq=>by
 have ga:=jZ (l:=P) (i:=a) (d:=0) ha;have gb:=jZ (l:=P) (i:=b) (d:=0) hb;rw [<- q,<- ga] at gb;exact hab ((List.getElem?_inj hb h).1 gb).symm
theorem zfe {n c j:Nat} {E:List (List Rat)} {P:List Nat}:∀ k,(∀ a,a<k->P.getD a 0≠j)->at' (kvF n E P c k) j=at' (gC n c) j
 | 0,_=>rfl
 | k+1,h=>by
  rw [kvF,at',Zaa,List.getElem?_set_ne (h k (by omega)),<- Zaa];exact zfe k λa ha=>h a (by omega)
theorem zln {n c:Nat} {E:List (List Rat)} {P:List Nat} {g:List Rat} (hE:Ee n E P) (hc:c<n) (hcP:c∉P) (hg:g.length=n):∀ k,k<=P.length->dot (kvF n E P c k) g=at' g c-sR k λb=>at' (E.getD b []) c*at' g (P.getD b 0)
 | 0,_=>by
  rw [kvF,jU,qS hg hc];show _=at' g c-0
  grind
 | k+1,hk=>by
  have hpn:=hE.rng _ (zY (l:=P) (i:=k) (d:=0) (by omega));have h0:at' (kvF n E P c k) (P.getD k 0)=0:=by
   rw [zfe k λa ha=>zym hE.asc ha (by omega),dR,if_neg];exact λq=>hcP (by rw [q.1];exact zY (by omega))
  rw [kvF,m7 _ _ _ _ (by rw [qI];exact hpn) (by rw [qI,hg]),zln hE hc hcP hg k (by omega),h0,sR]
  grind
theorem zry {n c:Nat} {E:List (List Rat)} {P:List Nat} {g:List Rat} (hE:Ee n E P) (hc:c<n) (hcP:c∉P) (hg:g.length=n):dot (rJ n E P c) g=at' g c-sR P.length λb=>at' (E.getD b []) c*at' g (P.getD b 0):=zln hE hc hcP hg _ (Zaf _)
theorem zwc {n c j:Nat} {E:List (List Rat)} {P:List Nat} (hj:j∉P):at' (rJ n E P c) j=if c=j/\j<n then 1 else 0:=by
 rw [zfe _ λa ha q=>hj (by rw [<- q];exact zY ha),dR]
theorem fJ {n c:Nat} {ps:List Nat}:c∈frQ n ps↔c<n/\c∉ps:=by
 unfold frQ;rw [Zby,Zbc];simp
theorem xR (n:Nat) (ps:List Nat):(frQ n ps).Nodup:=(Zdw (n:=n)).sublist Zdj
theorem zrz {n c:Nat} {E:List (List Rat)} {P:List Nat} (hE:Ee n E P) (hc:c<n) (hcP:c∉P):∀ q∈E,dot q (rJ n E P c)=0:=λq hq=>by
 obtain ⟨a,ha⟩:=List.mem_iff_getElem?.1 hq;have hal:=(List.getElem?_eq_some_iff.1 ha).1;have hlen:=hE.len;have hqa:E.getD a []=q:=by rw [Zaa,ha];rfl
 rw [jU,zry hE hc hcP (hE.row q hq),uQ (i:=a) (x:=λb=>at' (E.getD b []) c) λb hb => ?_,if_pos (by omega),hqa]
 .grind
 .rw [<- hqa,hE.one a b (by omega) hb,Zfn]
theorem zh3 {n:Nat} {P:List Nat} (hnd:P.Nodup) (hr:∀ p∈P,p<n) (H:Nat->Rat):sR n H=(sR P.length λa=>H (P.getD a 0))+sR (frQ n P).length λi=>H ((frQ n P).getD i 0):=by
 have e1:=zfd hnd hr (λj=>if j∈P then H j else 0) λk hk=>if_neg hk;have e2:=zfd (xR n P) (λx hx=>(fJ.1 hx).1) (λj=>if j∈frQ n P then H j else 0) λk hk=>if_neg hk;have e3:sR n H=sR n (λj=>(if j∈P then H j else 0)+if j∈frQ n P then H j else 0):=yW λj hj=>by
  by_cases q:j∈P
  .rw [if_pos q,if_neg λw=>(fJ.1 w).2 q];grind
  .rw [if_neg q,if_pos (fJ.2 ⟨hj,q⟩)];grind
 rw [e3,bQ,<- e1,<- e2]
 congr 1
 .exact yW λa ha=>if_pos (zY ha)
 .exact yW λa ha=>if_pos (zY ha)
theorem zlo (F:Nat->Nat->Rat) (m:Nat):∀ k,sR k (λi=>sR m λj=>F i j)=sR m λj=>sR k λi=>F i j
 | 0=>(uP λ_ _=>rfl).symm
 | k+1=>by rw [sR,zlo F m k,<- bQ];exact yW λj _=>rfl
theorem zlp {a b:List Rat} {n:Nat} (ha:a.length=n) (hb:b.length=n):dot a b=sR n λj=>at' a j*at' b j:=by rw [zrq _ _ (by rw [ha,hb]),ha]
theorem zlq {n:Nat} {E:List (List Rat)} {P:List Nat} {v g:List Rat} (hE:Ee n E P) (hv:v.length=n) (hg:g.length=n) (hk:∀ q∈E,dot q v=0):dot v g=sR (frQ n P).length λi=>at' v ((frQ n P).getD i 0)*dot (rJ n E P ((frQ n P).getD i 0)) g:=by
 have hnd:=cK hE.asc;have hlen:=hE.len;have hpv:∀ b,b<P.length->at' v (P.getD b 0) = -(sR (frQ n P).length λi=>at' v ((frQ n P).getD i 0)*at' (E.getD b []) ((frQ n P).getD i 0)):=λb hb=>by
  have hm:=zY (l:=E) (i:=b) (d:=[]) (by omega);have e:=hk _ hm;rw [zlp (hE.row _ hm) hv,zh3 hnd hE.rng,uQ (i:=b) (x:=λa=>at' v (P.getD a 0)) (λa ha=>by rw [hE.one b a hb ha]),if_pos hb] at e;have e2:(sR (frQ n P).length λi=>at' (E.getD b []) ((frQ n P).getD i 0)*at' v ((frQ n P).getD i 0))=sR (frQ n P).length λi=>at' v ((frQ n P).getD i 0)*at' (E.getD b []) ((frQ n P).getD i 0):=yW λi _=>Zfn ..;rw [e2] at e
  grind
 have e1:(sR (frQ n P).length λi=>at' v ((frQ n P).getD i 0)*dot (rJ n E P ((frQ n P).getD i 0)) g)=(sR (frQ n P).length λi=>at' v ((frQ n P).getD i 0)*at' g ((frQ n P).getD i 0)) + -1*sR (frQ n P).length λi=>sR P.length λb=>at' v ((frQ n P).getD i 0)*at' (E.getD b []) ((frQ n P).getD i 0)*at' g (P.getD b 0):=by
  rw [<- dU,<- bQ];refine yW λi hi => ?_;have hm:=fJ.1 (zY (l:=frQ n P) (i:=i) (d:=0) hi);rw [zry hE hm.1 hm.2 hg];have e3:(sR P.length λb=>at' v ((frQ n P).getD i 0)*at' (E.getD b []) ((frQ n P).getD i 0)*at' g (P.getD b 0))=at' v ((frQ n P).getD i 0)*sR P.length λb=>at' (E.getD b []) ((frQ n P).getD i 0)*at' g (P.getD b 0):=by
   rw [<- dU];exact yW λb _=>Rat.mul_assoc ..
  rw [e3]
  grind
 rw [e1,zlo,zlp hv hg,zh3 hnd hE.rng];have e4:(sR P.length λa=>at' v (P.getD a 0)*at' g (P.getD a 0)) = -1*sR P.length λb=>sR (frQ n P).length λi=>at' v ((frQ n P).getD i 0)*at' (E.getD b []) ((frQ n P).getD i 0)*at' g (P.getD b 0):=by
  rw [<- dU];refine yW λb hb => ?_;rw [hpv b hb];have e5:(sR (frQ n P).length λi=>at' v ((frQ n P).getD i 0)*at' (E.getD b []) ((frQ n P).getD i 0)*at' g (P.getD b 0))=at' g (P.getD b 0)*sR (frQ n P).length λi=>at' v ((frQ n P).getD i 0)*at' (E.getD b []) ((frQ n P).getD i 0):=by
   rw [<- dU];exact yW λi _=>by rw [Zfn]
  rw [e5]
  grind
 rw [e4]
 grind
theorem cG {n:Nat} {ps:List Nat} (hnd:ps.Nodup) (hr:∀ p∈ps,p<n):(frQ n ps).length+ps.length=n:=by
 have h1:((List.range n).filter λx=>decide (x∈ps)).length=ps.length:=by
  refine (vF (l:=ps) hnd (λx hx => ?_) ?_).length_eq
  .exact List.mem_filter.2 ⟨List.mem_range.2 (hr x hx),by simpa using hx⟩
  .have hn2:((List.range n).filter λx=>decide (x∈ps)).Nodup:=(Zdw (n:=n)).sublist Zdj;obtain ⟨s,hs⟩:=pQ _ ps hn2 λx hx=>by simpa using (List.mem_filter.1 hx).2
   have:=hs.length_eq;rw [Zae] at this;omega
 have h2:=List.length_eq_countP_add_countP (λx=>decide (x∈ps)) (l:=List.range n);rw [Zdd,List.countP_eq_length_filter,List.countP_eq_length_filter,h1] at h2;have e:(List.range n).filter (λa=>decide (¬ (λx=>decide (x∈ps)) a=true))=frQ n ps:=by
  unfold frQ;refine Zen λx _ => ?_;by_cases c:x∈ps <;> simp [c]
 rw [e] at h2;omega
theorem zr0 {i k j:Nat} {li lr:List Rat} {M:List (List Rat)} (hk:k<M.length) (f:List Rat):dot ((rP i k j li lr M).getD k []) f=(at' li j)⁻¹*dot li f:=by
 rw [xL hk,if_pos rfl,uT]
theorem zr1 {w i k j a:Nat} {li lr:List Rat} {M:List (List Rat)} {f:List Rat} (hrow:∀ l∈M,l.length=w) (hli:M[i]? = some li) (hlr:M[k]? = some lr) (ha:a<M.length) (hne:a≠k) (hr:dot li f=0):dot ((rP i k j li lr M).getD a []) f=dot (if a=i then lr else M.getD a []) f:=by
 have hs:swR i k lr (yQ (at' li j)⁻¹ li) M a=if a=i then lr else M.getD a []:=by unfold swR;rw [if_neg hne]
 have hl:(if a=i then lr else M.getD a []).length=(yQ (at' li j)⁻¹ li).length:=by
  rw [uA,hrow _ (Zad hli)];split
  .exact hrow _ (Zad hlr)
  .exact hrow _ (zY ha)
 rw [xL ha,if_neg hne,hs,j3 _ _ _ _ hl,uT,hr,Zbg,Zbg];grind
structure Ge (w:Nat) (K0:List (List Rat)) (j:Nat) (M:List (List Rat)) (P:List Nat):Prop where
 gd:Gd w K0 j M P
 ml:M.length=K0.length
 per:∃ s:Nat->Nat,(∀ a,a<K0.length->s a<K0.length)/\(∀ a b,a<K0.length->b<K0.length->s a=s b->a=b)/\(∀ f:List Rat,f.length=w->((∀ b,b<P.length->dot (M.getD b []) f=0)↔∀ b,b<P.length->dot (K0.getD (s b) []) f=0))/\∀ a,P.length<=a->a<K0.length->∀ f:List Rat,f.length=w->(∀ b,b<P.length->dot (M.getD b []) f=0)->dot (M.getD a []) f=dot (K0.getD (s a) []) f
theorem Ge.start {w:Nat} {K0:List (List Rat)} (h:∀ l∈K0,l.length=w):Ge w K0 0 K0 [] :=
 ⟨Gd.start h,rfl,id,λa ha=>ha,λa b _ _ e=>e,λf _=>⟨λ_ b hb=>by simp at hb,λ_ b hb=>by simp at hb⟩,λa _ _ f _ _=>rfl⟩
theorem Ge.skip {w j:Nat} {K0 M:List (List Rat)} {P:List Nat} (h:Ge w K0 j M P) (hj:j<w) (hz:∀ i' l,P.length<=i'->M[i']? = some l->l.getD j 0=0):Ge w K0 (j+1) M P:=⟨h.gd.skip hj hz,h.ml,h.per⟩
theorem Ge.piv {w j i:Nat} {K0 M:List (List Rat)} {P:List Nat} {li lr:List Rat} (h:Ge w K0 j M P) (hj:j<w) (hi:P.length<=i) (hli:M[i]? = some li) (hlr:M[P.length]? = some lr) (hv:li.getD j 0≠0):Ge w K0 (j+1) (rP i P.length j li lr M) (P++[j]):=by
 have him:=(List.getElem?_eq_some_iff.1 hli).1;have hkm:=(List.getElem?_eq_some_iff.1 hlr).1;have gi:M.getD i []=li:=by rw [Zaa,hli];rfl
 have gk:M.getD P.length []=lr:=by rw [Zaa,hlr];rfl
 have hml:(rP i P.length j li lr M).length=M.length:=by unfold rP tV;rw [Zde,Zan,Zan,Zan]
 have plen:(P++[j]).length=P.length+1:=by rw [Zae,Zbh]
 have hm:=h.ml;obtain ⟨s,s1,s2,s3,s4⟩:=h.per;have hv':at' li j≠0:=hv;have d0:=λf=>zr0 (i:=i) (k:=P.length) (j:=j) (li:=li) (lr:=lr) hkm f;have liz:∀ f,dot ((rP i P.length j li lr M).getD P.length []) f=0->dot li f=0:=λf e=>by
  rw [d0] at e
  grind
 have dA:=λf a (ha:a<M.length) (hne:a≠P.length) (hr:dot li f=0)=>zr1 (j:=j) h.gd.row hli hlr ha hne hr;have low:∀ f a,a<P.length->dot li f=0->dot ((rP i P.length j li lr M).getD a []) f=dot (M.getD a []) f:=λf a ha hr=>by
  rw [dA f a (by omega) (by omega) hr,if_neg (by omega)]
 obtain ⟨t,ht⟩:∃ t:Nat->Nat,t=λa=>if a=P.length then s i else if a=i then s P.length else s a:=⟨_,rfl⟩
 have tk:t P.length=s i:=by rw [ht];exact if_pos rfl
 have ti:i≠P.length->t i=s P.length:=λe=>by rw [ht];show (if i=P.length then _ else _)=_;rw [if_neg e,if_pos rfl]
 have to:∀ a,a≠P.length->a≠i->t a=s a:=λa e1 e2=>by rw [ht];show (if a=P.length then _ else _)=_;rw [if_neg e1,if_neg e2]
 have old:∀ f:List Rat,f.length=w->(∀ b,b<(P++[j]).length->dot ((rP i P.length j li lr M).getD b []) f=0)->dot li f=0/\∀ b,b<P.length->dot (M.getD b []) f=0:=λf hf hz=>by
  have hl:=liz f (hz P.length (by omega));exact ⟨hl,λb hb=>by rw [<- low f b hb hl];exact hz b (by omega)⟩
 refine ⟨h.gd.piv hj hi hli hlr hv,by rw [hml,hm],t,λa ha => ?_,λa b ha hb e => ?_,λf hf=>⟨λhz b hb => ?_,λhz b hb => ?_⟩,λa ha ham f hf hz => ?_⟩
 .by_cases e1:a=P.length
  .rw [e1,tk];exact s1 i (by omega)
  .by_cases e2:a=i
   .subst e2;rw [ti e1];exact s1 _ (by omega)
   .rw [to a e1 e2];exact s1 a ha
 .have inj:=s2;by_cases a1:a=P.length <;> by_cases b1:b=P.length
  .omega
  .rw [a1,tk] at e;by_cases b2:b=i
   .subst b2;rw [ti b1] at e;have:=inj _ _ (by omega) (by omega) e;omega
   .rw [to b b1 b2] at e;have:=inj _ _ (by omega) hb e;omega
  .rw [b1,tk] at e;by_cases a2:a=i
   .subst a2;rw [ti a1] at e;have:=inj _ _ (by omega) (by omega) e;omega
   .rw [to a a1 a2] at e;have:=inj _ _ ha (by omega) e;omega
  .by_cases a2:a=i <;> by_cases b2:b=i
   .omega
   .subst a2;rw [ti a1,to b b1 b2] at e;have:=inj _ _ (by omega) hb e;omega
   .subst b2;rw [ti b1,to a a1 a2] at e;have:=inj _ _ ha (by omega) e;omega
   .rw [to a a1 a2,to b b1 b2] at e;exact inj _ _ ha hb e
 .obtain ⟨hl,ho⟩:=old f hf hz;rw [plen] at hb;by_cases e:b=P.length
  .rw [e,tk,<- s4 i hi (by omega) f hf ho,gi];exact hl
  .rw [to b e (by omega)];exact (s3 f hf).1 ho b (by omega)
 .have ho:∀ b,b<P.length->dot (M.getD b []) f=0:=(s3 f hf).2 λb hb=>by
   have:=hz b (by omega)
   rwa [to b (by omega) (by omega)] at this
  have hl:dot li f=0:=by
   have:=hz P.length (by omega);rw [tk,<- s4 i hi (by omega) f hf ho,gi] at this;exact this
  rw [plen] at hb;by_cases e:b=P.length
  .rw [e,d0,hl,Zbg]
  .rw [low f b (by omega) hl];exact ho b (by omega)
 .obtain ⟨hl,ho⟩:=old f hf hz;rw [plen] at ha;rw [dA f a (by omega) (by omega) hl];by_cases e:a=i
  .subst e;rw [if_pos rfl,ti (by omega),<- gk];exact s4 P.length (Zaf _) (by omega) f hf ho
  .rw [if_neg e,to a (by omega) e];exact s4 a (by omega) ham f hf ho
theorem zwd {n c0:Nat} {c:Nat->Nat} {x:Nat->Rat} {k:Nat} (hc:∀ i,i<k->c i<n) (h0:c0<n):at' (plF n c x k) c0=sR k λi=>(if c i=c0 then 1 else 0)*x i:=by
 rw [<- qS (uK k) h0,jU,kI (gB n c0) _ hc];refine yW λi hi => ?_;rw [dR];by_cases e:c i=c0
 .rw [if_pos e,if_pos ⟨e.symm,hc i hi⟩]
 .rw [if_neg e,if_neg λq=>e q.1.symm]
theorem Ge.small {n j:Nat} {E M:List (List Rat)} {P P2:List Nat} (hE:Ee n E P) (hP:P.length<=11) (h:Ge n ((frQ n P).map (rJ n E P)) j M P2) {a:Nat} (ha:a<M.length):∃ t,1<=t/\t<=ZB/\∀ c,Dn t ZB (at' (M.getD a []) c):=by
 have hnd:=cK hE.asc;have hcount:=cG hnd hE.rng;have hKl:((frQ n P).map (rJ n E P)).length=(frQ n P).length:=Zai ..;have hml:=h.ml;rw [hKl] at hml;have hg:=h.gd;have hpm:=hg.pm;obtain ⟨s,s1,s2,s3,s4⟩:=h.per;rw [hKl] at s1 s2 s4;have Kget:∀ b,b<(frQ n P).length->((frQ n P).map (rJ n E P)).getD b []=rJ n E P ((frQ n P).getD b 0):=λb hb=>bZ hb;have Fm:∀ b,b<(frQ n P).length->(frQ n P).getD b 0<n/\(frQ n P).getD b 0∉P:=λb hb=>fJ.1 (zY hb);have Finj:∀ b b',b<(frQ n P).length->b'<(frQ n P).length->(frQ n P).getD b 0=(frQ n P).getD b' 0->b=b':=λb b' hb hb' e=>Classical.byContradiction λq=>c6 (xR n P) hb hb' q e;have kF:∀ b b',b<(frQ n P).length->b'<(frQ n P).length->dot (((frQ n P).map (rJ n E P)).getD (s b) []) (gC n ((frQ n P).getD (s b') 0))=if b=b' then 1 else 0:=λb b' hb hb'=>by
  have f1:=Fm _ (s1 b' hb');rw [Kget _ (s1 b hb),qS (qI ..) f1.1,zwc f1.2];by_cases e:b=b'
  .rw [if_pos e,if_pos ⟨by rw [e],f1.1⟩]
  .rw [if_neg e,if_neg λq=>e (s2 b b' hb hb' (Finj _ _ (s1 b hb) (s1 b' hb') q.1))]
 have kill:∀ b',P2.length<=b'->b'<(frQ n P).length->∀ b,b<P2.length->dot (M.getD b []) (gC n ((frQ n P).getD (s b') 0))=0:=λb' h1 h2=>(s3 _ (gB ..)).2 λb hb=>by rw [kF b b' (by omega) h2,if_neg (by omega)]
 have rowl:∀ b,b<M.length->(M.getD b []).length=n:=λb hb=>hg.row _ (zY hb);have P2n:∀ b,b<P2.length->P2.getD b 0<j:=λb hb=>hg.rng _ (zY hb);have hjn:=hg.jw;obtain ⟨z,hz⟩:∃ z:Nat->Nat,z=λb=>if b<P2.length then P2.getD b 0 else (frQ n P).getD (s b) 0:=⟨_,rfl⟩
 have zl:∀ b,b<P2.length->z b=P2.getD b 0:=λb hb=>by rw [hz];exact if_pos hb
 have zh:∀ b,P2.length<=b->z b=(frQ n P).getD (s b) 0:=λb hb=>by rw [hz];exact if_neg (by omega)
 have zn:∀ b,b<(frQ n P).length->z b<n:=λb hb=>by
  by_cases e:b<P2.length
  .rw [zl b e];have:=P2n b e;omega
  .rw [zh b (by omega)];exact (Fm _ (s1 b hb)).1
 have Mz:∀ a b,a<M.length->b<(frQ n P).length->at' (M.getD a []) (z b)=if a=b then 1 else 0:=λa b ha hb=>by
  by_cases eb:b<P2.length
  .rw [zl b eb];by_cases ea:a<P2.length
   .exact hg.one a b ea eb
   .rw [hg.zer a (by omega) _ (P2n b eb),if_neg (by omega)]
  .rw [zh b (by omega),<- qS (rowl a ha) (Fm _ (s1 b hb)).1];by_cases ea:a<P2.length
   .rw [kill b (by omega) hb a ea,if_neg (by omega)]
   .rw [s4 a (by omega) (by omega) _ (gB ..) (kill b (by omega) hb),kF a b (by omega) hb]
 have zinj:∀ b b',b<(frQ n P).length->b'<(frQ n P).length->z b=z b'->b=b':=λb b' hb hb' e=>Classical.byContradiction λq=>by
  have e1:=Mz b b (by omega) hb;have e2:=Mz b b' (by omega) hb';rw [e,e2,if_neg q,if_pos rfl] at e1;exact absurd e1 (by decide)
 obtain ⟨Z,hZ⟩:∃ Z:List Nat,Z=((List.range (frQ n P).length).filter λb=>decide (b≠a)).map z:=⟨_,rfl⟩;have Zm:∀ y,y∈Z↔∃ b,b<(frQ n P).length/\b≠a/\z b=y:=λy=>by
  rw [hZ,Zas];constructor
  .rintro ⟨b,hb,rfl⟩;obtain ⟨h1,h2⟩:=List.mem_filter.1 hb;exact ⟨b,List.mem_range.1 h1,by simpa using h2,rfl⟩
  .rintro ⟨b,h1,h2,rfl⟩;exact ⟨b,List.mem_filter.2 ⟨List.mem_range.2 h1,by simpa using h2⟩,rfl⟩
 have Znd:Z.Nodup:=by
  rw [hZ];refine List.pairwise_map.2 ?_;have hr:((List.range (frQ n P).length).filter λb=>decide (b≠a)).Nodup:=(Zdw (n:=(frQ n P).length)).sublist Zdj;refine List.Pairwise.imp_of_mem (λ{x y} hx hy hne e => ?_) hr;exact hne (zinj x y (List.mem_range.1 (List.mem_filter.1 hx).1) (List.mem_range.1 (List.mem_filter.1 hy).1) e)
 have Zn:∀ y∈Z,y<n:=λy hy=>by
  obtain ⟨b,h1,_,rfl⟩:=(Zm y).1 hy;exact zn b h1
 have Zl:Z.length+1=(frQ n P).length:=by
  have e:Z.length=(frQ (frQ n P).length [a]).length:=by
   rw [hZ,Zai]
   congr 1
   unfold frQ;exact Zen λb _=>by by_cases q:b=a <;> simp [q]
  have:=cG (n:=(frQ n P).length) (ps:=[a]) (by simp) (by simp;omega);rw [Zbh] at this;omega
 have Zc:=cG Znd Zn;have hcl:(frQ n Z).length=P.length+1:=by omega
 obtain ⟨x,⟨i0,hi0,hx0⟩,hx,hxE⟩:=hE.sm hP (λi=>(frQ n Z).getD i 0) λi hi=>(fJ.1 (zY (l:=frQ n Z) (i:=i) (d:=0) (by omega))).1;have hcn:∀ i,i<P.length+1->(frQ n Z).getD i 0<n:=λi hi=>(fJ.1 (zY (l:=frQ n Z) (i:=i) (d:=0) (by omega))).1;obtain ⟨f,hf⟩:∃ f,f=plF n (λi=>(frQ n Z).getD i 0) (λi=>(x i:Rat)) (P.length+1):=⟨_,rfl⟩;rw [<- hf] at hxE;have hfl:f.length=n:=by rw [hf];exact uK _
 have fin:∀ i,i<P.length+1->at' f ((frQ n Z).getD i 0)=(x i:Rat):=λi hi=>by
  rw [hf,zwd hcn (hcn i hi),uQ (i:=i) (x:=λb=>(x b:Rat)) λb hb => ?_,if_pos hi];by_cases e:i=b
  .rw [if_pos e,if_pos (by rw [e])]
  .rw [if_neg e,if_neg (c6 (xR n Z) (by omega) (by omega) (Ne.symm e))]
 have fout:∀ y,y<n->y∈Z->at' f y=0:=λy hy hyZ=>by
  rw [hf,zwd hcn hy];refine uP λb hb => ?_;rw [if_neg,Zbm];intro q;exact (fJ.1 (zY (l:=frQ n Z) (i:=b) (d:=0) (by omega))).2 (by rw [q];exact hyZ)
 have fint:∀ y,∃ X:Int,at' f y=(X:Rat)/\X.natAbs<=ZB:=λy=>by
  by_cases hy:y<n
  .by_cases hyZ:y∈Z
   .exact ⟨0,fout y hy hyZ,by decide⟩
   .obtain ⟨i,hi⟩:=List.mem_iff_getElem?.1 (fJ.2 ⟨hy,hyZ⟩);have hil:=(List.getElem?_eq_some_iff.1 hi).1;have e:(frQ n Z).getD i 0=y:=by rw [Zaa,hi];rfl
    rw [<- e];exact ⟨x i,fin i (by omega),hx i⟩
  .exact ⟨0,jH (by omega),by decide⟩
 have Mker:∀ q∈E,dot q (M.getD a [])=0:=λq hq=>by
  have hql:=hE.row q hq;have hk:∀ b,b<(frQ n P).length->dot (((frQ n P).map (rJ n E P)).getD (s b) []) q=0:=λb hb=>by
   rw [Kget _ (s1 b hb),jU];exact zrz hE (Fm _ (s1 b hb)).1 (Fm _ (s1 b hb)).2 q hq
  have hpv:∀ b,b<P2.length->dot (M.getD b []) q=0:=(s3 q hql).2 λb hb=>hk b (by omega);rw [jU];by_cases ea:a<P2.length
  .exact hpv a ea
  .rw [s4 a (by omega) (by omega) q hql hpv];exact hk a (by omega)
 have hall:∀ c,at' f c=at' f (z a)*at' (M.getD a []) c:=λj0=>by
  by_cases hj0:j0<n
  case neg=>rw [jH (q:=f) (j:=j0) (by omega),jH (q:=M.getD a []) (j:=j0) (by rw [rowl a ha];omega),Zbg]
  obtain ⟨v,hv⟩:∃ v,v=jD (at' f (z a)) f (M.getD a []):=⟨_,rfl⟩;have hll:f.length=(M.getD a []).length:=by rw [hfl,rowl a ha]
  have hvl:v.length=n:=by rw [hv,jA hll];exact hfl
  have hva:∀ c,at' v c=at' f c-at' f (z a)*at' (M.getD a []) c:=λc=>by rw [hv,yY hll]
  have hvE:∀ q∈E,dot q v=0:=λq hq=>by rw [jU,hv,j3 _ _ _ _ hll,jU,hxE q hq,jU,Mker q hq];grind
  have hvz:∀ b,b<(frQ n P).length->at' v (z b)=0:=λb hb=>by
   rw [hva,Mz a b ha hb];by_cases e:b=a
   .rw [e,if_pos rfl];grind
   .rw [fout _ (zn b hb) ((Zm _).2 ⟨b,hb,e,rfl⟩),if_neg (Ne.symm e)];grind
  obtain ⟨g,hgd⟩:∃ g,g=plF n (tu P2.length P2 j0) (λb=>if b<P2.length then -(at' (M.getD b []) j0) else 1) (P2.length+1):=⟨_,rfl⟩;have hgl:g.length=n:=by rw [hgd];exact uK _
  have hgu:∀ u:List Rat,u.length=n->dot u g=(sR P2.length λb=>at' u (P2.getD b 0) * -(at' (M.getD b []) j0))+at' u j0:=λu hu=>by
   rw [hgd,kI hu _ λi hi => ?_,sR]
   .congr 1
    .refine yW λb hb => ?_;rw [tu,if_pos hb];show _*(if b<P2.length then _ else _)=_;rw [if_pos hb]
    .rw [tu,if_neg (Zcf _)];show _*(if P2.length<P2.length then _ else _)=_;rw [if_neg (Zcf _),Rat.mul_one]
   .unfold tu;split
    .rename_i hb;have:=P2n i hb;omega
    .exact hj0
  have gM:∀ b,b<P2.length->dot (M.getD b []) g=0:=λb hb=>by
   rw [hgu _ (rowl b (by omega)),uQ (i:=b) (x:=λb => -(at' (M.getD b []) j0)) λb' hb'=>by rw [hg.one b b' hb hb'],if_pos hb]
   grind
  have gK:=(s3 g hgl).1 gM;have e1:dot v g=0:=by
   rw [zlq hE hvl hgl hvE];refine uP λi hi => ?_;obtain ⟨b,hb,rfl⟩:∃ b,b<(frQ n P).length/\s b=i:=by
    have hsn:((List.range (frQ n P).length).map s).Nodup:=List.pairwise_map.2 (List.Pairwise.imp_of_mem (λ{x y} hx hy hne e=>hne (s2 x y (List.mem_range.1 hx) (List.mem_range.1 hy) e)) (Zdw (n:=(frQ n P).length)))
    have hp:=vF (l:=(List.range (frQ n P).length).map s) (r:=List.range (frQ n P).length) hsn (λy hy=>by
     obtain ⟨b,hb,rfl⟩:=List.mem_map.1 hy;exact List.mem_range.2 (s1 b (List.mem_range.1 hb))) (by simp)
    obtain ⟨b,hb,e⟩:=List.mem_map.1 (hp.mem_iff.1 (List.mem_range.2 hi));exact ⟨b,List.mem_range.1 hb,e⟩
   by_cases e:b<P2.length
   .have:=gK b e;rw [Kget _ (s1 b hb)] at this;rw [this,Zbg]
   .have:=hvz b hb;rw [zh b (by omega)] at this;rw [this,Zbm]
  rw [hgu v hvl,uP λb hb=>by
   have:=hvz b (by omega);rw [zl b hb] at this;rw [this,Zbm],Zgd,hva] at e1
  grind
 obtain ⟨X,hX,hXb⟩:=fint (z a);have hX0:X≠0:=λe=>by
  have e1:=fin i0 (by omega);rw [hall,hX,e,show ((0:Int):Rat)=0 from rfl,Zbm] at e1;exact wH hx0 e1.symm
 refine ⟨X.natAbs,by omega,hXb,λc => ?_⟩;obtain ⟨Y,hY,hYb⟩:=fint c;refine zhx (z:=Y) ?_ hYb;rw [<- hY,hall c,hX,Zfn]
theorem Ge.szP {n j i:Nat} {E M:List (List Rat)} {P P2:List Nat} {li lr:List Rat} (hE:Ee n E P) (hP:P.length<=11) (h:Ge n ((frQ n P).map (rJ n E P)) j M P2) (hj:j<n) (hi:P2.length<=i) (hli:M[i]? = some li) (hlr:M[P2.length]? = some lr) (hv:li.getD j 0≠0):zro j i li lr M P2.length:=by
 have hkm:=(List.getElem?_eq_some_iff.1 hlr).1;have hlil:=h.gd.row _ (Zad hli);have oD:∀ l∈M,jk ZB (l.getD j 0):=λl hl=>by
  obtain ⟨a,ha⟩:=List.mem_iff_getElem?.1 hl;have ham:=(List.getElem?_eq_some_iff.1 ha).1;have hla:M.getD a []=l:=by rw [Zaa,ha];rfl
  obtain ⟨t,t1,t2,t3⟩:=h.small hE hP ham;rw [<- hla];exact (t3 j).nm t1 t2
 have hml:(rP i P2.length j li lr M).length=M.length:=by unfold rP tV;rw [Zde,Zan,Zan,Zan]
 have hrow:∀ q∈li.map (· * (li.getD j 0)⁻¹),jk ZB q:=λq hq=>by
  have hq':q∈yQ (at' li j)⁻¹ li:=hq;obtain ⟨c,hc,rfl⟩:=dM hq';obtain ⟨t,t1,t2,t3⟩:=(h.piv hj hi hli hlr hv).small hE hP (a:=P2.length) (by rw [hml];exact hkm);have:=t3 c;rw [xL hkm,if_pos rfl] at this;exact this.nm t1 t2
 refine ⟨(oD li (Zad hli)).inv.qd (by decide),λq hq=>(hrow q hq).qd (by decide),λl hl q hq => ?_⟩;have hlj:jk ZB (l.getD j 0):=by
  rcases Zbe hl with e | e
  .rcases Zbe e with e | e
   .rcases Zbe e with e | e
    .exact oD l e
    .rw [e];exact oD _ (Zad hlr)
   .rw [e];exact oD _ (Zad hli)
  .rw [e];exact hrow _ (Zad (gY (q:=li.map (· * (li.getD j 0)⁻¹)) (j:=j) (by rw [Zai,hlil];exact hj)))
 exact (mO hlj (hrow q hq)).qd (by decide)
structure Rr (n:Nat) (V:List Rat->Prop) (R:List (List Rat)) (p:List Nat):Prop where
 len:R.length=p.length
 row:∀ l∈R,l.length=n/\V l
 rng:∀ x∈p,x<n
 asc:p.Pairwise (· < ·)
 one:∀ a b,a<p.length->b<p.length->at' (R.getD a []) (p.getD b 0)=if a=b then 1 else 0
 lead:∀ a,a<p.length->∀ c,c<p.getD a 0->at' (R.getD a []) c=0
 none:∀ v:List Rat,v.length=n->V v->(∀ a,a<p.length->at' v (p.getD a 0)=0)->∀ c,at' v c=0
def zci (v:List Rat) (R:List (List Rat)) (p:List Nat):Nat->List Rat
 | 0=>v
 | k+1=>jD (at' v (p.getD k 0)) (zci v R p k) (R.getD k [])
theorem zh4 {n:Nat} {V:List Rat->Prop} {R:List (List Rat)} {p:List Nat} {v:List Rat} (hV:∀ (b:Rat) (x y:List Rat),x.length=n->y.length=n->V x->V y->V (jD b x y)) (h:Rr n V R p) (hv:v.length=n) (hvV:V v):∀ k,k<=p.length->(zci v R p k).length=n/\V (zci v R p k)/\∀ c,at' (zci v R p k) c=at' v c-sR k λb=>at' v (p.getD b 0)*at' (R.getD b []) c
 | 0,_=>⟨hv,hvV,λc=>by show _=at' v c-0;rw [zci];grind⟩
 | k+1,hk=>by
  obtain ⟨h1,h2,h3⟩:=zh4 hV h hv hvV k (by omega);have hlen:=h.len;obtain ⟨hr,hrV⟩:=h.row _ (zY (l:=R) (i:=k) (d:=[]) (by omega));refine ⟨by rw [zci,jA (by rw [h1,hr])];exact h1,hV _ _ _ h1 hr h2 hrV,λc => ?_⟩;rw [zci,yY (by rw [h1,hr]),h3 c,sR];grind
theorem Rr.sub {n:Nat} {V:List Rat->Prop} {R R':List (List Rat)} {p p':List Nat} (hV:∀ (b:Rat) (x y:List Rat),x.length=n->y.length=n->V x->V y->V (jD b x y)) (h:Rr n V R p) (h':Rr n V R' p'):∀ x∈p,x∈p':=λx hx=>Classical.byContradiction λhx'=>by
 obtain ⟨a,ha⟩:=List.mem_iff_getElem?.1 hx;have hal:=(List.getElem?_eq_some_iff.1 ha).1;have hpa:p.getD a 0=x:=by rw [Zaa,ha];rfl
 have hlen:=h.len;obtain ⟨hvl,hvV⟩:=h.row _ (zY (l:=R) (i:=a) (d:=[]) (by omega));obtain ⟨u1,u2,u3⟩:=zh4 hV h' hvl hvV p'.length (Zaf _)
 have z:=h'.none _ u1 u2 (λb hb=>by
  rw [u3,uQ (i:=b) (x:=λc=>at' (R.getD a []) (p'.getD c 0)) λc hc => ?_,if_pos hb]
  .grind
  .rw [h'.one c b hc hb,Zfn];by_cases e:c=b
   .rw [if_pos e,if_pos e.symm]
   .rw [if_neg e,if_neg (Ne.symm e)]) x
 rw [u3,uP λb hb => ?_] at z
 .have e1:=h.one a a hal hal;rw [hpa,if_pos rfl] at e1;rw [e1] at z
  grind
 .rcases Zgw (p'.getD b 0) x with q | q | q
  .rw [h.lead a hal _ (by rw [hpa];exact q),Zbm]
  .exact absurd (by rw [<- q];exact zY hb) hx'
  .rw [h'.lead b hb _ q,Zbg]
theorem pZ {p:List Nat} {n:Nat} (h:p.Pairwise (· < ·)) (hr:∀ x∈p,x<n):p=(List.range n).filter λx=>decide (x∈p):=by
 refine List.Perm.eq_of_pairwise (le:=(· < ·)) (λa b _ _ h1 h2=>by omega) h ((List.pairwise_lt_range (n:=n)).sublist Zdj) ?_;refine ((List.perm_ext_iff_of_nodup (cK h) ((Zdw (n:=n)).sublist Zdj)).2 λx => ?_);rw [Zby,Zbc];exact ⟨λq=>⟨hr x q,by simpa using q⟩,λq=>by simpa using q.2⟩
theorem Rr.unique {n:Nat} {V:List Rat->Prop} {R R':List (List Rat)} {p p':List Nat} (hV:∀ (b:Rat) (x y:List Rat),x.length=n->y.length=n->V x->V y->V (jD b x y)) (h:Rr n V R p) (h':Rr n V R' p'):p=p'/\R=R':=by
 have ep:p=p':=by
  rw [pZ h.asc h.rng,pZ h'.asc h'.rng];exact Zen λx _=>decide_eq_decide.2 ⟨h.sub hV h' x,h'.sub hV h x⟩
 refine ⟨ep,?_⟩;subst ep;have l1:=h.len;have l2:=h'.len;refine Zcw (by omega) λa h1 h2 => ?_;have g1:R.getD a []=R[a]:=by rw [Zaa,List.getElem?_eq_getElem h1];rfl
 have g2:R'.getD a []=R'[a]:=by rw [Zaa,List.getElem?_eq_getElem h2];rfl
 obtain ⟨r1,v1⟩:=h.row _ (Zau h1);obtain ⟨r2,v2⟩:=h'.row _ (Zau h2);have hll:R[a].length=R'[a].length:=by rw [r1,r2]
 have z:=h.none (jD 1 R[a] R'[a]) (by rw [jA hll];exact r1) (hV _ _ _ r1 r2 v1 v2) λb hb=>by
  rw [yY hll,<- g1,<- g2,h.one a b (by omega) hb,h'.one a b (by omega) hb];grind
 refine Zcw hll λc c1 c2 => ?_;have e:=z c;rw [yY hll] at e;have a1:at' R[a] c=R[a][c]:=by rw [at',Zaa,List.getElem?_eq_getElem c1];rfl
 have a2:at' R'[a] c=R'[a][c]:=by rw [at',Zaa,List.getElem?_eq_getElem c2];rfl
 rw [<- a1,<- a2]
 grind
abbrev aP (E:List (List Rat)) (v:List Rat):Prop:=∀ q∈E,dot q v=0
theorem zm9 {n:Nat} {E:List (List Rat)} (b:Rat) (x y:List Rat) (hx:x.length=n) (hy:y.length=n) (h1:aP E x) (h2:aP E y):aP E (jD b x y):=λq hq=>by
 rw [jU,j3 _ _ _ _ (by rw [hx,hy]),jU,h1 q hq,jU,h2 q hq];grind
theorem Ge.fin {n j:Nat} {E M:List (List Rat)} {P P2:List Nat} (hE:Ee n E P) (h:Ge n ((frQ n P).map (rJ n E P)) j M P2) (he:j=n\/P2.length=M.length):Rr n (aP E) (M.take P2.length) P2/\P2.length=M.length:=by
 have hKl:((frQ n P).map (rJ n E P)).length=(frQ n P).length:=Zai ..;have hml:=h.ml;rw [hKl] at hml;have hg:=h.gd;have hpm:=hg.pm;obtain ⟨s,s1,s2,s3,s4⟩:=h.per;rw [hKl] at s1 s2 s4;have Kget:∀ b,b<(frQ n P).length->((frQ n P).map (rJ n E P)).getD b []=rJ n E P ((frQ n P).getD b 0):=λb hb=>bZ hb;have Fm:∀ b,b<(frQ n P).length->(frQ n P).getD b 0<n/\(frQ n P).getD b 0∉P:=λb hb=>fJ.1 (zY hb);have rowl:∀ b,b<M.length->(M.getD b []).length=n:=λb hb=>hg.row _ (zY hb);have hjn:=hg.jw;have hfull:P2.length=M.length:=by
  rcases he with he | he
  case inr=>exact he
  refine Classical.byContradiction λq => ?_;have hk:P2.length<(frQ n P).length:=by omega
  have f1:=Fm _ (s1 _ hk);have kF:∀ b,b<(frQ n P).length->dot (((frQ n P).map (rJ n E P)).getD (s b) []) (gC n ((frQ n P).getD (s P2.length) 0))=if b=P2.length then 1 else 0:=λb hb=>by
   rw [Kget _ (s1 b hb),qS (qI ..) f1.1,zwc f1.2];by_cases e:b=P2.length
   .rw [if_pos e,if_pos ⟨by rw [e],f1.1⟩]
   .rw [if_neg e,if_neg λw => ?_];exact c6 (xR n P) (s1 b hb) (s1 _ hk) (λw2=>e (s2 b _ hb hk w2)) w.1
  have kill:=(s3 _ (gB n ((frQ n P).getD (s P2.length) 0))).2 λb hb=>by rw [kF b (by omega),if_neg (by omega)]
  have e:=s4 P2.length (Zaf _) hk _ (gB ..) kill;rw [kF _ hk,if_pos rfl,qS (rowl _ (by omega)) f1.1,hg.zer _ (Zaf _) _ (by omega)] at e;exact absurd e (by decide)
 have g:∀ a,a<P2.length->(M.take P2.length).getD a []=M.getD a []:=λa ha=>by
  rw [Zaa,List.getElem?_take_of_lt ha,<- Zaa]
 refine ⟨⟨by rw [Zah];omega,λl hl => ?_,λx hx=>Zcj (hg.rng x hx) hjn,hg.asc,λa b ha hb=>by rw [g a ha];exact hg.one a b ha hb,λa ha c hc=>by rw [g a ha];exact hg.lead a ha c hc,λv hvl hvE hv0 j0 => ?_⟩,hfull⟩
 .have hlM:=Zbt hl;refine ⟨hg.row l hlM,λq hq => ?_⟩;obtain ⟨a,ha⟩:=List.mem_iff_getElem?.1 hlM;have ham:=(List.getElem?_eq_some_iff.1 ha).1;have hla:M.getD a []=l:=by rw [Zaa,ha];rfl
  have hql:=hE.row q hq;have hk:∀ b,b<(frQ n P).length->dot (((frQ n P).map (rJ n E P)).getD (s b) []) q=0:=λb hb=>by
   rw [Kget _ (s1 b hb),jU];exact zrz hE (Fm _ (s1 b hb)).1 (Fm _ (s1 b hb)).2 q hq
  rw [<- hla,jU];exact (s3 q hql).2 (λb hb=>hk b (by omega)) a (by omega)
 .by_cases hj0:j0<n
  case neg=>exact jH (by omega)
  obtain ⟨g',hgd⟩:∃ g',g'=plF n (tu P2.length P2 j0) (λb=>if b<P2.length then -(at' (M.getD b []) j0) else 1) (P2.length+1):=⟨_,rfl⟩;have hgl:g'.length=n:=by rw [hgd];exact uK _
  have hgu:∀ u:List Rat,u.length=n->dot u g'=(sR P2.length λb=>at' u (P2.getD b 0) * -(at' (M.getD b []) j0))+at' u j0:=λu hu=>by
   rw [hgd,kI hu _ λi hi => ?_,sR]
   .congr 1
    .refine yW λb hb => ?_;rw [tu,if_pos hb];show _*(if b<P2.length then _ else _)=_;rw [if_pos hb]
    .rw [tu,if_neg (Zcf _)];show _*(if P2.length<P2.length then _ else _)=_;rw [if_neg (Zcf _),Rat.mul_one]
   .unfold tu;split
    .rename_i hb;have:=hg.rng _ (zY (l:=P2) (i:=i) (d:=0) hb);omega
    .exact hj0
  have gM:∀ b,b<P2.length->dot (M.getD b []) g'=0:=λb hb=>by
   rw [hgu _ (rowl b (by omega)),uQ (i:=b) (x:=λb => -(at' (M.getD b []) j0)) λb' hb'=>by rw [hg.one b b' hb hb'],if_pos hb]
   grind
  have gK:=(s3 g' hgl).1 gM;have e1:dot v g'=0:=by
   rw [zlq hE hvl hgl hvE];refine uP λi hi => ?_;obtain ⟨b,hb,rfl⟩:∃ b,b<(frQ n P).length/\s b=i:=by
    have hsn:((List.range (frQ n P).length).map s).Nodup:=List.pairwise_map.2 (List.Pairwise.imp_of_mem (λ{x y} hx hy hne e=>hne (s2 x y (List.mem_range.1 hx) (List.mem_range.1 hy) e)) (Zdw (n:=(frQ n P).length)))
    have hp:=vF (l:=(List.range (frQ n P).length).map s) (r:=List.range (frQ n P).length) hsn (λy hy=>by
     obtain ⟨b,hb,rfl⟩:=List.mem_map.1 hy;exact List.mem_range.2 (s1 b (List.mem_range.1 hb))) (by simp)
    obtain ⟨b,hb,e⟩:=List.mem_map.1 (hp.mem_iff.1 (List.mem_range.2 hi));exact ⟨b,List.mem_range.1 hb,e⟩
   have:=gK b (by omega);rw [Kget _ (s1 b hb)] at this;rw [this,Zbg]
  rw [hgu v hvl,uP λb hb=>by rw [hv0 b hb,Zbm],Zgd] at e1;exact e1
end Go.Ev
namespace Go.Ev
open Go Go.Proofs
variable {B:Nat}
abbrev Szr (R:List (List Rat)):Prop:=∀ l∈R,∀ q∈l,jk ZB q
theorem zue {n:Nat} {E:List (List Rat)} {P:List Nat} (hE:Ee n E P) (hP:P.length<=11) (hn1:1<=n) (hn:n<=1000):Pure Tryz.prog B 190 [j6 ((frQ n P).map (rJ n E P))] (λv=>∃ R y,((∃ p,Rr n (aP E) R p)/\Szr R)/\v=.tup [j6 R,y]):=by
 have hrow:∀ l∈(frQ n P).map (rJ n E P),l.length=n:=λl hl=>by obtain ⟨x,_,rfl⟩:=List.mem_map.1 hl;exact qI ..
 intro p h nx K hK;by_cases h0:(frQ n P).length=0
 .have e0:(frQ n P).map (rJ n E P)=[]:=by rw [List.length_eq_zero_iff.1 h0];rfl
  have hfin:=(Ge.start hrow).fin hE (.inr (by rw [e0];rfl));rw [e0];refine bV p h nx K ?_;rintro v rfl hf;refine hK _ ⟨[],_,⟨⟨[],?_⟩,λ_ q=>nomatch q⟩,rfl⟩ hf;have:=hfin.1;rw [e0] at this;exact this
 have hfl:=mV n P;have sz:∀ {j:Nat} {M:List (List Rat)} {P2:List Nat},Ge n ((frQ n P).map (rJ n E P)) j M P2->Szr M:=λ{j M P2} hg l hl q hq=>by
  obtain ⟨a,ha⟩:=List.mem_iff_getElem?.1 hl;have ham:=(List.getElem?_eq_some_iff.1 ha).1;have hla:M.getD a []=l:=by rw [Zaa,ha];rfl
  obtain ⟨t,t1,t2,t3⟩:=hg.small hE hP ham;obtain ⟨c,hc,rfl⟩:=dM hq;rw [<- hla];exact (t3 c).nm t1 t2
 refine bW (λj M P2=>Ge n ((frQ n P).map (rJ n E P)) j M P2) hn1 hn (by rw [Zai];omega) (by rw [Zai];omega) hrow (Ge.start hrow) (λj M P2 hg cj cP hm l hl q hq=>(sz hg l hl q hq).qd (by decide)) (λj M P2 hg cj _ _ hz=>hg.skip cj hz) (λj M P2 i li lr hg cj cP hi hm hli hlr hv=>⟨hg.piv cj hi hli hlr hv,hg.szP hE hP cj hi hli hlr hv⟩) p h nx K ?_
 .rintro v ⟨j,M,P2,hg,hm,_,he,rfl⟩ hf;obtain ⟨f1,f2⟩:=hg.fin hE he;exact hK _ ⟨_,_,⟨⟨P2,f1⟩,λl hl=>sz hg l (Zbt hl)⟩,rfl⟩ hf
theorem Gd.kerE {w j:Nat} {M0 M:List (List Rat)} {P:List Nat} (h:Gd w M0 j M P) (he:j=w\/P.length=M.length) {v:List Rat} (hv:v.length=w):aP (M.take P.length) v↔aP M0 v:=by
 constructor
 .intro hk;refine h.full v hv λl hl => ?_;obtain ⟨a,ha⟩:=List.mem_iff_getElem?.1 hl;have ham:=(List.getElem?_eq_some_iff.1 ha).1;have hla:M.getD a []=l:=by rw [Zaa,ha];rfl
  by_cases e:a<P.length
  .refine hk l (Zad (i:=a) ?_);rw [List.getElem?_take_of_lt e,ha]
  .have hw:j=w:=by omega
   refine xT _ _ λc => ?_;by_cases hc:c<w
   .rw [<- hla];exact h.zer a (by omega) c (by omega)
   .exact jH (by rw [h.row l hl];omega)
 .intro hk q hq;obtain ⟨O,hol,hom,hker,_⟩:=h.org;obtain ⟨a,ha⟩:=List.mem_iff_getElem?.1 hq;have hal:=(List.getElem?_eq_some_iff.1 ha).1;rw [Zah] at hal;rw [List.getElem?_take_of_lt (by omega)] at ha;have hla:M.getD a []=q:=by rw [Zaa,ha];rfl
  rw [<- hla];exact hker v hv (λo ho=>hk o (hom o ho)) a (by omega)
theorem Rr.congr {n:Nat} {V W:List Rat->Prop} {R:List (List Rat)} {p:List Nat} (h:Rr n V R p) (e:∀ v:List Rat,v.length=n->(V v↔W v)):Rr n W R p :=
 ⟨h.len,λl hl=>⟨(h.row l hl).1,(e l (h.row l hl).1).1 (h.row l hl).2⟩,h.rng,h.asc,h.one,h.lead,λv hv hw=>h.none v hv ((e v hv).2 hw)⟩
theorem zuf {M0:List (List Rat)} {n:Nat} (hS:SmP M0) (hsg:∀ o∈M0,o.length=n/\∀ c,Sg (at' o c)) (hn1:1<=n) (hn:n<=1000) (hM:M0.length<=11):Pure Tryz.prog B 101 [j6 M0,I (n:Int)] (λv=>∃ R p,Rr n (aP M0) R p/\Szr R/\v=j6 R):=by
 refine zm8 (QP:=λE P=>Ee n E P/\P.length<=11/\(∀ v:List Rat,v.length=n->(aP E v↔aP M0 v))/\∀ l∈E,∀ q∈l,Qd q) hn1 hn ?_ ?_ ?_
 .intro B p h nx K hK;by_cases h0:M0.length=0
  .obtain rfl:=List.length_eq_zero_iff.1 h0;refine bV p h nx K ?_;rintro v rfl hf;have hg:Gd n ([]:List (List Rat)) 0 [] []:=Gd.start (by simp);exact hK _ ⟨[],[],⟨hg.ee hS hsg,by decide,λ_ _=>Iff.rfl,by simp⟩,rfl⟩ hf
  .refine zua hS hsg hn1 hn (by omega) (by omega) (.inr hM) p h nx K ?_;rintro v ⟨j,M,P,hg,hm,he,rfl⟩ hf;have hpm:=hg.pm;exact hK _ ⟨_,P,⟨hg.ee hS hsg,by omega,λv hv=>hg.kerE he hv,λl hl q hq=>(hg.sz hS hsg (by omega) l (Zbt hl) q hq).qd (by decide)⟩,rfl⟩ hf
 .rintro E P ⟨h1,h2,_,h4⟩;exact ⟨h1.len,by omega,λl hl=>⟨h1.row l hl,h4 l hl⟩,h1.rng⟩
 .rintro B E P ⟨h1,h2,h3,_⟩ p h nx K hK;refine zch (Q:=λR=>(∃ p,Rr n (aP E) R p)/\Szr R) (zue h1 h2 hn1 hn) p h nx K ?_;rintro v ⟨R,⟨⟨q,hR⟩,hz⟩,rfl⟩ hf;exact hK _ ⟨⟨R,q,hR.congr h3,hz,rfl⟩,pW R⟩ hf
abbrev oF (n:Nat) (lines:List (List Int)) (i:Nat):List Rat:=jD 1 (liQ n lines i) (liQ n lines 0)
def sU (n:Nat) (lines:List (List Int)):List (List Rat):=(List.range (lines.length-1)).map λi=>oF n lines (i+1)
theorem zff (n:Nat) (lines:List (List Int)) (i c:Nat):at' (oF n lines i) c=at' (liQ n lines i) c-at' (liQ n lines 0) c:=by
 rw [yY (by rw [yH,yH])];grind
theorem c7 {n:Nat} {lines:List (List Int)}:∀ o∈sU n lines,o.length=n/\∀ c,Sg (at' o c):=λo ho=>by
 obtain ⟨i,_,rfl⟩:=List.mem_map.1 ho;refine ⟨by rw [jA (by rw [yH,yH]),yH],λc => ?_⟩;rw [zff];have g:∀ x y:Rat,(x=0\/x=1)->(y=0\/y=1)->Sg (x-y):=λx y hx hy=>by
  rcases hx with e | e <;> rcases hy with f | f
  .exact .inr (.inl (by rw [e,f];grind))
  .exact .inl (by rw [e,f];grind)
  .exact .inr (.inr (by rw [e,f];grind))
  .exact .inr (.inl (by rw [e,f];grind))
 exact g _ _ (qJ ..) (qJ ..)
theorem zh5 {n:Nat} {lines:List (List Int)}:SmP (sU n lines):=by
 intro O c hO hl;have hix:∀ o∈O,∃ i,o=oF n lines i:=λo ho=>by
  obtain ⟨i,_,rfl⟩:=List.mem_map.1 (hO o ho);exact ⟨i+1,rfl⟩
 obtain ⟨g,hg⟩:∃ g:Nat->Nat,∀ i,i<O.length->O.getD i []=oF n lines (g i):=by
  refine ⟨λi=>if h:i<O.length then (hix _ (zY (l:=O) (i:=i) (d:=[]) h)).choose else 0,λi hi => ?_⟩;show _=oF n lines (if h:i<O.length then _ else 0);rw [dif_pos hi];exact (hix _ (zY (l:=O) (i:=i) (d:=[]) hi)).choose_spec
 have b01:∀ i c,(if at' (liQ n lines i) c=1 then (1:Int) else 0)=0\/(if at' (liQ n lines i) c=1 then (1:Int) else 0)=1:=λi c=>by
  split
  .exact .inr rfl
  .exact .inl rfl
 obtain ⟨x,h1,h2,h3⟩:=zt7 hl (λj=>if at' (liQ n lines 0) (c j)=1 then 1 else 0) (λj=>b01 0 (c j)) (λi j=>if at' (liQ n lines (g i)) (c j)=1 then 1 else 0) λi j=>b01 (g i) (c j);refine ⟨x,h1,h2,λo ho => ?_⟩;obtain ⟨i,hi⟩:=List.mem_iff_getElem?.1 ho;have hil:=(List.getElem?_eq_some_iff.1 hi).1;have hio:O.getD i []=o:=by rw [Zaa,hi];rfl
 have e:=h3 i hil;rw [show (0:Rat)=((0:Int):Rat) from rfl,<- e,<- vC];refine yW λj _ => ?_;rw [Zcl,<- hio,hg i hil,zff]
 congr 1
 have c01:∀ i c,at' (liQ n lines i) c=(((if at' (liQ n lines i) c=1 then (1:Int) else 0):Int):Rat):=λi c=>by
  rcases qJ n (lines.getD i []) c with q | q
  .show at' (rQ n (lines.getD i [])) c=(((if at' (rQ n (lines.getD i [])) c=1 then (1:Int) else 0):Int):Rat);rw [q,if_neg (by decide)];rfl
  .show at' (rQ n (lines.getD i [])) c=(((if at' (rQ n (lines.getD i [])) c=1 then (1:Int) else 0):Int):Rat);rw [q,if_pos rfl];rfl
 rw [Rat.intCast_sub,<- c01,<- c01]
end Go.Ev
namespace Go.Ev
open Go Go.Proofs
variable {B:Nat}
set_option maxRecDepth 100000
theorem zug {n:Nat} {V:List Rat->Prop} {R:List (List Rat)} {p:List Nat} (h:Rr n V R p) (hz:Szr R) (hn1:1<=n) (hn:n<=1000) (hR:R.length<=1000):Pure Tryz.prog B 190 [j6 R] (λv=>∃ R2 y,R2=R/\v=.tup [j6 R2,y]):=by
 intro q h0 nx K hK;have hlen:=h.len;by_cases e0:R.length=0
 .obtain rfl:=List.length_eq_zero_iff.1 e0;refine bV q h0 nx K ?_;rintro v rfl hf;exact hK _ ⟨[],_,rfl,rfl⟩ hf
 have pasc:∀ {a b:Nat},a<b->b<p.length->p.getD a 0<p.getD b 0:=λ{a b} hab hb=>by
  have:=List.pairwise_iff_getElem.1 h.asc a b (by omega) hb hab;rw [Zaa,Zaa,List.getElem?_eq_getElem (show a<p.length by omega),List.getElem?_eq_getElem hb];exact this
 have qd:∀ {x:Rat},jk ZB x->Qd x:=λhx=>hx.qd (by decide);have lk:∀ {k:Nat},k<=p.length->(p.take k).length=k:=λhk=>by rw [Zah];omega
 refine bW (λj M P=>M=R/\∃ k,k<=p.length/\P=p.take k/\(∀ a,a<k->p.getD a 0<j)/\∀ a,k<=a->a<p.length->j<=p.getD a 0) hn1 hn (by omega) hR (λl hl=>(h.row l hl).1) ⟨rfl,0,Zef _,rfl,by simp,by simp⟩ ?_ ?_ ?_ q h0 nx K ?_
 .rintro j M P ⟨rfl,_⟩ _ _ _ l hl q hq;exact qd (hz l hl q hq)
 .rintro j M P ⟨rfl,k,hk,rfl,h1,h2⟩ cj cP _ hzero;rw [lk hk] at hzero;refine ⟨rfl,k,hk,rfl,λa ha=>Zfr (h1 a ha),λa ha hal => ?_⟩;have h3:=h2 a ha hal;refine Nat.lt_of_le_of_ne h3 λe => ?_;have z:=hzero a _ ha (jZ (d:=[]) (show a<M.length by omega));have o:=h.one a a hal hal;rw [if_pos rfl,<- e] at o;have z':at' (M.getD a []) j=0:=z;rw [z'] at o;exact absurd o (by decide)
 .rintro j M P i li lr ⟨rfl,k,hk,rfl,h1,h2⟩ cj cP hi _ hli hlr hv;rw [lk hk] at hi hlr cP ⊢;have hil:=(List.getElem?_eq_some_iff.1 hli).1;have gi:M.getD i []=li:=by rw [Zaa,hli];rfl
  have hpi:p.getD i 0=j:=by
   have a1:=h2 i hi (by omega);refine Nat.le_antisymm (Zeh λq=>hv ?_) a1;have:=h.lead i (by omega) j q
   rwa [gi] at this
  obtain rfl:i=k:=by
   refine Nat.le_antisymm (Zeh λq => ?_) hi;have a1:=h2 k (Zaf _) (by omega);have a2:=pasc q (by omega);omega
  obtain rfl:li=lr:=Option.some.inj (hli.symm.trans hlr);have one:li.getD j 0=1:=by
   have:=h.one i i (by omega) (by omega);rw [if_pos rfl,hpi,gi] at this;exact this
  have hinv:((1:Rat))⁻¹=1:=by grind
  have hsc:yQ (at' li j)⁻¹ li=li:=by
   rw [show at' li j=1 from one,hinv];refine Zcw (uA ..) λc c1 c2 => ?_;have e1:at' (yQ 1 li) c=at' li c*1:=gT ..;have a1:at' (yQ 1 li) c=(yQ 1 li)[c]:=by rw [at',Zaa,List.getElem?_eq_getElem c1];rfl
   have a2:at' li c=li[c]:=by rw [at',Zaa,List.getElem?_eq_getElem c2];rfl
   rw [<- a1,<- a2,e1];grind
  have hsc2:li.map (· * (li.getD j 0)⁻¹)=li:=hsc;have hml:(rP i i j li li M).length=M.length:=by unfold rP tV;rw [Zde,Zan,Zan,Zan]
  have hM:rP i i j li li M=M:=by
   refine Zcw hml λa h3 h4 => ?_;have g1:(rP i i j li li M).getD a []=(rP i i j li li M)[a]:=by rw [Zaa,List.getElem?_eq_getElem h3];rfl
   have g2:M.getD a []=M[a]:=by rw [Zaa,List.getElem?_eq_getElem h4];rfl
   rw [<- g1,<- g2,xL h4,hsc];by_cases e:a=i
   .rw [if_pos e,e,gi]
   .have hsw:swR i i li li M a=M.getD a []:=by unfold swR;rw [if_neg e,if_neg e]
    rw [if_neg e,hsw];have z:=h.one a i (by omega) (by omega);rw [if_neg e,hpi] at z;rw [z];have hll:(M.getD a []).length=li.length:=by rw [(h.row _ (zY (l:=M) (i:=a) (d:=[]) h4)).1,(h.row _ (Zad hli)).1]
    refine Zcw (jA hll) λc c1 c2 => ?_;have e1:at' (jD 0 (M.getD a []) li) c=at' (M.getD a []) c-0*at' li c:=yY hll c;have a1:at' (jD 0 (M.getD a []) li) c=(jD 0 (M.getD a []) li)[c]:=by rw [at',Zaa,List.getElem?_eq_getElem c1];rfl
    have a2:at' (M.getD a []) c=(M.getD a [])[c]:=by rw [at',Zaa,List.getElem?_eq_getElem c2];rfl
    rw [<- a1,<- a2,e1];grind
  refine ⟨⟨hM,i+1,by omega,?_,λa ha => ?_,λa ha hal => ?_⟩,?_,?_,?_⟩
  .rw [Zar,jZ (d:=0) (show i<p.length by omega),hpi];rfl
  .by_cases e:a=i
   .rw [e,hpi];omega
   .exact Zfr (h1 a (by omega))
  .have:=pasc (a:=i) (b:=a) (by omega) hal;omega
  .rw [one,hinv];exact ⟨by decide,by decide⟩
  .rw [hsc2];exact λq hq=>qd (hz li (Zad hli) q hq)
  .rw [hsc2];intro l hl q hq;have hlM:l∈M:=by
    rcases Zbe hl with e | e
    .rcases Zbe e with e | e
     .rcases Zbe e with e | e
      .exact e
      .rw [e];exact Zad hli
     .rw [e];exact Zad hli
    .rw [e];exact Zad hli
   have hlj:jk ZB (l.getD j 0):=hz l hlM _ (Zad (gY (q:=l) (j:=j) (by rw [(h.row l hlM).1];exact cj)));exact (mO hlj (hz li (Zad hli) q hq)).qd (by decide)
 .rintro v ⟨j,M,P,⟨rfl,k,hk,rfl,h1,h2⟩,_,_,he,rfl⟩ hf;rw [lk hk] at he;have hke:k=M.length:=by
   rcases he with he | he
   .refine Classical.byContradiction λq => ?_;have a1:=h2 k (Zaf _) (by omega);have a2:=h.rng _ (zY (l:=p) (i:=k) (d:=0) (by omega));omega
   .exact he
  refine hK _ ⟨_,_,?_,rfl⟩ hf;rw [lk hk,hke,Zcz]
theorem Sg.qd {x:Rat} (h:x=0\/x=1):Qd x:=by
 rcases h with rfl | rfl
 .exact ⟨by decide,by decide⟩
 .exact ⟨by decide,by decide⟩
def eU (l l0:List Rat):Nat->List Rat
 | 0=>l
 | k+1=>(eU l l0 k).set k (at' l k-at' l0 k)
theorem dB (l l0:List Rat):∀ k,(eU l l0 k).length=l.length
 | 0=>rfl
 | k+1=>by rw [eU,Zan,dB l l0 k]
theorem zfg (l l0:List Rat) (c:Nat):∀ k,k<=l.length->at' (eU l l0 k) c=if c<k then at' l c-at' l0 c else at' l c
 | 0,_=>by rw [if_neg (by omega)];rfl
 | k+1,hk=>by
  by_cases e:k=c
  .subst e;rw [if_pos (by omega),eU,at',Zaa,List.getElem?_set_self (by rw [dB];omega)];rfl
  .rw [eU,at',Zaa,List.getElem?_set_ne e,<- Zaa];show at' (eU l l0 k) c=_;rw [zfg l l0 c k (by omega)];by_cases q:c<k
   .rw [if_pos q,if_pos (by omega)]
   .rw [if_neg q,if_neg (by omega)]
theorem zr2 (n:Nat) (lines:List (List Int)) (i:Nat):eU (liQ n lines i) (liQ n lines 0) n=oF n lines i:=by
 have hl:(eU (liQ n lines i) (liQ n lines 0) n).length=(oF n lines i).length:=by rw [dB,jA (by rw [yH,yH])]
 refine Zcw hl λc c1 c2 => ?_;have e:=zfg (liQ n lines i) (liQ n lines 0) c n (by rw [yH];exact Zaf _);rw [dB,yH] at c1;rw [if_pos c1,<- zff] at e;have a1:at' (eU (liQ n lines i) (liQ n lines 0) n) c=(eU (liQ n lines i) (liQ n lines 0) n)[c]:=by rw [at',Zaa,List.getElem?_eq_getElem];rfl
 have a2:at' (oF n lines i) c=(oF n lines i)[c]:=by rw [at',Zaa,List.getElem?_eq_getElem c2];rfl
 rw [<- a1,<- a2,e]
theorem zjr {n:Nat} {lines:List (List Int)} (hn1:1<=n) (hn:n<=256) (hl:lines.length<=12) (hll:∀ l∈lines,l.length<=256) (hr:∀ l∈lines,∀ c∈l,0<=c/\c<(n:Int)):Pure Tryz.prog B 26 [.agg [I (n:Int),uq lines]] (λv=>∃ R p,Rr n (aP (sU n lines)) R p/\v=j6 R):=by
 refine zT λh nx K H0 hK=>zN zP yD 1000 λhf => ?_;have dl:(sU n lines).length=lines.length-1:=by rw [sU,Zai,Zdd]
 rw [F26.go,F26.t35,zA,F26.zy];refine H0.box (l:=[I (n:Int),uq lines]) rfl λbx h1 nx1 H1 => ?_;rw [zA,F26.zx,zA,zA,F26.jb,zJ];refine F26.zze (λm x3 x4 h' nx'=>∃ (i:Nat) (o:Option Pa) (rs:List Pa),x3=uy o 1 rs.length/\x4=I ((i+1:Nat):Int)/\m+i=lines.length-1/\rs.length=i/\Hp h h' nx' (.gro o 1 rs.length (rs.map (rv9 n))::(jS rs ((sU n lines).take i)++[Ob.arr bx [I (n:Int),uq lines]]))) (m:=lines.length-1) (by omega) ⟨0,none,[],rfl,rfl,rfl,rfl,H1.ak 1⟩ ?_;rintro m z3 z4 z5 z6 z7 z8 z9 h3 nx3 R ⟨i,o,rs,rfl,rfl,hm,hrs,H3⟩ hR;have rl:(jS rs ((sU n lines).take i)).length=i:=by unfold jS;rw [Zdt,Zah,dl];omega
 have tl:∀ X:List Ob,(X++(.gro o 1 rs.length (rs.map (rv9 n))::(jS rs ((sU n lines).take i)++[Ob.arr bx [I (n:Int),uq lines]])))[X.length+(1+i)]? = some (.arr bx [I (n:Int),uq lines]):=λX=>by
  rw [List.getElem?_append_right (by omega),Zcp,Zdp,List.getElem?_cons_succ,List.getElem?_append_right (by omega),rl,Zcd];rfl
 have a1:∀ op:AV->OP,zI (.ptr bx (0+1)) h3 op=op (uq lines):=λop=>H3.load (i:=0+1) (tl []) rfl;rw [F26.t27,zA,zA,F26.dw,sFx,a1,yA,jq,zB,F26.v8];by_cases ci:i<lines.length-1
 .have hxi:lines[i+1]? = some (lines.getD (i+1) []):=jZ (by omega);have hx0:lines[0]? = some (lines.getD 0 []):=jZ (by omega);have m1:=zY (l:=lines) (i:=i+1) (d:=[]) (by omega);have m0:=zY (l:=lines) (i:=0) (d:=[]) (by omega);have w1:=hll _ m1;have w0:=hll _ m0;rw [Zac (by omega),zC,zG,zA,zJ,zA,F26.qg,H3.zk (n:=2) (tl []) rfl];refine zh0 H3 hxi (hr _ m1) hn1 (by omega) (by omega) λid5 h4 nx4 H4 => ?_;rw [zA,F26.fU,H4.zk (n:=2) (tl [_]) rfl];refine zh0 (i:=0) H4 hx0 (hr _ m0) hn1 (by omega) (by omega) λid6 h5 nx5 H5 => ?_;have H5:=H5.perm (.swap _ _ _);rw [zA,zA,F26.fE,zJ];refine F26.zzd (λq x7 h' nx'=>∃ k:Nat,x7=I (k:Int)/\q+k=n/\nx'=nx5/\Hp h h' nx5 (.gro (some id5) 1 n ((eU (liQ n lines (i+1)) (liQ n lines 0) k).map T9)::.gro (some id6) 1 n ((liQ n lines 0).map T9)::.gro o 1 rs.length (rs.map (rv9 n))::(jS rs ((sU n lines).take i)++[Ob.arr bx [I (n:Int),uq lines]]))) (m:=n) (by omega) ⟨0,rfl,rfl,rfl,H5⟩ ?_;rintro q y7 y9 h6 nx6 R2 ⟨k,rfl,hq,rfl,H6⟩ hR2;rw [F26.t16,zA,zA,F26.rF,yJ,jq,zB,F26.v9];by_cases ck:k<n
  .have hml:(eU (liQ n lines (i+1)) (liQ n lines 0) k).length=n:=by rw [dB,yH]
   have hc5:((eU (liQ n lines (i+1)) (liQ n lines 0) k).map T9)[k]? = some (T9 (at' (liQ n lines (i+1)) k)):=by
    rw [List.getElem?_map,gY (by rw [hml];exact ck),zfg _ _ _ _ (by rw [yH];omega),if_neg (Zcf _)];rfl
   have hc6:((liQ n lines 0).map T9)[k]? = some (T9 (at' (liQ n lines 0) k)):=by rw [List.getElem?_map,gY (by rw [yH];exact ck)];rfl
   rw [Zac (by omega),zC,zG,zA,zJ,F26.ni,zdn (j:=k) rfl ck,H6.zkm (k:=0) rfl hc5,zdn (j:=k) rfl ck,H6.zkm (k:=1) rfl hc6];refine zq3 (Sg.qd (qJ ..)) (Sg.qd (qJ ..)) _ _ _ _ ?_;rintro _ rfl _;simp only [zH];rw [zdn (j:=k) rfl ck];refine H6.oo (k:=0) (i:=k) rfl (by rw [Zai,hml];exact ck) rfl λh7 H7 => ?_;rw [F26.fT,um (by omega)];refine hR2 (q-1) _ _ _ _ (by omega) ⟨k+1,by congr 1,by omega,rfl,?_⟩;rw [eU,Zet];exact H7
  obtain rfl:k=n:=by omega
  have H6:Hp h h6 nx6 _:=H6;rw [zr2] at H6;have H7:=(H6.perm (.swap _ _ _)).drop.oM.perm (.swap _ _ _);rw [Zab (by omega),zD,zV,yC,F26.aD];refine H7.oU (v:=rv9 k id5) (by omega) (by decide) rfl rfl λo' h8 nx8 H8 => ?_;rw [F26.zaf,um (by omega)];refine hR (m-1) _ _ _ _ _ _ _ _ _ (by omega) ⟨i+1,o',rs++[id5],by rw [Zae];rfl,by congr 1,by omega,by rw [Zae,hrs];rfl,?_⟩;have hd:(sU k lines)[i]? = some (oF k lines (i+1)):=by rw [sU,List.getElem?_map,List.getElem?_range ci];rfl
  rw [Zar,hd,Zbn,vW (by rw [hrs,Zah,dl];omega),Zbp,Zae];rw [Zbu];exact H8.perm ((Zdu (a:=Ob.arr id5 ((oF k lines (i+1)).map T9)) (l₁:=jS rs ((sU k lines).take i)) (l₂:=[Ob.arr bx [I (k:Int),uq lines]])).symm.cons _)
 have hie:i=lines.length-1:=by omega
 have htk:(sU n lines).take i=sU n lines:=Zam (by omega);rw [htk] at H3 tl;have b0:∀ op:AV->OP,zI (.ptr bx (0+0)) h3 op=op (I (n:Int)):=λop=>H3.load (i:=0+0) (tl []) rfl;rw [Zab (by omega),zD,zV,yC,zA,F26.znt,sFx,b0];have fin:∀ {hh:Ev.T Blk} {L:List Ob},Hp h hh nx3 L->(CS Tryz.prog B).fn 101 (.of 101) [j6 (sU n lines),I (n:Int)] hh nx3 (λv3 h4 n5=>(CS Tryz.prog B).fn 100 (.of 100) [v3] h4 n5 λv6 h7 n8=>IR.run .ret (CS Tryz.prog B) 1000 (fnO F26.res K) (zo F26.res K) (F26.fr (.agg [I (n:Int),uq lines]) (.ptr bx 0) v6 (uy o 1 rs.length) (I ((i+1:Nat):Int)) z5 z6 z7 (.bool false) z9) h7 n8)=.ok True:=by
  intro hh L HH;refine zuf zh5 c7 hn1 (by omega) (by omega) _ _ _ _ ?_;rintro _ ⟨R1,p,hR1,hz,rfl⟩ _;have hpl:p.length<=n:=by
   rw [pZ hR1.asc hR1.rng];exact Zay (Zga ..) (by rw [Zdd];exact Zaf _)
  have hlen:=hR1.len;refine zch (zug hR1 hz hn1 (by omega) (by omega)) _ _ _ _ ?_;rintro _ ⟨_,rfl,rfl⟩ _;simp only [zE,zM];rw [F26.ret];exact hK _ _ _ _ _ HH (zR (pW _)) ⟨_,p,hR1,rfl⟩
 by_cases h0:rs.length=0
 .obtain rfl:rs=[]:=List.length_eq_zero_iff.1 h0;have e0:sU n lines=[]:=List.length_eq_zero_iff.1 (by rw [dl,<- hie,<- hrs];rfl);rw [e0] at fin;obtain ⟨h',k1,H',fz⟩:=H3.zi4 (by simp);exact dQ k1 (.cons fz (.cons (.int _ _) .nil)) (fin H')
 .obtain ⟨tid,rfl⟩:∃ id,o=some id:=by
   cases o with
   | none=>obtain ⟨_,hz⟩:=H3.own _ (Zaj ..);omega
   | some id=>exact ⟨id,rfl⟩
  have HP:PM h h3 nx3 tid rs n [.arr bx [I (n:Int),uq lines]] (sU n lines):=⟨by rw [dl,hrs,hie],λl hl=>(c7 l hl).1,H3.oM⟩;obtain ⟨h',k1,H',n1,n2⟩:=HP.zwa;have fz:=ze6 HP (Zaf _) n1 n2;rw [Zcz,dl,<- hie,<- hrs] at fz;exact dQ k1 (.cons fz (.cons (.int _ _) .nil)) (fin H')
end Go.Ev
namespace Go.Ev
open Go Go.Proofs
theorem zlr {n:Nat} {lines:List (List Int)} {f:List Rat} (hf:f.length=n):aP (sU n lines) f↔Mgf n lines f:=by
 have d:∀ i,dot (oF n lines i) f=dot (liQ n lines i) f-dot (liQ n lines 0) f:=λi=>by
  unfold oF;rw [j3 _ _ _ _ (by rw [yH,yH])];grind
 constructor
 .intro h;refine ⟨hf,λl hl => ?_⟩;obtain ⟨i,hi⟩:=List.mem_iff_getElem?.1 hl;have hil:=(List.getElem?_eq_some_iff.1 hi).1;have hli:lines.getD i []=l:=by rw [Zaa,hi];rfl
  rw [<- hli];cases i with
  | zero=>rfl
  | succ i =>
   have e:=h (oF n lines (i+1)) (List.mem_map.2 ⟨i,List.mem_range.2 (by omega),rfl⟩);rw [d] at e;have e2:dot (liQ n lines (i+1)) f=dot (liQ n lines 0) f:=by grind
   exact e2
 .rintro ⟨_,h⟩ q hq;obtain ⟨i,hi,rfl⟩:=List.mem_map.1 hq;have hi:=List.mem_range.1 hi;have e:dot (liQ n lines (i+1)) f=dot (liQ n lines 0) f:=h _ (zY (l:=lines) (i:=i+1) (d:=[]) (by omega));rw [d,e];grind
theorem qbn {n:Nat} {lines:List (List Int)} {Q:List (List Rat)} {ps:List Nat} (h:cX n lines Q ps):Rr n (aP (sU n lines)) (aO n Q ps) (frQ n ps):=by
 obtain ⟨⟨O,hS⟩,hQ,hdot,hcv⟩:=h;have fm:∀ a,a<(frQ n ps).length->(frQ n ps).getD a 0<n/\(frQ n ps).getD a 0∉ps:=λa ha=>fJ.1 (zY ha);have bg:∀ a,a<(frQ n ps).length->(aO n Q ps).getD a []=eO n Q ps ((frQ n ps).getD a 0):=λa ha=>bZ ha;refine ⟨Zai ..,λl hl => ?_,λx hx=>(fJ.1 hx).1,(List.pairwise_lt_range (n:=n)).sublist Zdj,λa b ha hb => ?_,λa ha c hc => ?_,λv hv hk h0 => ?_⟩
 .obtain ⟨c,hc,rfl⟩:=List.mem_map.1 hl;obtain ⟨c1,c2⟩:=fJ.1 hc;have hlen:=dL n Q ps c;exact ⟨hlen,(zlr hlen).2 (hcv _ hlen (zla hS c1 c2))⟩
 .rw [bg a ha];by_cases e:a=b
  .rw [if_pos e,<- e];exact (zdm hS (fm a ha).1 (fm a ha).2).1
  .rw [if_neg e];exact zrw hS (fm b hb).2 (c6 (xR n ps) hb ha (Ne.symm e))
 .rw [bg a ha];exact (zdm hS (fm a ha).1 (fm a ha).2).2 c hc
 .refine qbl hS hv (hdot v ((zlr hv).1 hk)) λc c1 c2 => ?_;obtain ⟨a,ha⟩:=List.mem_iff_getElem?.1 (fJ.2 ⟨c1,c2⟩);have:=h0 a (List.getElem?_eq_some_iff.1 ha).1
  rwa [Zaa,ha] at this
theorem zh6 {n:Nat} {lines:List (List Int)} {Q R:List (List Rat)} {ps p:List Nat} (h:cX n lines Q ps) (hR:Rr n (aP (sU n lines)) R p):aO n Q ps=R/\frQ n ps=p:=by
 obtain ⟨a,b⟩:=(qbn h).unique zm9 hR;exact ⟨b,a⟩
theorem zr3 {i k j:Nat} {li lr:List Rat} {M:List (List Rat)}:(rP i k j li lr M).length=M.length:=by unfold rP tV;rw [Zde,Zan,Zan,Zan]
theorem zls {k j:Nat} {M:List (List Rat)} (hz:¬ ∀ i' l,k<=i'->M[i']? = some l->l.getD j 0=0):∃ i li lr,k<=i/\M[i]? = some li/\M[k]? = some lr/\li.getD j 0≠0:=by
 obtain ⟨i,hz⟩:=Classical.not_forall.1 hz;obtain ⟨li,hz⟩:=Classical.not_forall.1 hz;obtain ⟨hi,hz⟩:=Classical.not_imp.1 hz;obtain ⟨hli,hv⟩:=Classical.not_imp.1 hz;have him:=(List.getElem?_eq_some_iff.1 hli).1;exact ⟨i,li,_,hi,hli,List.getElem?_eq_getElem (show k<M.length by omega),hv⟩
theorem exGd {w:Nat} {M0:List (List Rat)} (h:∀ l∈M0,l.length=w):∀ j,j<=w->∃ M P,Gd w M0 j M P/\M.length=M0.length
 | 0,_=>⟨M0,[],Gd.start h,rfl⟩
 | j+1,hj=>by
  obtain ⟨M,P,hg,hm⟩:=exGd h j (by omega);by_cases hz:∀ i' l,P.length<=i'->M[i']? = some l->l.getD j 0=0
  .exact ⟨M,P,hg.skip (by omega) hz,hm⟩
  .obtain ⟨i,li,lr,hi,hli,hlr,hv⟩:=zls hz;exact ⟨_,_,hg.piv (by omega) hi hli hlr hv,by rw [zr3,hm]⟩
theorem exGe {w:Nat} {M0:List (List Rat)} (h:∀ l∈M0,l.length=w):∀ j,j<=w->∃ M P,Ge w M0 j M P
 | 0,_=>⟨M0,[],Ge.start h⟩
 | j+1,hj=>by
  obtain ⟨M,P,hg⟩:=exGe h j (by omega);by_cases hz:∀ i' l,P.length<=i'->M[i']? = some l->l.getD j 0=0
  .exact ⟨M,P,hg.skip (by omega) hz⟩
  .obtain ⟨i,li,lr,hi,hli,hlr,hv⟩:=zls hz;exact ⟨_,_,hg.piv (by omega) hi hli hlr hv⟩
theorem zlt {n:Nat} {lines:List (List Int)} {Q:List (List Rat)} {ps:List Nat} (h:cX n lines Q ps) (hl:lines.length<=12):∀ l∈aO n Q ps,∃ t,1<=t/\t<=ZB/\∀ c,Dn t ZB (at' l c):=by
 obtain ⟨M,P,hg,hm⟩:=exGd (w:=n) (M0:=sU n lines) (λl hl=>(c7 l hl).1) n (Zaf _);have dl:(sU n lines).length=lines.length-1:=by rw [sU,Zai,Zdd]
 have hpm:=hg.pm;have hP:P.length<=11:=by omega
 have hE:=hg.ee zh5 c7;have hrow:∀ l∈(frQ n P).map (rJ n (M.take P.length) P),l.length=n:=λl hl=>by obtain ⟨x,_,rfl⟩:=List.mem_map.1 hl;exact qI ..
 obtain ⟨M2,P2,hg2⟩:=exGe hrow n (Zaf _);obtain ⟨f1,f2⟩:=hg2.fin hE (.inl rfl);obtain ⟨e,_⟩:=zh6 h (f1.congr λv hv=>hg.kerE (.inl rfl) hv);intro l hlm;rw [e] at hlm;obtain ⟨a,ha⟩:=List.mem_iff_getElem?.1 (Zbt hlm);have ham:=(List.getElem?_eq_some_iff.1 ha).1;have hla:M2.getD a []=l:=by rw [Zaa,ha];rfl
 rw [<- hla];exact hg2.small hE hP ham
end Go.Ev
namespace Go.Ev
open Go Go.Proofs
variable {B:Nat}
set_option maxRecDepth 100000
theorem eG.sgn {s w:AV} {z:Int} (h:eG s w z):∃ n,s=I n/\(n<0↔z<0):=by
 rcases h with ⟨rfl,_⟩ | ⟨n,rfl,_,⟨a,rfl⟩ | ⟨a,rfl⟩,_⟩
 .exact ⟨_,rfl,Iff.rfl⟩
 .exact ⟨_,rfl,by constructor <;> intro <;> omega⟩
 .exact ⟨_,rfl,by constructor <;> intro <;> omega⟩
def zwe (v:AV) (q:Rat):Prop:=∃ s w s' w',v=.agg [s,w,s',w']/\eG s w q.num/\eG s' w' (q.den:Int)
theorem eG.aJ {s w s' w':AV} {a b:Int} (h:eG s w a) (h':eG s' w' b):∀ v∈[s,w,s',w'],fP v=true:=by
 intro v hv;rcases List.mem_cons.1 hv with rfl | hv
 .exact h.fix _ (by simp)
 rcases List.mem_cons.1 hv with rfl | hv
 .exact h.fix _ (by simp)
 exact h'.fix _ hv
theorem eG.build {s w s' w':AV} {a b:Int} (h:eG s w a) (h':eG s' w' b) {K:AV->OP}:gU [(I 0),.za,(I 0),.za] [(0,2,.agg [s,w]),(2,2,.agg [s',w'])] K=K (.agg [s,w,s',w']):=nr rfl
theorem Zs.mono {k m:Nat} {z:Int} (h:Zs k z) (hkm:k<=m):Zs m z:=Zcj h (Zdh (by decide) hkm)
theorem Zs.mul {k m:Nat} {a b:Int} (ha:Zs k a) (hb:Zs m b):Zs (k+m) (a*b):=by
 unfold Zs at *
 rw [Zcc,Nat.pow_add];exact Zdv ha hb
theorem Zs.add {k:Nat} {a b:Int} (ha:Zs k a) (hb:Zs k b):Zs (k+1) (a+b):=by
 unfold Zs at *
 have h1:=Zeb a b;have h2:18446744073709551616 ^ (k+1)=18446744073709551616 ^ k*18446744073709551616:=Zei ..;omega
theorem zlu {z:Int}:((z:Rat)).num=z/\(((z:Rat)).den:Int)=1:=⟨Zel z,by rw [Zfg];rfl⟩
theorem zr4 {v:AV} {z:Int} (hv:IntV v z):Pure Tryz.prog B 186 [v] (λv=>zwe v (z:Rat)):=by
 obtain ⟨s,w,rfl,hv⟩:=hv;refine zT λh nx K H0 hK=>zN zP yD 100 λhf => ?_;rw [fM.go,fM.t3,zA,fM.zy];refine H0.box (l:=[s,w]) rfl λpa h1 nx1 H1 => ?_;refine H1.alloc λp h2 nx2 H2 => ?_;rw [zA,fM.zx,H2.zk (k:=1) (n:=2) rfl rfl];refine of85 (by omega) _ _ _ _ ?_;rintro _ ⟨s',w',rfl,h'⟩ _;rw [H2.zk (k:=1) (n:=2) rfl rfl,zH,hv.build h'];refine H2.yx (l2:=[s,w,s',w']) (k:=0) rfl rfl rfl λh4 H4 => ?_;simp only [zE,zM];rw [fM.ret,H4.zk (k:=0) (n:=4) rfl rfl];exact hK _ _ _ _ _ H4 (uAgg (hv.aJ h')) ⟨_,_,_,_,rfl,by rw [zlu.1];exact hv,by rw [zlu.2];exact h'⟩
theorem f89 {z:Int} (h : -9223372036854775808<=z/\z<=9223372036854775807):Pure Tryz.prog B 96 [I z] (λv=>zwe v (z:Rat)):=by
 refine zT λhh nx K H0 hK=>zN zP yD 100 λhf => ?_;rw [F96.go,F96.t3,zA,F96.zy];refine H0.alloc λp h2 nx2 H2 => ?_;rw [zA,F96.zx];refine of85 h _ _ _ _ ?_;intro v hv _;refine zr4 hv _ _ _ _ ?_;rintro _ ⟨s,w,s',w',rfl,i1,i2⟩ _;refine H2.yx (l2:=[s,w,s',w']) (k:=0) rfl rfl rfl λh4 H4 => ?_;simp only [zE,zM];rw [F96.ret,H4.zk (k:=0) (n:=4) rfl rfl];exact hK _ _ _ _ _ H4 (uAgg (i1.aJ i2)) ⟨_,_,_,_,rfl,i1,i2⟩
theorem uGWt (op:KW3->OP) (h:T Blk) (nx:Pa) (k:KW3):sGW (.bool true) true op h nx k=op k:=nr rfl
theorem uGWf (op:KW3->OP) (h:T Blk) (nx:Pa) (k:KW3):sGW (.bool false) true op h nx k=k .u h nx:=nr rfl
def fewB (a b:Int) (cells:Int) (lines:List (List Int)):Bool:=decide ((lines.length:Int)<=b/\∀ l∈lines,(l.length:Int)<=a)&&(decide (jW cells lines=0)&&decide (cells<=a))
theorem qbo {cells:Int} {lines:List (List Int)}:Pure Tryz.prog B 35 [.agg [I cells,uq lines],I 16,I 12] (· = .bool (fewB 16 12 cells lines)):=by
 refine zT λh nx K H0 hK=>zN zP yD 100 λhf => ?_;rw [F35.go,F35.t3,zA,F35.zy];refine H0.box (l:=[I cells,uq lines]) rfl λbx h1 nx1 H1 => ?_;have ret:∀ {b:Bool},b=fewB 16 12 cells lines->K (.bool b) h1 nx1=.ok True:=λe=>hK _ _ _ _ _ H1 (zR rfl) (by rw [e]);rw [zA,F35.zx,F35.tX,F35.tY,H1.zk (k:=0) (n:=2) rfl rfl];refine zk8 (by omega) _ _ _ _ ?_;rintro _ rfl _;rw [F35.eF,F35.tK];by_cases c1:(lines.length:Int)<=12/\∀ l∈lines,(l.length:Int)<=16
 case neg =>
  rw [Zab c1];simp only [jF,vU,uGWf];rw [F35.r1_2,F35.znu];simp only [jF,vU,zZ];rw [F35.r1_3,F35.zh8];simp only [zE,zM];rw [F35.ret];exact ret (by rw [fewB,Zab c1];rfl)
 rw [Zac c1];simp only [yL,uGWt];rw [H1.zk (k:=0) (n:=2) rfl rfl];refine mD (λq hq=>by have:=c1.2 q hq;omega) _ _ _ _ ?_;rintro _ rfl _;rw [F35.r1_2,F35.znu];simp only [yL,zW];rw [qx];by_cases c2:jW cells lines=0
 case neg =>
  rw [Zab c2];simp only [jF,vU,zZ];rw [F35.r1_3,F35.zh8];simp only [zE,zM];rw [F35.ret];exact ret (by rw [fewB,Zac c1,Zab c2];rfl)
 rw [Zac c2];simp only [yL,zW];rw [sFx,H1.load (k:=0) (i:=0+0) rfl rfl,rT];rw [F35.r1_3,F35.zh8];simp only [zE,zM];rw [F35.ret];exact ret (by rw [fewB,Zac c1,Zac c2];rfl)
def cB (cells:Int) (lines:List (List Int)):Bool:=decide ((lines.length:Int)<=130/\∀ l∈lines,(l.length:Int)<=40)&&(!decide (jW cells lines=0)||fewB 16 12 cells lines)
theorem zuh {cells:Int} {lines:List (List Int)}:Pure Tryz.prog B 22 [.agg [I cells,uq lines]] (· = .bool (cB cells lines)):=by
 refine zT λh nx K H0 hK=>zN zP yD 100 λhf => ?_;rw [F22.go,F22.t9,zA,F22.zy];refine H0.box (l:=[I cells,uq lines]) rfl λbx h1 nx1 H1 => ?_;rw [zA,zA,F22.zx,H1.zk (k:=0) (n:=2) rfl rfl];refine zk8 (by omega) _ _ _ _ ?_;rintro _ rfl _;rw [yT,zB,F22.v3];by_cases c1:(lines.length:Int)<=130/\∀ l∈lines,(l.length:Int)<=40
 case neg =>
  rw [Zab c1,Zal,zC,zA,F22.jb];simp only [zE,zM];rw [F22.ret];exact hK _ _ _ _ _ H1 (.bool _) (by rw [cB,Zab c1];rfl)
 rw [Zac c1,Zap,zD,zG,zA,F22.qg,H1.zk (k:=0) (n:=2) rfl rfl];refine mD (λq hq=>by have:=c1.2 q hq;omega) _ _ _ _ ?_;rintro _ rfl _;rw [fV];by_cases c2:jW cells lines=0
 .rw [Zac c2,Zap];simp only [y4,zt4];rw [H1.zk (k:=0) (n:=2) rfl rfl];refine qbo _ _ _ _ ?_;rintro _ rfl _;rw [zZ];simp only [zE,zM];rw [F22.ret];exact hK _ _ _ _ _ H1 (.bool _) (by rw [cB,Zac c1,Zac c2];rfl)
 .have w1:∀ (op:KW3->OP) (h:Ev.T Blk) (nx:Pa) (k:KW3),sGW (.bool true) false op h nx k=k .u h nx:=λ_ _ _ _=>nr rfl;have w2:∀ (op:(AV->OP)->OP) (k:AV->OP),sG (.bool true) false op k=k .u:=λ_ _=>nr rfl;rw [Zab c2,Zal];simp only [w2,w1,zW];simp only [zE,zM];rw [F22.ret];exact hK _ _ _ _ _ H1 (.bool _) (by rw [cB,Zac c1,Zab c2];rfl)
theorem zr5 {v:AV} {z:Int} (hv:wm v z):Pure Tryz.prog B 121 [v] (· = .tup [I z,.bool true]):=by
 obtain ⟨s,w,rfl,hv⟩:=hv;obtain ⟨rfl,rfl,_,_⟩:=hv.two;refine zT λh nx K H0 hK=>zN zP yD 100 λhf => ?_;rw [rq.go,rq.t3,zA,rq.zy];refine H0.box (l:=[I z,.za]) rfl λpa h1 nx1 H1 => ?_;rw [zA,rq.zx,sFx,H1.load (k:=0) (i:=0+0) rfl rfl,sFx,H1.load (k:=0) (i:=0+1) rfl rfl];rw [uM];simp only [zE,zM];rw [rq.ret];exact hK _ _ _ _ _ H1 (jP (.int _ _) (.bool _)) rfl
theorem Hp.zr6 {h0 h:T Blk} {nx:Pa} {L:List Ob} {k e n m off:Nat} {id:Pa} {l l2:List AV} {op:AV->OP} (H:Hp h0 h nx L) (hk:L[k]? = some (.gro (some id) e n l)) (hle:off+m<=l.length) (he:(l.drop off).take m=l2):zF m (.ptr id off) h op=op (.agg l2):=by
 obtain ⟨t,h1,h2,h3⟩:=H.own _ (Zad hk);show qc (T.get .no id h) (λ_ m' t=>bif Nat.ble (off+m) m' then op (.agg (yU t off m)) else .no 8) (.no 9)=_;rw [h1];show (bif Nat.ble (off+m) (n*e) then op (.agg (yU t off m)) else .no 8)=_;rw [Zag (by omega),cond_true,wY (l:=l) (by rw [h2];exact h3) hle,he]
def zdo (c8:List AV) (x:Rat×Rat):Prop:=∃ s w s' w' a b a' b',c8=[s,w,s',w',a,b,a',b']/\qm s w x.1.num/\qm s' w' (x.1.den:Int)/\qm a b x.2.num/\qm a' b' (x.2.den:Int)
def zdp (c:List AV) (prs:List (Rat×Rat)):Prop:=c.length=prs.length*8/\∀ j x,prs[j]? = some x->zdo ((c.drop (j*8)).take 8) x
theorem zdp.add {c c8:List AV} {prs:List (Rat×Rat)} {x:Rat×Rat} (h:zdp c prs) (h8:zdo c8 x):zdp (c++c8) (prs++[x]):=by
 have hl8:c8.length=8:=by obtain ⟨s,w,s',w',a,b,a',b',rfl,_⟩:=h8;rfl
 refine ⟨by rw [Zae,Zae,h.1,hl8,Zbh];omega,λj y hy => ?_⟩;by_cases e:j<prs.length
 .rw [List.getElem?_append_left e] at hy;have:=h.2 j y hy;rw [List.drop_append_of_le_length (by rw [h.1];omega),List.take_append_of_le_length (by rw [Zch,h.1];omega)];exact this
 .have hj:=(List.getElem?_eq_some_iff.1 hy).1;rw [Zae,Zbh] at hj;obtain rfl:j=prs.length:=by omega
  rw [List.getElem?_append_right (Zaf _),Zcd] at hy;obtain rfl:=Option.some.inj hy;rw [<- h.1,List.drop_left,Zam (by omega)];exact h8
theorem zdo.fix {c8:List AV} {x:Rat×Rat} (h:zdo c8 x):∀ v∈c8,fP v=true:=λv hv=>by
 obtain ⟨s,w,s',w',a,b,a',b',rfl,h1,h2,h3,h4⟩:=h;have:v∈[s,w,s',w']\/v∈[a,b,a',b']:=by
  simp only [Zaq,Zfy,or_false] at hv ⊢;rcases hv with h | h | h | h | h | h | h | h <;> simp [h]
 rcases this with q | q
 .exact h1.aJ h2 v q
 .exact h3.aJ h4 v q
theorem zr7 {h0 h:T Blk} {nx p b5:Pa} {L:List Ob} {k5 k:Nat} {rc c8:List AV} {x:Rat×Rat} {ra:Rat} {K:Kw Prop} (H:Hp h0 h nx L) (hk5:L[k5]? = some (.arr b5 rc)) (hr:yR (.agg rc) ra) (h8:zdo c8 x) (hM:k*(k*k)<=9223372036854775807) (hk:k*k<=9223372036854775807) (q1:jk k x.1) (q2:jk k x.2) (q3:jk k ra) (hK:∀ h' nx',Hp h0 h' nx' L->K (.bool (!decide (x.1=ra*x.2))) h' nx'=.ok True):(CS Tryz.prog B).fn 117 p [.agg c8,.ptr b5 0] h nx K=.ok True:=by
 obtain ⟨s,w,s',w',a,b,a',b',rfl,i1,i2,i3,i4⟩:=h8;have hrl:rc.length=4:=by obtain ⟨_,_,_,_,e,_⟩:=hr;rw [AV.agg.inj e];rfl
 refine zN zP yD 100 λhf => ?_;rw [nZ.go,nZ.t3,zA,nZ.zy];refine H.box (l:=[s,w,s',w',a,b,a',b']) rfl λbx h1 nx1 H1 => ?_;have l1:∀ op:AV->OP,zF 4 (.ptr bx (0+0)) h1 op=op (.agg [s,w,s',w']):=λop=>H1.jg (k:=0) (off:=0+0) rfl (by simp) rfl;have l2:∀ op:AV->OP,zF 4 (.ptr bx (0+4)) h1 op=op (.agg [a,b,a',b']):=λop=>H1.jg (k:=0) (off:=0+4) rfl (by simp) rfl;have l3:∀ op:AV->OP,zF 4 (.ptr b5 0) h1 op=op (.agg rc):=λop=>H1.zk (k:=k5+1) (n:=4) hk5 hrl;rw [zA,nZ.zx];simp only [sFx,l1,l2,l3];refine mY hr ⟨_,_,_,_,rfl,i3,i4⟩ q3 q2 hk _ _ _ _ ?_;rintro v6 f6 _;simp only [l1,zH];refine zmx ⟨_,_,_,_,rfl,i1,i2⟩ f6 q1 (mO q3 q2) hM _ _ _ _ ?_;rintro _ rfl _;rw [yT];simp only [zE,zM];rw [nZ.ret];exact hK _ _ H1.drop
theorem sIxG {id:Pa} {e n j:Nat} {z:Int} {op:AV->OP} (hz:z=(j:Int)) (hj:j<n):zL e (.sl id 0 n none e) (I z) op=op (.ptr id (j*e)):=by
 subst hz;rw [qP hj,Zbl]
theorem zyn {h0 h:T Blk} {nx p b5:Pa} {L:List Ob} {kg k5 k:Nat} {o:Option Pa} {rc c:List AV} {prs:List (Rat×Rat)} {ra:Rat} {K:Kw Prop} (H:Hp h0 h nx L) (hkg:L[kg]? = some (.gro o 8 prs.length c)) (hc:zdp c prs) (hl:prs.length<=1000) (hk5:L[k5]? = some (.arr b5 rc)) (hr:yR (.agg rc) ra) (hM:k*(k*k)<=9223372036854775807) (hk:k*k<=9223372036854775807) (q12:∀ x∈prs,jk k x.1/\jk k x.2) (q3:jk k ra)
  (hK:∀ (z:Int) h' nx',(0<=z↔∃ x∈prs,x.1≠ra*x.2)->Hp h0 h' nx' L->K (I z) h' nx'=.ok True):(CS Tryz.prog B).fn 199 p [uy o 8 prs.length,.fn 117 (.of 117) [.ptr b5 0]] h nx K=.ok True:=by
 refine zN zP yD 2000 λhf => ?_;rw [ji.go,ji.t22,zA,ji.zy,zA,zA,ji.zx,H.oJ hkg,zJ];refine ji.zab (λm x5 h' nx'=>∃ i:Nat,x5=I (i:Int)/\m+i=prs.length/\(∀ x∈prs.take i,x.1=ra*x.2)/\Hp h0 h' nx' L) (m:=prs.length) (by omega) ⟨0,rfl,rfl,by simp,H⟩ ?_;rintro m z2 z3 z5 z6 z7 h3 nx3 R ⟨i,rfl,hm,hn,H3⟩ hR;rw [ji.t15,zA,ji.jb,jq,zA,zB,ji.v6];by_cases ci:i<prs.length
 .have hx:prs[i]? = some prs[i]:=List.getElem?_eq_getElem ci;have h8:=hc.2 i _ hx;have hcl:=hc.1;obtain ⟨q1,q2⟩:=q12 _ (Zau ci);obtain ⟨id,rfl⟩:∃ id,o=some id:=by
   cases o with
   | none=>obtain ⟨_,hz⟩:=H3.own _ (Zad hkg);omega
   | some id=>exact ⟨id,rfl⟩
  rw [Zac (by omega),zC,zG,zA,zJ,zA,ji.rD,zA,ji.rE];rw [show uy (some id) 8 prs.length=.sl id 0 prs.length none 8 from rfl,sIxG (j:=i) rfl ci,H3.zr6 hkg (by omega) rfl,zbm];refine zr7 H3 hk5 hr h8 hM hk q1 q2 q3 λh4 nx4 H4 => ?_;rw [zB,ji.v7];by_cases e:prs[i].1=ra*prs[i].2
  .rw [Zac e,Zap,zD,zG,ji.ni,um (by omega)];refine hR (m-1) _ _ _ _ _ _ _ (by omega) ⟨i+1,by congr 1,by omega,λx hx' => ?_,H4⟩;rw [Zar,hx,Zbn,Zaw,Zat] at hx';rcases hx' with hx' | rfl
   .exact hn x hx'
   .exact e
  .rw [Zab e,Zal,zC,zA,ji.qg];simp only [zE,vN,zM];rw [ji.ret];exact hK _ _ _ ⟨λ_=>⟨_,Zau ci,e⟩,λ_=>by omega⟩ H4
 .rw [Zab (by omega),zD,zV,yC,zA,ji.rX];simp only [zE,zM];rw [ji.ret];rw [Zam (by omega)] at hn;exact hK _ _ _ ⟨λq=>by omega,λ⟨x,hx,e⟩=>absurd (hn x hx) e⟩ H3
theorem zui {h0 h:T Blk} {nx p b5:Pa} {L:List Ob} {kg k5 k:Nat} {o:Option Pa} {rc c:List AV} {prs:List (Rat×Rat)} {ra:Rat} {K:Kw Prop} (H:Hp h0 h nx L) (hkg:L[kg]? = some (.gro o 8 prs.length c)) (hc:zdp c prs) (hl:prs.length<=1000) (hk5:L[k5]? = some (.arr b5 rc)) (hr:yR (.agg rc) ra) (hM:k*(k*k)<=9223372036854775807) (hk:k*k<=9223372036854775807) (q12:∀ x∈prs,jk k x.1/\jk k x.2) (q3:jk k ra)
  (hK:∀ (b:Bool) h' nx',(b=true↔∃ x∈prs,x.1≠ra*x.2)->Hp h0 h' nx' L->K (.bool b) h' nx'=.ok True):(CS Tryz.prog B).fn 116 p [uy o 8 prs.length,.fn 117 (.of 117) [.ptr b5 0]] h nx K=.ok True:=by
 refine zN zP yD 2000 λhf => ?_;rw [nY.go,nY.t3,zA,nY.zy,zA,nY.zx];refine zyn H hkg hc hl hk5 hr hM hk q12 q3 λz h1 nx1 hz H1 => ?_;rw [fI];simp only [zE,zM];rw [nY.ret];exact hK _ _ _ (by rw [decide_eq_true_eq];exact hz) H1
theorem zjs {v:AV} {q:Rat} (hv:yR v q):Pure Tryz.prog B 120 [v] (λv=>wm v (q.num / (q.den:Int))):=by
 obtain ⟨s,w,s',w',rfl,i1,i2⟩:=hv;refine zT λh nx K H0 hK=>zN zP yD 100 λhf => ?_;rw [fF.go,fF.t5,zA,fF.zy];refine H0.box (l:=[s,w,s',w']) rfl λpa h1 nx1 H1 => ?_;refine H1.alloc λp h2 nx2 H2 => ?_;have ln:∀ op:AV->OP,zF 2 (.ptr pa (0+0)) h2 op=op (.agg [s,w]):=λop=>H2.jg (k:=1) rfl (by simp) rfl;have ld:∀ op:AV->OP,zF 2 (.ptr pa (0+2)) h2 op=op (.agg [s',w']):=λop=>H2.jg (k:=1) rfl (by simp) rfl;rw [zA,fF.zx,sFx,ln,sFx,ld];refine dH ⟨_,_,rfl,i1⟩ ⟨_,_,rfl,i2⟩  (by have:=q.den_pos;omega) _ _ _ _ ?_;rintro _ ⟨v1,v2,rfl,⟨s3,w3,rfl,i3⟩,⟨s4,w4,rfl,i4⟩⟩ _;rw [jB,jC];refine H2.alloc λp1 h6 nx6 H6 => ?_;refine H6.alloc λq1 h7 nx7 H7 => ?_;refine H7.yx (l2:=[s3,w3]) (k:=1) rfl rfl rfl λh8 H8 => ?_;refine H8.yx (l2:=[s4,w4]) (k:=0) rfl rfl rfl λh9 H9 => ?_;rw [zA,fF.jb,H9.zk (k:=1) (n:=2) rfl rfl];refine H9.yx (l2:=[s3,w3]) (k:=2) rfl rfl rfl λh10 H10 => ?_;simp only [zE,zM];rw [fF.ret,H10.zk (k:=2) (n:=2) rfl rfl];exact hK _ _ _ _ _ H10 (uL i3.fix) ⟨_,_,rfl,i3⟩
theorem zwf {m:Nat} (hm:m<=1000000) {K:AV->OP}:ze .quo .int (I (m:Int)) (I 2) K=K (I ((m / 2:Nat):Int)):=by
 rw [zkt (by omega) (by decide),Zez (by omega)]
 congr 2
theorem zlv (op:KW3->OP) (h:T Blk) (nx:Pa) (k:KW3):sGW (.bool true) false op h nx k=k .u h nx:=nr rfl
theorem zr8 (op:KW3->OP) (h:T Blk) (nx:Pa) (k:KW3):sGW (.bool false) false op h nx k=op k:=nr rfl
def rR (b:List Rat) (j:Nat):Rat:=(b.take j).foldl (· + ·) 0
theorem xG {b:List Rat} {j:Nat} (h:j<b.length):rR b (j+1)=rR b j+at' b j:=by
 unfold rR;rw [Zar,gY h,Zbn,Zgu];rfl
def prQ (l:List Int) (b:List Rat):Rat×Rat:=(rR b b.length,fq b l l.length)
theorem zuj {b:List Rat} {n:Nat} (hb:b.length=n):rR b b.length=dot (List.replicate n 1) b:=by
 unfold rR;rw [Zam (Zaf _),zm2,hb,jU];grind
def CstF (n:Nat) (l0:List Int) (Bs:List (List Rat)) (x e:Int):Prop :=
 (x=0/\e=7/\∀ r:Rat,r≠0->(∀ b∈Bs,rR b b.length=r*fq b l0 l0.length)->(∃ b∈Bs,fq b l0 l0.length≠0)->False) \/
 ∃ r:Rat,r≠0/\(∃ b∈Bs,fq b l0 l0.length≠0)/\(∀ b∈Bs,rR b b.length=r*fq b l0 l0.length)/\(((((n*(n+1) / 2:Nat):Int):Rat) / r).den=1/\x=((((n*(n+1) / 2:Nat):Int):Rat) / r).num/\e=0\/((((n*(n+1) / 2:Nat):Int):Rat) / r).den≠1/\x=0/\e=21)
theorem zjt {n:Nat} {lines:List (List Int)} (hn:n<=16) (hl:lines.length<=12) (hll:∀ l∈lines,l.length<=16) (he:jW (n:Int) lines=0):Pure Tryz.prog B 33 [.agg [I (n:Int),uq lines]] (λv=>∃ x e:Int,v=.tup [I x,I e]/\(lines=[]->x=0/\e=7)/\(lines≠[]->∃ Q ps,cX n lines Q ps/\CstF n (lines.getD 0 []) (aO n Q ps) x e)):=by
 obtain ⟨n',hn',_,_,_,hasc⟩:=zrl he;have en:n'=n:=by omega
 rw [en] at hasc;have hr:∀ l∈lines,∀ c∈l,0<=c/\c<(n:Int):=λl hlm=>(hasc l hlm).2.2;refine zT λh nx K H0 hK=>zN zP yD 1000 λhf => ?_;have ret:∀ {x e:Int} {h1 nx1 L},Hp h h1 nx1 L->((lines=[]->x=0/\e=7)/\(lines≠[]->∃ Q ps,cX n lines Q ps/\CstF n (lines.getD 0 []) (aO n Q ps) x e))->K (.tup [I x,I e]) h1 nx1=.ok True:=λH hc=>hK _ _ _ _ _ H (jP (zR rfl) (zR rfl)) ⟨_,_,rfl,hc⟩;rw [F33.go,F33.t91,zA,F33.zy];refine H0.box (l:=[I (n:Int),uq lines]) rfl λb1 h1 nx1 H1 => ?_;rw [zA,zA,F33.zx,H1.zk (k:=0) (n:=2) rfl rfl];refine zv8 (λq hq=>by have:=hll q hq;omega) _ _ _ _ ?_;rintro _ rfl _;rw [he,zA,F33.jb,fV,Zac rfl,Zap,zB,F33.v15,zD,zG,zA,zA,F33.fE,sFx,H1.load (k:=0) (i:=0+1) rfl rfl,yA,qx,zB,F33.v16];by_cases c0:lines.length=0
 .rw [Zac (by omega),zC,zA,F33.rF];simp only [zE,zM];rw [F33.ret];exact ret H1 ⟨λ_=>⟨rfl,rfl⟩,λhne=>absurd (Zci c0) hne⟩
 have hx0:lines[0]? = some (lines.getD 0 []):=jZ (by omega);have hm0:=zY (l:=lines) (d:=[]) (show 0<lines.length by omega);obtain ⟨l0,hl0⟩:∃ l0,l0=lines.getD 0 []:=⟨_,rfl⟩;rw [<- hl0] at hx0 hm0;have hl16:=hll _ hm0;have hr0:=hr _ hm0;rw [Zab (by omega),zD,zG,zA,F33.rM];refine H1.alloc λb5 h2 nx2 H2 => ?_;rw [zA,F33.fT,zA,F33.zzf,zA,zA,F33.au,H2.zk (k:=1) (n:=2) rfl rfl];refine zm6 (by omega) hl (λl hlm=>by have:=hll l hlm;omega) hr _ _ _ _ ?_;rintro _ ⟨Q,ps,hred,cb,hcl,hcr,rfl⟩ _;have hszd:=zlt hred hl;have ret7:∀ {x e:Int} {h1 nx1 L},Hp h h1 nx1 L->CstF n l0 (aO n Q ps) x e->K (.tup [I x,I e]) h1 nx1=.ok True:=λH hc=>ret H ⟨λe=>absurd (by rw [e];rfl) c0,λ_=>⟨Q,ps,hred,hl0 ▸ hc⟩⟩;obtain ⟨⟨O,hS⟩,hQ33,hdot,hcv⟩:=hred;obtain ⟨M,hMe⟩:∃ M,M=ZB:=⟨_,rfl⟩;have hM:M=2356:=hMe;obtain ⟨Bs,hBs⟩:∃ Bs,Bs=(frQ n ps).map (eO n Q ps):=⟨_,rfl⟩;have hBs2:aO n Q ps=Bs:=hBs.symm;rw [hBs2] at hszd ret7;rw [<- hBs] at hcl hcr ⊢;have hBl:Bs.length<=256:=by rw [hBs,Zai];exact Zay (mV n ps) (by omega)
 have hBn:∀ b∈Bs,b.length=n/\Mgf n lines b/\∃ t,1<=t/\t<=M/\∀ j,Dn t M (at' b j):=λb hb=>by
  have hz:=hszd b hb;rw [<- hMe] at hz;rw [hBs] at hb;obtain ⟨c,hc,rfl⟩:=List.mem_map.1 hb;unfold frQ at hc;obtain ⟨hc1,hc2⟩:=List.mem_filter.1 hc;exact ⟨dL ..,hcv _ (dL ..) (zla hS (List.mem_range.1 hc1) (by simpa using hc2)),hz⟩
 have qB:∀ {t N:Nat} {q:Rat},1<=t->t<=N->Dn t N q->jk N q:=λh1 h2 hd=>hd.nm h1 h2;rw [jR,yA,zJ];have H2:=H2.zcf 8;refine F33.znp (λm x6 x7 x19 h' nx'=>∃ (a:Nat) (o:Option Pa) (gc rc:List AV) (found:Bool) (ra:Rat),x6=.bool found/\x7=uy o 8 a/\x19=I (a:Int)/\m+a=Bs.length/\zdp gc ((Bs.take a).map (prQ l0))/\rc.length=4/\(found=true->yR (.agg rc) ra/\∃ s,1<=s/\s<=16*M/\Dn s (16*M) ra/\∃ b∈Bs,fq b l0 l0.length≠0/\ra=rR b b.length / fq b l0 l0.length)/\(found=false->∀ b∈Bs.take a,fq b l0 l0.length=0)/\Hp h h' nx' [.gro o 8 a gc,.arr b5 rc,.arr b1 [I (n:Int),uq lines]]) (m:=Bs.length) (by omega) ⟨0,none,[],_,false,0,rfl,rfl,rfl,rfl,⟨rfl,λj x hx=>by simp at hx⟩,rfl,λe=>absurd e (by decide),λ_ b hb=>by simp at hb,H2⟩ ?_;rintro m z6 z7 z8 z9 z10 z11 z19 z20 z21 z22 z23 z24 z25 z26 z27 z28 z29 h3 nx3 R ⟨a,o,gc,rc,found,ra,rfl,rfl,rfl,hma,hgc,hrc,hfo,hnf,H3⟩ hR;rw [F33.t63,zA,F33.sW,jq,zA,zB,F33.v20];by_cases ca:a<Bs.length
 case neg =>
  obtain rfl:a=Bs.length:=by omega
  rw [Zab (by omega),zD,zV,yC,zA,zA,F33.znq];obtain ⟨prs,hprs⟩:∃ prs,prs=Bs.map (prQ l0):=⟨_,rfl⟩;rw [Zam (Zaf _),<- hprs] at hgc;have epl:Bs.length=prs.length:=by rw [hprs,Zai]
  have pq:∀ b∈Bs,rR b b.length=dot b (List.replicate n 1)/\fq b l0 l0.length=dot b (rQ n l0):=λb hb=>by
   have hbn:=(hBn b hb).1;have h2:=zli hbn (hasc _ hm0) l0.length (Zaf _);rw [Zam (Zaf _)] at h2;rw [zuj hbn,h2];exact ⟨jU ..,jU ..⟩
  have zr9:∀ {h1 nx1 L},Hp h h1 nx1 L->(∀ r:Rat,r≠0->(∀ b∈Bs,rR b b.length=r*fq b l0 l0.length)->(∃ b∈Bs,fq b l0 l0.length≠0)->False)->K (.tup [I 0,I 7]) h1 nx1=.ok True:=λH hno=>ret7 H (.inl ⟨rfl,rfl,hno⟩);rw [F33.znx,F33.zsc,yT];cases found with
  | false =>
   simp only [Zal,jM,vU,zlv];rw [F33.zp4,F33.zj3];simp only [jM,zW,vU,zlv];rw [F33.zkp,F33.zdu];simp only [zW];rw [zB,F33.v30,zC,zA,F33.zfv];simp only [zE,zM];rw [F33.ret];refine zr9 H3 λr _ _ ⟨b,hb,hb0⟩=>hb0 (hnf rfl b ?_);rw [Zam (Zaf _)];exact hb
  | true =>
  obtain ⟨fra,s,s1,sN,hra,b0,hb0m,hb0n,qbp⟩:=hfo rfl;have isr:∀ r:Rat,(∀ b∈Bs,rR b b.length=r*fq b l0 l0.length)->ra=r:=λr hr=>by
   rw [qbp,hr b0 hb0m,Zfc];grind
  have qra:jk (16*M) ra:=qB s1 sN hra;simp only [Zap,y4,zr8];rw [H3.zk (k:=1) (n:=4) rfl hrc];refine xP fra _ _ _ _ ?_;rintro _ rfl _;rw [F33.zp4,F33.zj3];simp only [y4,zZ];rw [qx];by_cases hra0:ra=0
  .rw [Zac (fe.2 (Rat.num_eq_zero.2 hra0))];simp only [jM,vU,zlv];rw [F33.zkp,F33.zdu];simp only [zW];rw [zB,F33.v30,zC,zA,F33.zfv];simp only [zE,zM];rw [F33.ret];exact zr9 H3 λr hr0 hr _=>hr0 ((isr r hr).symm.trans hra0)
  rw [Zab (λq=>hra0 (Rat.num_eq_zero.1 (fe.1 q)))];simp only [y4,zr8];rw [epl] at H3;rw [show uy o 8 Bs.length=uy o 8 prs.length by rw [epl]];have hprB:∀ x∈prs,∃ t,1<=t/\t<=M/\Dn t (16*M) x.1/\Dn t (16*M) x.2:=λx hx=>by
   rw [hprs] at hx;obtain ⟨b,hb,rfl⟩:=List.mem_map.1 hx;obtain ⟨hbl,_,t,ht1,htM,hbd⟩:=hBn b hb;have d1:∀ j,j<=b.length->Dn t (j*M) (rR b j):=by
    intro j
    induction j with
    | zero=>intro _;rw [Zer];exact Dn.zero _ _
    | succ j ih=>intro hj;rw [xG (by omega),Zbf,Zcv];exact (ih (by omega)).add (hbd j)
   have d2:∀ j,j<=l0.length->Dn t (j*M) (fq b l0 j):=by
    intro j
    induction j with
    | zero=>intro _;rw [Zer];exact Dn.zero _ _
    | succ j ih=>intro hj;rw [qT (by omega),Zbf,Zcv];exact (ih (by omega)).add (hbd _)
   exact ⟨t,ht1,htM,(d1 _ (Zaf _)).mono (Zax M (by omega)),(d2 _ (Zaf _)).mono (Zax M (by omega))⟩
  refine zui (kg:=0) (k5:=1) (k:=16*M) H3 rfl hgc (by omega) rfl fra (by rw [hM];decide) (by rw [hM];decide) (λx hx=>by
   obtain ⟨t,ht1,htM,d1,d2⟩:=hprB x hx;exact ⟨qB ht1 (by omega) d1,qB ht1 (by omega) d2⟩) qra λbb h4 nx4 hbb H4 => ?_
  rw [F33.zkp,F33.zdu];simp only [zZ];rw [zB,F33.v30];cases bb with
  | true =>
   rw [zC,zA,F33.zfv];simp only [zE,zM];rw [F33.ret];refine zr9 H4 λr _ hr _ => ?_;obtain ⟨x,hx,hxn⟩:=hbb.1 rfl;rw [hprs] at hx;obtain ⟨b,hb,rfl⟩:=List.mem_map.1 hx;exact hxn (by rw [isr r hr];exact hr b hb)
  | false =>
  have hall:∀ x∈prs,x.1=ra*x.2:=λx hx=>by
   by_cases e:x.1=ra*x.2
   .exact e
   .exact absurd (hbb.2 ⟨x,hx,e⟩) (by decide)
  have hnn:n*(n+1)<=16*17:=Zbk hn (by omega);have a1:∀ K:AV->OP,ze .add .int (I (n:Int)) (I 1) K=K (I ((n+1:Nat):Int)):=λK=>by rw [um (by omega)];simp
  have m1:∀ K:AV->OP,ze .mul .int (I (n:Int)) (I ((n+1:Nat):Int)) K=K (I ((n*(n+1):Nat):Int)):=λK=>by
   have e:(n:Int)*((n+1:Nat):Int)=((n*(n+1):Nat):Int):=by simp
   rw [rC (by rw [e];omega),e]
  have q1:∀ K:AV->OP,ze .quo .int (I ((n*(n+1):Nat):Int)) (I 2) K=K (I ((n*(n+1) / 2:Nat):Int)):=λK=>zwf (by omega);obtain ⟨X,hXe⟩:∃ X:Nat,X=n*(n+1) / 2:=⟨_,rfl⟩;have hX:X<=136:=by omega
  have lb:∀ op:AV->OP,zI (.ptr b1 (0+0)) h4 op=op (I (n:Int)):=λop=>H4.load (k:=2) (i:=0+0) rfl rfl;have l5:∀ op:AV->OP,zF 4 (.ptr b5 0) h4 op=op (.agg rc):=λop=>H4.zk (k:=1) (n:=4) rfl hrc;have ck:(true&&true)=true:=rfl;rw [zD,zG,zA,F33.znr,ck,jN];simp only [sFx,lb,a1,m1,q1,l5];rw [<- hXe];refine zb3 (by unfold rH;omega) _ _ _ _ ?_;rintro vx fx _;simp only [sFx,lb,a1,m1,q1,l5,zH];have qX:jk 136 (((X:Nat):Int):Rat):=qB (t:=1) (N:=136) (by omega) (by omega) ⟨(X:Int),by grind,by omega⟩;refine zhe fx fra qX qra (by rw [hM];decide) hra0 _ _ _ _ ?_;rintro _ ⟨s3,w3,s3',w3',rfl,k1,k2⟩ _;simp only [lb,l5,zH];refine H4.alloc λb12 h5 nx5 H5 => ?_;have lb:∀ op:AV->OP,zI (.ptr b1 (0+0)) h5 op=op (I (n:Int)):=λop=>H5.load (k:=3) (i:=0+0) rfl rfl;have l5:∀ op:AV->OP,zF 4 (.ptr b5 0) h5 op=op (.agg rc):=λop=>H5.zk (k:=2) (n:=4) rfl hrc;simp only [lb,l5,zH];refine H5.yx (l2:=[s3,w3,s3',w3']) (k:=0) rfl rfl rfl λh6 H6 => ?_;obtain ⟨cc,hcc⟩:∃ cc:Rat,cc=(((X:Nat):Int):Rat) / ra:=⟨_,rfl⟩;rw [<- hcc] at k1 k2;have fcc:yR (.agg [s3,w3,s3',w3']) cc:=⟨_,_,_,_,rfl,k1,k2⟩;rw [zA,F33.zjz,H6.zk (k:=0) (n:=4) rfl rfl];refine zjs fcc _ _ _ _ ?_;rintro vi fi _;refine zr5 fi _ _ _ _ ?_;rintro _ rfl _;rw [jB,jC,zA,zA,F33.zzk,H6.zk (k:=0) (n:=4) rfl rfl];refine dE fcc _ _ _ _ ?_;rintro _ rfl _;rw [yT];have zwg:∀ b∈Bs,rR b b.length=ra*fq b l0 l0.length:=λb hb=>hall (prQ l0 b) (by rw [hprs];exact List.mem_map_of_mem hb);rw [hXe] at hcc;by_cases hw:cc.den=1
  .rw [Zac hw];have hfl:cc.num / (cc.den:Int)=cc.num:=by rw [hw];simp
   rw [hfl];simp only [Zap,y4,yT,zZ];rw [zB,F33.v31,zD,zG,zA,F33.zj0];simp only [zE,zM];rw [F33.ret];exact ret7 H6 (.inr ⟨ra,hra0,⟨b0,hb0m,hb0n⟩,zwg,.inl ⟨hcc ▸ hw,by rw [hcc],rfl⟩⟩)
  .rw [Zab hw];simp only [Zal,jM,vU,zW];rw [zB,F33.v31,zC,zA,F33.zns];simp only [zE,zM];rw [F33.ret];exact ret7 H6 (.inr ⟨ra,hra0,⟨b0,hb0m,hb0n⟩,zwg,.inr ⟨hcc ▸ hw,rfl,rfl⟩⟩)
 have hb:=zY (d:=[]) ca;have hba:Bs[a]? = some (Bs.getD a []):=jZ ca;have hca:cb[a]? = some (cb.getD a []):=jZ (by omega);obtain ⟨hbl,_,t,ht1,htM,hbd⟩:=hBn _ hb;have hrow:=hcr a ca;obtain ⟨b,hbe⟩:∃ b,b=Bs.getD a []:=⟨_,rfl⟩;rw [<- hbe] at hba hbl hbd hrow hb;obtain ⟨c,hce⟩:∃ c,c=cb.getD a []:=⟨_,rfl⟩;rw [<- hce] at hca hrow;rw [Zac (by omega),zC,zG,zA,zJ,zA,F33.rX,fO (i:=a) rfl ca,ldL (show (cb.map λc=>AV.lst 4 n c)[a]? = some (.lst 4 n c) by rw [List.getElem?_map,hca];rfl),zA,F33.aD];refine zb3 (by unfold rH;omega) _ _ _ _ ?_;rintro _ ⟨s,w,s',w',rfl,i1,i2⟩ _;refine zb3 (by unfold rH;omega) _ _ _ _ ?_;rintro _ ⟨s2,w2,s2',w2',rfl,j1,j2⟩ _;rw [rat0] at i1 i2 j1 j2;rw [show ∀ K:AV->OP,gU [(I 0),.za,(I 0),.za,(I 0),.za,(I 0),.za] [(0,4,.agg [s,w,s',w']),(4,4,.agg [s2,w2,s2',w2'])] K=K (.agg [s,w,s',w',s2,w2,s2',w2']) from λK=>nr rfl];refine H3.alloc λb9 h4 nx4 H4 => ?_;refine H4.yx (l2:=[s,w,s',w',s2,w2,s2',w2']) (k:=0) rfl rfl rfl λh5 H5 => ?_;rw [zA,zA,F33.zfh,yA,zJ];refine F33.zzg (λm x23 h' nx'=>∃ (j:Nat) (s w s' w':AV),x23=I (j:Int)/\m+j=n/\qm s w (rR b j).num/\qm s' w' ((rR b j).den:Int)/\Dn t (j*M) (rR b j)/\Hp h h' nx' [.arr b9 [s,w,s',w',s2,w2,s2',w2'],.gro o 8 a gc,.arr b5 rc,.arr b1 [I (n:Int),uq lines]]) (m:=n) (by omega) ⟨0,s,w,s',w',rfl,rfl,i1,i2,by rw [Zer];exact Dn.zero _ _,H5⟩ ?_;rintro m2 u10 u23 u24 h6 nx6 R2 ⟨j,s,w,s',w',rfl,hmj,i1,i2,hdj,H6⟩ hR2;rw [F33.t31,zA,F33.aQ,jq,zA,zB,F33.v24];have hjM:j*M<=16*M:=Zax M (by omega);by_cases cj:j<n
 .obtain ⟨cs2,e1,e2,_,fv⟩:=hrow.get (gY (q:=b) (j:=j) (by omega));obtain ⟨so,wo,so',wo',e5,o1,o2⟩:=fv;obtain rfl:=AV.agg.inj e5;rw [Zac (by omega),zC,zG,zA,zJ,zA,F33.eY,zv5 (j:=j) rfl cj,zrm (by rw [Zch];omega),e1];refine H6.alloc λb10 h7 nx7 H7 => ?_;refine H7.yx (l2:=[so,wo,so',wo']) (k:=0) rfl rfl rfl λh8 H8 => ?_;rw [F33.zaf];simp only [sFx];rw [H8.jg (k:=1) (off:=0+0) (n:=4) rfl (by simp) rfl,H8.zk (k:=0) (n:=4) rfl rfl];refine zb4 ⟨_,_,_,_,rfl,i1,i2⟩ ⟨_,_,_,_,rfl,o1,o2⟩ (qB ht1 (show t<=16*M by omega) (hdj.mono hjM)) (qB ht1 htM (hbd j)) (by rw [hM];decide) _ _ _ _ ?_;rintro _ ⟨s3,w3,s3',w3',rfl,k1,k2⟩ _;refine H8.tJ (k:=1) (off:=0+0) (n:=4) rfl (by simp) rfl λh9 H9 => ?_;rw [<- xG (by omega)] at k1 k2;rw [F33.zaa,um (by omega)];exact hR2 (m2-1) _ _ _ _ _ (by omega) ⟨j+1,s3,w3,s3',w3',by congr 1,by omega,k1,k2,by rw [xG (by omega),Zbf,Zcv];exact hdj.add (hbd j),H9.drop⟩
 obtain rfl:j=n:=by omega
 rw [Zab (by omega),zD,zV,yC,zA,zA,F33.zfr,sFx,H6.load (k:=3) (i:=0+1) rfl rfl,fO (j:=0) (i:=0) rfl (by omega),ldL (getT hx0),yA,zJ];refine F33.zzh (λm x27 h' nx'=>∃ (y:Nat) (s2 w2 s2' w2':AV),x27=I (y:Int)/\m+y=l0.length/\qm s2 w2 (fq b l0 y).num/\qm s2' w2' ((fq b l0 y).den:Int)/\Dn t (y*M) (fq b l0 y)/\Hp h h' nx' [.arr b9 [s,w,s',w',s2,w2,s2',w2'],.gro o 8 a gc,.arr b5 rc,.arr b1 [I (j:Int),uq lines]]) (m:=l0.length) (by omega) ⟨0,s2,w2,s2',w2',rfl,rfl,j1,j2,by rw [Zer];exact Dn.zero _ _,H6⟩ ?_;rintro m3 v11 v27 v28 h7 nx7 R3 ⟨y,s2,w2,s2',w2',rfl,hmy,j1,j2,hdy,H7⟩ hR3;rw [F33.t45,zA,F33.zfu,jq,zA,zB,F33.v28];have hyM:y*M<=16*M:=Zax M (by omega);by_cases cy:y<l0.length
 .have hy:l0[y]? = some l0[y]:=List.getElem?_eq_getElem cy;have hyr:=hr0 _ (Zau cy);obtain ⟨cs2,e1,e2,_,fv⟩:=hrow.get (gY (q:=b) (j:=l0[y].toNat) (by omega));rw [Zac (by omega),zC,zG,zA,zJ,zA,F33.zfs,fO rfl cy,ldL (aI hy),F33.zng];simp only [sFx];rw [H7.jg (k:=0) (off:=0+4) (n:=4) rfl (by simp) rfl,zv5 (j:=l0[y].toNat) (by omega) (by omega),zrm (by rw [Zch];omega),e1];refine zb4 ⟨_,_,_,_,rfl,j1,j2⟩ fv (qB ht1 (show t<=16*M by omega) (hdy.mono hyM)) (qB ht1 htM (hbd _)) (by rw [hM];decide) _ _ _ _ ?_;rintro _ ⟨s3,w3,s3',w3',rfl,k1,k2⟩ _;refine H7.tJ (k:=0) (off:=0+4) (n:=4) rfl (by simp) rfl λh9 H9 => ?_;rw [<- qT cy] at k1 k2;rw [F33.znh,um (by omega)];exact hR3 (m3-1) _ _ _ _ _ (by omega) ⟨y+1,s3,w3,s3',w3',by congr 1,by omega,k1,k2,by rw [qT cy,Zbf,Zcv];exact hdy.add (hbd _),H9⟩
 obtain rfl:y=l0.length:=by omega
 have h8:zdo [s,w,s',w',s2,w2,s2',w2'] (prQ l0 b):=⟨_,_,_,_,_,_,_,_,rfl,by rw [prQ,hbl];exact i1,by rw [prQ,hbl];exact i2,j1,j2⟩;have hT:Dn t (16*M) (rR b j):=hdj.mono hjM;have hC:Dn t (16*M) (fq b l0 l0.length):=hdy.mono hyM;rw [Zab (by omega),zD,zV,yC,zA,zA,F33.zzi];simp only [sFx];rw [H7.jg (k:=0) (off:=0+4) (n:=4) rfl (by simp) rfl];refine xP ⟨_,_,_,_,rfl,j1,j2⟩ _ _ _ _ ?_;rintro _ rfl _;rw [fV];by_cases hC0:fq b l0 l0.length=0
 .rw [Zac (fe.2 (Rat.num_eq_zero.2 hC0))];simp only [Zap,jF,vU,zZ];rw [zB,F33.v29,zD,zG];rw [F33.znv,H7.zk (k:=0) (n:=8) rfl rfl];refine H7.cu (l:=[s,w,s',w',s2,w2,s2',w2']) rfl λtb h10 nx10 H10 => ?_;refine H10.appN (k:=2) (o:=o) (c:=1) (new:=[s,w,s',w',s2,w2,s2',w2']) rfl (qi.rd (l:=[s,w,s',w',s2,w2,s2',w2']) (n:=1) (H10.own _ (Zaj ..)) rfl) rfl (List.all_eq_true.2 λv hv=>fP.uz (h8.fix v hv)) (by decide) (by decide) (by omega) λo' h11 nx11 _ H11 => ?_;rw [F33.znw,um (by omega)];refine hR (m-1) _ _ _ _ _ _ _ _ _ _ _ _ _ _ _ _ _ _ _ (by omega) ⟨a+1,o',gc++[s,w,s',w',s2,w2,s2',w2'],rc,found,ra,rfl,rfl,by congr 1,by omega,?_,hrc,hfo,λhf b' hb' => ?_,H11.drop.drop⟩
  .rw [Zar,hba,Zbn,Zbp];exact hgc.add h8
  .rw [Zar,hba,Zbn] at hb';rcases List.mem_append.1 hb' with q | q
   .exact hnf hf b' q
   .rw [List.mem_singleton.1 q];exact hC0
 rw [Zab (λq=>hC0 (Rat.num_eq_zero.1 (fe.1 q)))];simp only [Zal,yL,yT,zW];rw [zB,F33.v29];cases found with
 | true =>
  rw [Zap,zD,zG];rw [F33.znv,H7.zk (k:=0) (n:=8) rfl rfl];refine H7.cu (l:=[s,w,s',w',s2,w2,s2',w2']) rfl λtb h10 nx10 H10 => ?_;refine H10.appN (k:=2) (o:=o) (c:=1) (new:=[s,w,s',w',s2,w2,s2',w2']) rfl (qi.rd (l:=[s,w,s',w',s2,w2,s2',w2']) (n:=1) (H10.own _ (Zaj ..)) rfl) rfl (List.all_eq_true.2 λv hv=>fP.uz (h8.fix v hv)) (by decide) (by decide) (by omega) λo' h11 nx11 _ H11 => ?_;rw [F33.znw,um (by omega)];refine hR (m-1) _ _ _ _ _ _ _ _ _ _ _ _ _ _ _ _ _ _ _ (by omega) ⟨a+1,o',gc++[s,w,s',w',s2,w2,s2',w2'],rc,true,ra,rfl,rfl,by congr 1,by omega,?_,hrc,hfo,λe=>absurd e (by decide),H11.drop.drop⟩;rw [Zar,hba,Zbn,Zbp];exact hgc.add h8
 | false =>
  rw [Zal,zC,F33.zzj];simp only [sFx];rw [H7.jg (k:=0) (off:=0+0) (n:=4) rfl (by simp) rfl,H7.jg (k:=0) (off:=0+4) (n:=4) rfl (by simp) rfl];refine zhe ⟨_,_,_,_,rfl,i1,i2⟩ ⟨_,_,_,_,rfl,j1,j2⟩ (qB ht1 (show t<=16*M by omega) hT) (qB ht1 (show t<=16*M by omega) hC) (by rw [hM];decide) hC0 _ _ _ _ ?_;rintro _ ⟨s5,w5,s5',w5',rfl,k1,k2⟩ _;refine H7.yx (l2:=[s5,w5,s5',w5']) (k:=2) rfl hrc rfl λh9 H9 => ?_;obtain ⟨sr,sr1,srN,_,dmul⟩:=zjl ht1 hC0 hC;have hdr:=dmul hT;rw [<- Zfc] at hdr;rw [F33.znv,H9.zk (k:=0) (n:=8) rfl rfl];refine H9.cu (l:=[s,w,s',w',s2,w2,s2',w2']) rfl λtb h10 nx10 H10 => ?_;refine H10.appN (k:=2) (o:=o) (c:=1) (new:=[s,w,s',w',s2,w2,s2',w2']) rfl (qi.rd (l:=[s,w,s',w',s2,w2,s2',w2']) (n:=1) (H10.own _ (Zaj ..)) rfl) rfl (List.all_eq_true.2 λv hv=>fP.uz (h8.fix v hv)) (by decide) (by decide) (by omega) λo' h11 nx11 _ H11 => ?_;rw [F33.znw,um (by omega)];refine hR (m-1) _ _ _ _ _ _ _ _ _ _ _ _ _ _ _ _ _ _ _ (by omega) ⟨a+1,o',gc++[s,w,s',w',s2,w2,s2',w2'],[s5,w5,s5',w5'],true,rR b j / fq b l0 l0.length,rfl,rfl,by congr 1,by omega,?_,rfl,λ_=>⟨⟨_,_,_,_,rfl,k1,k2⟩,sr,sr1,srN,hdr,b,hb,hC0,by rw [hbl]⟩,λe=>absurd e (by decide),H11.drop.drop⟩;rw [Zar,hba,Zbn,Zbp];exact hgc.add h8
theorem zju {f:List Rat} {t M:Nat} (hf:∀ j,Dn t M (at' f j)):∀ j,j<=f.length->Dn t (j*M) (rR f j)
 | 0,_=>by rw [Zer];exact Dn.zero _ _
 | j+1,hj=>by rw [xG (by omega),Zbf,Zcv];exact (zju hf j (by omega)).add (hf j)
theorem Dn.qd {t M:Nat} {q:Rat} (h:Dn t M q) (h1:1<=t) (h2:t<=37696) (hM:M<=37696):Qd q:=((h.mono hM).nm h1 h2).qd (by decide)
theorem zyo {f:List Rat} {t:Nat} (hl:f.length<=16) (t1:1<=t) (t2:t<=ZB) (hf:∀ j,Dn t ZB (at' f j)):Pure Tryz.prog B 202 [uX f] (· = T9 (rR f f.length)):=by
 have hz:ZB=2356:=rfl;refine zT λh nx K H0 hK=>zN zP yD 1000 λhf2 => ?_;unfold uX;rw [uh.go,uh.t18,zA,uh.zy,zA,uh.zx,zA,zA,uh.jb,zJ];refine uh.aF (λm x2 x3 h' nx'=>∃ i:Nat,x2=T9 (rR f i)/\x3=I (i:Int)/\m+i=f.length/\h'=h/\nx'=nx) (m:=f.length) (by omega) ⟨0,by rw [<- zfa];rfl,rfl,rfl,rfl,rfl⟩ ?_;rintro m z2 z3 z4 h3 nx3 R ⟨i,rfl,rfl,hm,rfl,rfl⟩ hR;rw [uh.t10,zA,zA,uh.dw,yA,jq,zB,uh.v4];by_cases ci:i<f.length
 .have hx:(f.map T9)[i]? = some (T9 (at' f i)):=by rw [List.getElem?_map,gY ci];rfl
  have d1:=zju hf i (by omega);have hi16:i*ZB<=16*ZB:=Zax _ (by omega);rw [Zac (by omega),zC,zG,zA,zJ,uh.qg,fO (i:=i) rfl ci,ldL hx];refine zjh (d1.qd t1 (by omega) (by omega)) ((hf i).qd t1 (by omega) (by omega)) _ _ _ _ ?_;rintro _ rfl _;rw [uh.fE,um (by omega)];exact hR (m-1) _ _ _ _ _ (by omega) ⟨i+1,by rw [xG ci],by congr 1,by omega,rfl,rfl⟩
 .obtain rfl:i=f.length:=by omega
  rw [Zab (by omega),zD,zV,yC,zA,uh.fT];simp only [zE,zM];rw [uh.ret];exact hK _ _ _ _ _ H0 (zR rfl) rfl
theorem zsa {p q:Rat} (hp:Qd p) (hq:Qd q) (h0:q≠0):Pure Tryz.prog B 124 [.str (ku p),.str (ku q)] (· = .str (ku (p / q))):=by
 refine zT λh nx K H0 hK=>zN zP yD 100 λhf => ?_;have hi:Qd q⁻¹:=by
  have h1:jk 999999999 q:=⟨by have:=hq.1;omega,by have:=hq.2;omega⟩;exact h1.inv.qd (by decide)
 rw [ru.go,ru.t3,zA,ru.zy,zA,ru.zx];refine pJ hq h0 _ _ _ _ ?_;rintro _ rfl _;refine zew hp hi _ _ _ _ ?_;rintro _ rfl _;simp only [zE,zM];rw [ru.ret];exact hK _ _ _ _ _ H0 (zR rfl) (by rw [Zfc])
theorem zh7 (q:Rat):ku q≠[]:=λe=>by have:=bT q;rw [e] at this;simp at this
theorem zna {n:Nat} {lines:List (List Int)} {Q:List (List Rat)} {ps:List Nat} (hn1:1<=n) (hn:n<=16) (hl0:lines≠[]) (hl:lines.length<=12) (hll:∀ l∈lines,l.length<=16) (hr:∀ l∈lines,∀ c∈l,0<=c/\c<(n:Int)) (hred:cX n lines Q ps):Pure Tryz.prog B 123 [.agg [I (n:Int),uq lines]] (λv =>
  (v=.tup [.str [],.bool false]/\∀ r:Rat,r≠0->(∀ b∈aO n Q ps,rR b b.length=r*fq b (lines.getD 0 []) (lines.getD 0 []).length)->(∃ b∈aO n Q ps,fq b (lines.getD 0 []) (lines.getD 0 []).length≠0)->False) \/
  ∃ r:Rat,r≠0/\jk 37696 r/\(∃ b∈aO n Q ps,fq b (lines.getD 0 []) (lines.getD 0 []).length≠0)/\(∀ b∈aO n Q ps,rR b b.length=r*fq b (lines.getD 0 []) (lines.getD 0 []).length)/\v=.tup [T9 r,.bool true]):=by
 have hz:ZB=2356:=rfl;have hszd:=zlt hred hl;have hbl:∀ b∈aO n Q ps,b.length=n:=λb hb=>by obtain ⟨c,_,rfl⟩:=List.mem_map.1 hb;exact dL ..
 have hL:0<lines.length:=List.length_pos_iff.2 hl0;have hx0:lines[0]? = some (lines.getD 0 []):=jZ hL;have hm0:=zY (l:=lines) (d:=[]) hL;obtain ⟨l0,hl0e⟩:∃ l0,l0=lines.getD 0 []:=⟨_,rfl⟩;rw [<- hl0e] at hx0 hm0 ⊢;have w0:=hll _ hm0;obtain ⟨Bs,hBs⟩:∃ Bs,Bs=aO n Q ps:=⟨_,rfl⟩;have hBl:Bs.length<=16:=by rw [hBs,Zai];exact Zay (mV n ps) hn
 have qbq:∀ {R p},Rr n (aP (sU n lines)) R p->Bs=R:=λhR=>by rw [hBs];exact (zh6 hred hR).1
 rw [<- hBs] at hszd hbl ⊢;refine zT λh nx K H0 hK=>zN zP yD 1000 λhf => ?_;rw [zf.go,zf.t54,zA,zf.zy];refine H0.box (l:=[I (n:Int),uq lines]) rfl λbx h1 nx1 H1 => ?_;have lN:∀ op:AV->OP,zF 2 (.ptr bx 0) h1 op=op (.agg [I (n:Int),uq lines]):=λop=>H1.zk (k:=0) (n:=2) rfl rfl;rw [zA,zA,zf.zx,sFx,H1.load (k:=0) (i:=0+1) rfl rfl,yA,qx,Zab (by omega),zB,zf.v9,zD,zG,zA,zf.qg,lN];refine zjr hn1 (by omega) hl (λl hlm=>by have:=hll l hlm;omega) hr _ _ _ _ ?_;rintro _ ⟨R1,p,hR1,rfl⟩ _;obtain rfl:=qbq hR1;have con:∀ {b:List Rat},b∈Bs->∀ {B},Pure Tryz.prog B 44 [.agg [I (n:Int),uq lines],uX b] (· = T9 (fq b l0 l0.length)):=λ{b} hb {B}=>by
  obtain ⟨t,t1,t2,t3⟩:=hszd b hb;exact zt9 hx0 (by omega) (hbl b hb) (hr _ hm0) w0 t1 (Zay t2 (by decide)) λj=>(t3 j).mono (by decide)
 have sum:∀ {b:List Rat},b∈Bs->∀ {B},Pure Tryz.prog B 202 [uX b] (· = T9 (rR b b.length)):=λ{b} hb {B}=>by
  obtain ⟨t,t1,t2,t3⟩:=hszd b hb;exact zyo (by rw [hbl b hb];exact hn) t1 t2 t3
 have dn:∀ {b:List Rat},b∈Bs->∃ t,1<=t/\t<=37696/\Dn t 37696 (rR b b.length)/\Dn t 37696 (fq b l0 l0.length):=λ{b} hb=>by
  obtain ⟨t,t1,t2,t3⟩:=hszd b hb;have a1:b.length*ZB<=16*ZB:=Zax _ (by rw [hbl b hb];exact hn);have a2:l0.length*ZB<=16*ZB:=Zax _ w0;exact ⟨t,t1,by omega,(zju t3 _ (Zaf _)).mono (by omega),(zfb t3 _).mono (by omega)⟩
 have qd:∀ {t:Nat} {q:Rat},1<=t->t<=37696->Dn t 37696 q->Qd q:=λh1 h2 h3=>h3.qd h1 h2 (Zaf _);unfold j6;rw [zA,zf.fU,zA,zA,zf.fE,zJ];refine zf.zzl (λm x5 x6 h' nx'=>∃ i:Nat,x6=I (i:Int)/\m+i=Bs.length/\h'=h1/\nx'=nx1/\((x5=.str []/\∀ b∈Bs.take i,fq b l0 l0.length=0)\/∃ b∈Bs,fq b l0 l0.length≠0/\x5=T9 (rR b b.length / fq b l0 l0.length))) (m:=Bs.length) (by omega) ⟨0,rfl,rfl,rfl,rfl,.inl ⟨rfl,by simp⟩⟩ ?_;rintro m z5 z6 z7 z10 z11 h3 nx3 R ⟨i,rfl,hm,rfl,rfl,hv⟩ hR;rw [zf.t21,zA,zA,zf.rF,yA,jq,zB,zf.v10];by_cases ci:i<Bs.length
 .have hb:=zY (l:=Bs) (d:=[]) ci;have hbg:=jZ (l:=Bs) (d:=[]) ci;have hx:(Bs.map uX)[i]? = some (uX (Bs.getD i [])):=by rw [List.getElem?_map,hbg];rfl
  rw [Zac (by omega),zC,zG,zA,zJ,zA,zf.ni,lN,fO (i:=i) rfl ci,ldL hx];refine con hb _ _ _ _ ?_;rintro _ rfl _;rw [zA,zf.rM];refine d8 _ _ _ _ ?_;rintro _ rfl _;rw [yT];by_cases c0:fq (Bs.getD i []) l0 l0.length=0
  .rw [Zac c0,Zap];simp only [jF];rw [zZ,zB,zf.v11,zD,zG,zf.rX,um (by omega)];refine hR (m-1) _ _ _ _ _ _ _ (by omega) ⟨i+1,by congr 1,by omega,rfl,rfl,?_⟩;rcases hv with ⟨e,hv⟩ | hv
   .refine .inl ⟨e,λb hbm => ?_⟩;rw [Zar,hbg,Zbn,Zaw,Zat] at hbm;rcases hbm with hbm | rfl
    .exact hv b hbm
    .exact c0
   .exact .inr hv
  .rw [Zab c0,Zal];simp only [yL];rcases hv with ⟨rfl,hv⟩ | ⟨b1,hb1,hb2,rfl⟩
   .obtain ⟨t,t1,t2,t3,t4⟩:=dn hb;rw [zdh,Zac rfl,zW,zB,zf.v11,zC,zf.fT,fO (i:=i) rfl ci,ldL hx];refine sum hb _ _ _ _ ?_;rintro _ rfl _;refine zsa (qd t1 t2 t3) (qd t1 t2 t4) c0 _ _ _ _ ?_;rintro _ rfl _;rw [zf.rX,um (by omega)];exact hR (m-1) _ _ _ _ _ _ _ (by omega) ⟨i+1,by congr 1,by omega,rfl,rfl,.inr ⟨_,hb,c0,rfl⟩⟩
   .rw [zdh,Zab (zh7 _),zW,zB,zf.v11,zD,zG,zf.rX,um (by omega)];exact hR (m-1) _ _ _ _ _ _ _ (by omega) ⟨i+1,by congr 1,by omega,rfl,rfl,.inr ⟨b1,hb1,hb2,rfl⟩⟩
 rw [Zam (by omega)] at hv;rw [Zab (by omega),zD,zV,yC,zA,zA,zf.zaf];have no:∀ {v:AV},v=.tup [.str [],.bool false]->((∀ r:Rat,r≠0->(∀ b∈Bs,rR b b.length=r*fq b l0 l0.length)->(∃ b∈Bs,fq b l0 l0.length≠0)->False))->K v h3 nx3=.ok True:=λe hn=>by
  subst e;exact hK _ _ _ _ _ H1 (jP (zR rfl) (zR rfl)) (.inl ⟨rfl,hn⟩)
 rcases hv with ⟨rfl,hv⟩ | ⟨b1,hb1,hb2,rfl⟩
 .rw [zdh,Zac rfl];simp only [jM,zlv];rw [zW,zB,zf.v12,zC,zA,zf.zjy];simp only [zE,zM];rw [zf.ret];exact no rfl λr _ _ ⟨b,hb,hb0⟩=>hb0 (hv b hb)
 obtain ⟨ra,hra⟩:∃ ra,ra=rR b1 b1.length / fq b1 l0 l0.length:=⟨_,rfl⟩;rw [<- hra];have isr:∀ r:Rat,(∀ b∈Bs,rR b b.length=r*fq b l0 l0.length)->ra=r:=λr hr=>by
  rw [hra,hr b1 hb1,Zfc];grind
 have nm:jk 37696 ra:=by
  obtain ⟨t,t1,t2,t3,t4⟩:=dn hb1;obtain ⟨sr,sr1,srN,_,dmul⟩:=zjl t1 hb2 t4;rw [hra,Zfc];exact (dmul t3).nm sr1 srN
 rw [zdh,Zab (zh7 _)];simp only [y4,zr8];refine d8 _ _ _ _ ?_;rintro _ rfl _;rw [zZ,zB,zf.v12];by_cases r0:ra=0
 .rw [Zac r0,zC,zA,zf.zjy];simp only [zE,zM];rw [zf.ret];exact no rfl λr hr0 hall _=>hr0 ((isr r hall).symm.trans r0)
 rw [Zab r0,zD,zG,zA,zA,zf.zj2,zJ];refine zf.zzm (λm x8 h' nx'=>∃ i:Nat,x8=I (i:Int)/\m+i=Bs.length/\h'=h3/\nx'=nx3/\∀ b∈Bs.take i,rR b b.length=ra*fq b l0 l0.length) (m:=Bs.length) (by omega) ⟨0,rfl,rfl,rfl,rfl,by simp⟩ ?_;rintro m2 w2 w3 w8 w13 w14 h4 nx4 R2 ⟨i2,rfl,hm2,rfl,rfl,hal⟩ hR2;rw [zf.t42,zA,zA,zf.znt,yA,jq,zB,zf.v13];by_cases ci:i2<Bs.length
 .have hb:=zY (l:=Bs) (d:=[]) ci;have hbg:=jZ (l:=Bs) (d:=[]) ci;have hx:(Bs.map uX)[i2]? = some (uX (Bs.getD i2 [])):=by rw [List.getElem?_map,hbg];rfl
  have ix:∀ op:AV->OP,zL 1 (.lst 1 Bs.length (Bs.map uX)) (I (i2:Int)) op=op (.fp ((Bs.map uX).drop (i2*1))):=λop=>fO rfl ci;have ld:∀ (hh:Ev.T Blk) (op:AV->OP),zI (.fp ((Bs.map uX).drop (i2*1))) hh op=op (uX (Bs.getD i2 [])):=λhh op=>ldL hx;obtain ⟨t,t1,t2,t3,t4⟩:=dn hb;rw [Zac (by omega),zC,zG,zA,zJ,zA,zf.zfj];simp only [ix,ld,lN];refine sum hb _ _ _ _ ?_;rintro _ rfl _;simp only [ix,ld,lN,zH];refine con hb _ _ _ _ ?_;rintro _ rfl _;refine zew (nm.qd (by decide)) (qd t1 t2 t4) _ _ _ _ ?_;rintro _ rfl _;rw [zyc,zB,zf.v14];by_cases e:rR (Bs.getD i2 []) (Bs.getD i2 []).length=ra*fq (Bs.getD i2 []) l0 l0.length
  .rw [Zac (by rw [e]),Zap,zD,zG,zf.zno,um (by omega)];refine hR2 (m2-1) _ _ _ _ _ _ _ (by omega) ⟨i2+1,by congr 1,by omega,rfl,rfl,λb hbm => ?_⟩;rw [Zar,hbg,Zbn,Zaw,Zat] at hbm;rcases hbm with hbm | rfl
   .exact hal b hbm
   .exact e
  .rw [Zab (λq=>e (zq5 q)),Zal,zC,zA,zf.zfr];simp only [zE,vN,zM];rw [zf.ret];exact no rfl λr _ hall _=>e (by rw [isr r hall];exact hall _ hb)
 .rw [Zam (by omega)] at hal;rw [Zab (by omega),zD,zV,yC,zA,zf.zni];simp only [zE,zM];rw [zf.ret];exact hK _ _ _ _ _ H1 (jP (zR rfl) (zR rfl)) (.inr ⟨ra,r0,nm,⟨b1,hb1,hb2⟩,hal,rfl⟩)
structure zwh (l f:List Int):Prop where
 len:l.length<=1000
 rng:∀ c∈l,0<=c/\c<(f.length:Int)
 bd:∀ x∈f, -1000000000<=x/\x<=1000000000
theorem zwh.get {l f:List Int} (h:zwh l f) {c:Int} (hc:c∈l):f[c.toNat]? = some (f.getD c.toNat 0) /\ -1000000000<=f.getD c.toNat 0/\f.getD c.toNat 0<=1000000000:=by
 have:=h.rng c hc;have hx:f[c.toNat]? = some (f.getD c.toNat 0):=by rw [Zaa,List.getElem?_eq_getElem (by omega)];rfl
 exact ⟨hx,h.bd _ (Zad hx)⟩
section
variable {cells:Int} {lines:List (List Int)} {f:List Int}
end
end Go.Ev
namespace Go.Ev
open Go Go.Proofs
variable {B:Nat}
set_option maxRecDepth 100000
theorem znb (z:Int):ku (z:Rat)=vk z:=by
 unfold ku;rw [Zel,Zfg,if_pos rfl,Zbi]
theorem znc {x:Int} (hx : -1000000000<=x/\x<=1000000000):Pure Tryz.prog B 42 [I x] (· = T9 (x:Rat)):=by
 refine zT λh nx K H0 hK=>zN zP yD 100 λhf => ?_;rw [F42.go,F42.t3,zA,F42.zy,zA,F42.zx];refine zg6 (by omega) _ _ _ _ ?_;rintro _ rfl _;refine zep (k:=3) (by decide) (by unfold Z9;omega) _ _ _ _ ?_;rintro _ rfl _;simp only [zE,zM];rw [F42.ret,<- znb];exact hK _ _ _ _ _ H0 (zR rfl) rfl
theorem zjv {n:Nat} {lines:List (List Int)} {Q:List (List Rat)} {ps:List Nat} (hto:∀ {B:Nat} {q:Rat},Qd q->Pure Tryz.prog B 125 [T9 q] (· = if q.den=1 then .tup [I q.num,.bool true] else .tup [I 0,.bool false])) (hn1:1<=n) (hn:n<=16) (hl0:lines≠[]) (hl:lines.length<=12) (hll:∀ l∈lines,l.length<=16) (hr:∀ l∈lines,∀ c∈l,0<=c/\c<(n:Int)) (hred:cX n lines Q ps):Pure Tryz.prog B 34 [.agg [I (n:Int),uq lines]] (λv=>∃ x e:Int,v=.tup [I x,I e]/\CstF n (lines.getD 0 []) (aO n Q ps) x e):=by
 refine zT λh nx K H0 hK=>zN zP yD 1000 λhf => ?_;rw [F34.go,F34.t21,zA,F34.zy];refine H0.box (l:=[I (n:Int),uq lines]) rfl λbx h1 nx1 H1 => ?_;have ret:∀ {x e:Int},CstF n (lines.getD 0 []) (aO n Q ps) x e->K (.tup [I x,I e]) h1 nx1=.ok True:=λhc=>hK _ _ _ _ _ H1 (jP (zR rfl) (zR rfl)) ⟨_,_,rfl,hc⟩;rw [zA,F34.zx,H1.zk (k:=0) (n:=2) rfl rfl];refine zna hn1 hn hl0 hl hll hr hred _ _ _ _ ?_;rintro v hv _;rcases hv with ⟨rfl,hno⟩ | ⟨r,r0,nm,hex,hal,rfl⟩
 .rw [jB,jC,zA,zA,F34.jb,yT,Zal,zB,F34.v9,zC,zA,F34.dw];simp only [zE,zM];rw [F34.ret];exact ret (.inl ⟨rfl,rfl,hno⟩)
 have hnn:n*(n+1)<=16*17:=Zbk hn (by omega);have a1:∀ K:AV->OP,ze .add .int (I (n:Int)) (I 1) K=K (I ((n+1:Nat):Int)):=λK=>by rw [um (by omega)];simp
 have m1:∀ K:AV->OP,ze .mul .int (I (n:Int)) (I ((n+1:Nat):Int)) K=K (I ((n*(n+1):Nat):Int)):=λK=>by
  have e:(n:Int)*((n+1:Nat):Int)=((n*(n+1):Nat):Int):=by simp
  rw [rC (by rw [e];omega),e]
 have q1:∀ K:AV->OP,ze .quo .int (I ((n*(n+1):Nat):Int)) (I 2) K=K (I ((n*(n+1) / 2:Nat):Int)):=λK=>zwf (by omega);obtain ⟨X,hXe⟩:∃ X:Nat,X=n*(n+1) / 2:=⟨_,rfl⟩;have hX:X<=136:=by omega
 have l0:∀ op:AV->OP,zI (.ptr bx (0+0)) h1 op=op (I (n:Int)):=λop=>H1.load (k:=0) (i:=0+0) rfl rfl;rw [jB,jC,zA,zA,F34.jb,yT,Zap,zB,F34.v9,zD,zG,zA,F34.fU];simp only [sFx,l0,a1,m1,q1];rw [<- hXe];refine znc (by omega) _ _ _ _ ?_;rintro _ rfl _;have nX:jk 136 (((X:Nat):Int):Rat):=⟨by rw [Zel];omega,by rw [Zfg];decide⟩;refine zsa (nX.qd (by decide)) (nm.qd (by decide)) r0 _ _ _ _ ?_;rintro _ rfl _;have nq:jk (136*37696) ((((X:Nat):Int):Rat) / r):=by rw [Zfc];exact mO nX nm.inv
 rw [zA,F34.fE];refine hto (nq.qd (by decide)) _ _ _ _ ?_;rintro _ rfl _;by_cases hd:((((X:Nat):Int):Rat) / r).den=1
 .rw [if_pos hd,jB,jC,zA,zA,F34.rF,yT,Zap,zB,F34.v10,zD,zG,zA,F34.fT];simp only [zE,zM];rw [F34.ret];exact ret (.inr ⟨r,r0,hex,hal,.inl ⟨hXe ▸ hd,by rw [hXe],rfl⟩⟩)
 .rw [if_neg hd,jB,jC,zA,zA,F34.rF,yT,Zal,zB,F34.v10,zC,zA,F34.sV];simp only [zE,zM];rw [F34.ret];exact ret (.inr ⟨r,r0,hex,hal,.inr ⟨hXe ▸ hd,rfl,rfl⟩⟩)
theorem CstF.uniq {n:Nat} {l0:List Int} {Bs:List (List Rat)} {x e x' e':Int} (h:CstF n l0 Bs x e) (h':CstF n l0 Bs x' e'):x=x'/\e=e':=by
 rcases h with ⟨rfl,rfl,hn⟩ | ⟨r,r0,⟨b,hb,hb0⟩,hal,h⟩ <;> rcases h' with ⟨rfl,rfl,hn'⟩ | ⟨r',r0',hex',hal',h'⟩
 .exact ⟨rfl,rfl⟩
 .exact (hn r' r0' hal' hex').elim
 .exact (hn' r r0 hal ⟨b,hb,hb0⟩).elim
 .have e0:r=r':=by
   have:=(hal b hb).symm.trans (hal' b hb);have e1:(r-r')*fq b l0 l0.length=0:=by grind
   rcases Rat.mul_eq_zero.1 e1 with q | q
   .grind
   .exact absurd q hb0
  subst e0;rcases h with ⟨a1,a2,a3⟩ | ⟨a1,a2,a3⟩ <;> rcases h' with ⟨b1,b2,b3⟩ | ⟨b1,b2,b3⟩
  .exact ⟨by rw [a2,b2],by rw [a3,b3]⟩
  .exact absurd a1 b1
  .exact absurd b1 a1
  .exact ⟨by rw [a2,b2],by rw [a3,b3]⟩
theorem zcj {cells:Int} {lines:List (List Int)} (hw:∀ q∈lines,q.length<=1000000) (he:jW cells lines≠0):Pure Tryz.prog B 33 [.agg [I cells,uq lines]] (· = .tup [I 0,I (jW cells lines)]):=by
 refine zT λh nx K H0 hK=>zN zP yD 1000 λhf => ?_;rw [F33.go,F33.t91,zA,F33.zy];refine H0.box (l:=[I cells,uq lines]) rfl λb1 h1 nx1 H1 => ?_;rw [zA,zA,F33.zx,H1.zk (k:=0) (n:=2) rfl rfl];refine zv8 hw _ _ _ _ ?_;rintro _ rfl _;rw [zA,F33.jb,fV,Zab he,Zal,zB,F33.v15,zC,zA,F33.dw];simp only [zE,zM];rw [F33.ret];exact hK _ _ _ _ _ H1 (jP (zR rfl) (.int _ _)) rfl
theorem zck {cells:Int}:Pure Tryz.prog B 34 [.agg [I cells,uq []]] (· = .tup [I 0,I 7]):=by
 have fac:∀ {B},Pure Tryz.prog B 123 [.agg [I cells,uq []]] (· = .tup [.str [],.bool false]):=λ{B}=>by
  refine zT λh nx K H0 hK=>zN zP yD 1000 λhf => ?_;rw [zf.go,zf.t54,zA,zf.zy];refine H0.box (l:=[I cells,uq []]) rfl λbx h1 nx1 H1 => ?_;rw [zA,zA,zf.zx,sFx,H1.load (k:=0) (i:=0+1) rfl rfl,yA,qx,Zac (by rfl),zB,zf.v9,zC,zA,zf.jb];simp only [zE,zM];rw [zf.ret];exact hK _ _ _ _ _ H1 (jP (zR rfl) (zR rfl)) rfl
 refine zT λh nx K H0 hK=>zN zP yD 1000 λhf => ?_;rw [F34.go,F34.t21,zA,F34.zy];refine H0.box (l:=[I cells,uq []]) rfl λbx h1 nx1 H1 => ?_;rw [zA,F34.zx,H1.zk (k:=0) (n:=2) rfl rfl];refine fac _ _ _ _ ?_;rintro _ rfl _;rw [jB,jC,zA,zA,F34.jb,yT,Zal,zB,F34.v9,zC,zA,F34.dw];simp only [zE,zM];rw [F34.ret];exact hK _ _ _ _ _ H1 (jP (zR rfl) (zR rfl)) rfl
theorem law6 {cells:Int} {lines:List (List Int)} (hto:∀ {B:Nat} {q:Rat},Qd q->Pure Tryz.prog B 125 [T9 q] (· = if q.den=1 then .tup [I q.num,.bool true] else .tup [I 0,.bool false])) (haw:∀ {B},Pure Tryz.prog B 17 [] (· = .bool true)):Pure Tryz.prog B 6 [.agg [I cells,uq lines]] (· = .bool true):=by
 refine zT λh nx K H0 hK=>zN zP yD 2000 λhf => ?_;have awk:∀ (h:Ev.T Blk) (nx:Pa) (Z:Kw Prop),Z (.bool true) h nx=.ok True->(CS Tryz.prog B).fn 17 (.of 17) [] h nx Z=.ok True:=λh nx Z hZ=>haw _ _ _ _ λv hv _=>by rw [hv];exact hZ
 have ret:∀ {h1 nx1 L},Hp h h1 nx1 L->K (.bool true) h1 nx1=.ok True:=λH=>hK _ _ _ _ _ H (zR rfl) rfl;rw [F6.go,F6.t18,zA,F6.zy];refine H0.box (l:=[I cells,uq lines]) rfl λbx h1 nx1 H1 => ?_;have lN:∀ op:AV->OP,zF 2 (.ptr bx 0) h1 op=op (.agg [I cells,uq lines]):=λop=>H1.zk (k:=0) (n:=2) rfl rfl;rw [zA,zA,F6.zx,lN];refine zuh _ _ _ _ ?_;rintro _ rfl _;rw [yT,zB,F6.v7];cases cL:cB cells lines with
 | false =>
  rw [Zal,zC,zA,F6.jb];refine awk _ _ _ ?_;simp only [zE,zM];rw [F6.ret];exact ret H1
 | true =>
 simp only [cB,Zak,Zdi,decide_eq_true_eq,Bool.not_eq_true',decide_eq_false_iff_not] at cL;obtain ⟨⟨_,hw40⟩,hL⟩:=cL;have hw:∀ q∈lines,q.length<=1000000:=λq hq=>by have:=hw40 q hq;omega
 rw [Zap,zD,zG,zA,F6.qg,lN];have fin:∀ {x e:Int} {y7 y8:AV},IR.run F6.t13 (CS Tryz.prog B) 2000 (fnO F6.res K) (zo F6.res K) (F6.fr (.agg [I cells,uq lines]) (.ptr bx 0) (.bool false) (I x) (I e) (I x) (I e) y7 y8) h1 nx1=.ok True:=by
  intro x e y7 y8;rw [F6.t13,zA,F6.ni,F6.r7_0,F6.zwp,qx,Zac rfl];simp only [yL];rw [qx,Zac rfl,zW,F6.r7_1,F6.zwq];simp only [zeu];refine awk _ _ _ ?_;rw [F6.r7_2,F6.zwr,zW];simp only [zE,zM];rw [F6.ret];exact ret H1
 by_cases he:jW cells lines=0
 case neg =>
  refine zcj hw he _ _ _ _ ?_;rintro _ rfl _;rw [jB,jC,zA,F6.fU,lN];refine mD hw _ _ _ _ ?_;rintro _ rfl _;rw [zA,zA,F6.fE,qx,Zab he,zB,F6.v8,zD,zG];exact fin
 have cF:fewB 16 12 cells lines=true:=hL.resolve_left λq=>q he;simp only [fewB,Zak,decide_eq_true_eq] at cF;obtain ⟨⟨hl,hll⟩,_,hc16⟩:=cF;have hl:lines.length<=12:=by omega
 have hll:∀ l∈lines,l.length<=16:=λl hm=>by have:=hll l hm;omega
 obtain ⟨n,rfl,hn1,_,_,hasc⟩:=zrl he;have hn:n<=16:=by omega
 have hr:∀ l∈lines,∀ c∈l,0<=c/\c<(n:Int):=λl hlm=>(hasc l hlm).2.2;refine zjt hn hl hll he _ _ _ _ ?_;rintro _ ⟨x,e,rfl,hnil,hcs⟩ _;rw [jB,jC,zA,F6.fU,lN];refine mD hw _ _ _ _ ?_;rintro _ rfl _;rw [zA,zA,F6.fE,he,qx,Zac rfl,zB,F6.v8,zC,F6.rF,lN];by_cases hne:lines=[]
 .obtain ⟨rfl,rfl⟩:=hnil hne;subst hne;refine zck _ _ _ _ ?_;rintro _ rfl _;rw [jB,jC];exact fin
 .obtain ⟨Q,ps,hred,hc⟩:=hcs hne;refine zjv hto hn1 hn hne hl hll hr hred _ _ _ _ ?_;rintro _ ⟨x',e',rfl,hc'⟩ _;obtain ⟨rfl,rfl⟩:=hc.uniq hc';rw [jB,jC];exact fin
theorem zjw {q:Rat} (hq:Qd q):Pure Tryz.prog B 204 [.str (ku q)] (· = .bool (decide (q.den=1))):=by
 refine zT λh nx K H0 hK=>zN zP yD 100 λhf => ?_;have i1:=kG (z:=q.num) (k:=1) (by unfold Z9;have:=hq.1;omega);have i2:=kG (z:=(q.den:Int)) (k:=1) (by unfold Z9;have:=hq.2;omega);rw [fZ.go,fZ.t3,zA,fZ.zy,zA,fZ.zx];by_cases d:q.den=1
 .have e:ku q=vk q.num:=by rw [ku,if_pos d,Zbi]
  rw [e];refine vT (j:=(vk q.num).length) (by omega) (Zaf _) (λi c _ hc=>qR (Zad hc)) (.inl rfl) _ _ _ _ ?_;rintro _ rfl _;rw [tT,qx,Zac rfl];simp only [zE,zM];rw [fZ.ret];exact hK _ _ _ _ _ H0 (.bool _) (by rw [Zac d])
 .have e:ku q=vk q.num++47::vk (q.den:Int):=by rw [ku,if_neg d]
  have hlen:(ku q).length=(vk q.num).length+(vk (q.den:Int)).length+1:=by rw [e,Zae,Zbd];omega
  rw [e] at hlen ⊢
  refine vT (j:=(vk q.num).length) (by omega) (by omega) (λi c hi hc=>by
   rw [List.getElem?_append_left hi] at hc;exact qR (Zad hc)) (.inr (by rw [List.getElem?_append_right (Zaf _),Zcd];rfl)) _ _ _ _ ?_
  rintro _ rfl _;rw [tT,qx,Zab (by omega)];simp only [zE,zM];rw [fZ.ret];exact hK _ _ _ _ _ H0 (.bool _) (by rw [Zab d])
theorem zp8 {q:Rat} (hq:Qd q):Pure Tryz.prog B 125 [T9 q] (· = if q.den=1 then .tup [I q.num,.bool true] else .tup [I 0,.bool false]):=by
 refine zT λh nx K H0 hK=>zN zP yD 100 λhf => ?_;have hz:=hq.1;have i1:=kG (z:=q.num) (k:=1) (by unfold Z9;omega);rw [zm.go,zm.t39,zA,zm.zy,zA,zA,zm.zx];refine zjw hq _ _ _ _ ?_;rintro _ rfl _;rw [yT];by_cases d:q.den=1
 case neg =>
  rw [Zab d,Zal];simp only [jM];rw [zW,zB,zm.v7,zC,zA,zm.jb];simp only [zE,zM];rw [zm.ret];exact hK _ _ _ _ _ H0 (jP (zR rfl) (zR rfl)) (by rw [if_neg d])
 have e:ku q=vk q.num:=by rw [ku,if_pos d,Zbi]
 obtain ⟨z,hze⟩:∃ z,z=q.num:=⟨_,rfl⟩;have eT:T9 q=.str (vk z):=by rw [T9,e,hze]
 rw [eT,Zac d,Zap,if_pos d] at *
 rw [<- hze] at hz i1 hK;simp only [y4];rw [tT,dm,Zab (by omega),zZ,zB,zm.v7,zD,zG,zA,zm.qg];refine zes (k:=1) (by decide) (by unfold Z9;omega) _ _ _ _ ?_;rintro _ rfl _;refine H0.alloc λp h1 nx1 H1 => ?_;refine H1.yx (l2:=[.bool (decide (z<0)),ve (dg 1000000000 z.natAbs)]) (k:=0) rfl rfl rfl λh2 H2 => ?_;have l1:∀ op:AV->OP,zI (.ptr p (0+1)) h2 op=op (ve (dg 1000000000 z.natAbs)):=λop=>H2.load (k:=0) (i:=0+1) rfl rfl;have l0:∀ op:AV->OP,zI (.ptr p (0+0)) h2 op=op (.bool (decide (z<0))):=λop=>H2.load (k:=0) (i:=0+0) rfl rfl;rw [zA,zm.fU,zA,zA,zm.fE,sFx,l1];have out:∀ {nx2:Pa} {x5 x6 x8 x9 x10 y1 y2:AV},Hp h h2 nx2 [.arr p [.bool (decide (z<0)),ve (dg 1000000000 z.natAbs)]]->IR.run .ret (CS Tryz.prog B) 100 (fnO zm.res K) (zo zm.res K) (zm.fr (.str (vk z)) (I z) (.bool true) y1 (I z) x5 x6 y2 x8 x9 x10) h2 nx2=.ok True:=λH=>by
  simp only [zE,zM];rw [zm.ret];exact hK _ _ _ _ _ H (jP (zR rfl) (zR rfl)) rfl
 by_cases z0:z=0
 .subst z0;have hd:dg 1000000000 (0:Int).natAbs=[]:=j8 ..;rw [hd,dLen,dz (by decide),zJ];refine zm.zux (λm x4 x5 h' nx'=>x4=I 0/\x5=I (-1)/\h'=h2/\nx'=nx1) (m:=0) (by omega) ⟨rfl,rfl,rfl,rfl⟩ ?_;rintro m z1 z2 z4 z5 z6 z8 z9 z10 h3 nx3 R ⟨rfl,rfl,rfl,rfl⟩ hR;rw [zm.t29,zA,zA,zm.rF,fI,Zab (by decide),zB,zm.v8,zD,zV,yC,zm.t34,zA,zm.zft];exact out H2
 .have hn9:z.natAbs<1000000000:=hz;have hd:dg 1000000000 z.natAbs=[z.natAbs]:=by rw [kJ (by decide) (by omega),Zcg hn9,Zej hn9,j8]
  rw [hd] at l1 H2 out;rw [hd,dLen,show (([z.natAbs].length:Nat):Int)=1 from rfl,dz (by decide),zJ];have go:∀ {O:fQ Prop} {K':Ks Prop} {y1 y2 y8 y9 y10:AV},IR.run zm.t23 (CS Tryz.prog B) 100 O K' (zm.fr (.str (vk z)) y1 y2 (.ptr p 0) (I 0) (I 0) (I z) (.bool false) y8 y9 y10) h2 nx1=K' (zm.fr (.str (vk z)) y1 y2 (.ptr p 0) (I z) (I 0) (I z) (.bool false) y8 y9 (.bool false)) h2 nx1:=by
   intro O K' y1 y2 y8 y9 y10;rw [zm.t23,zA,zA,zm.sW,zm.zn1,zm.zsd,dm,Zab (by decide)];simp only [y4];rw [jq,Zab (by decide),zZ];simp only [y4];rw [zm.zvh,zm.zse];simp only [y4];rw [qx,Zab (by decide)];simp only [y4,jF,zZ];rw [zm.zvg,zm.zsf];simp only [y4];rw [qx,Zab (by decide)];simp only [y4,jF,zZ];rw [zB,zm.v10,zD,zG,zm.aQ,rC (by decide),um (by omega)];simp
  refine zm.zux (λm x4 x5 h' nx'=>(m=1/\x4=I 0/\x5=I 0\/m=0/\x4=I z/\x5=I (-1))/\h'=h2/\nx'=nx1) (m:=1) (by omega) ⟨.inl ⟨rfl,rfl,rfl⟩,rfl,rfl⟩ ?_;rintro m z1 z2 z4 z5 z6 z8 z9 z10 h3 nx3 R ⟨hc,rfl,rfl⟩ hR;rcases hc with ⟨rfl,rfl,rfl⟩ | ⟨rfl,rfl,rfl⟩
  .have nxt:∀ {y1 y2 y8 y9 y10:AV},IR.run zm.t27 (CS Tryz.prog B) 100 ((fnO zm.res K).blk 0 (IR.run zm.t34 (CS Tryz.prog B) 100 (fnO zm.res K) (zo zm.res K))) R (zm.fr (.str (vk z)) y1 y2 (.ptr p 0) (I z) (I 0) (I z) (.bool false) y8 y9 y10) h3 nx3=.ok True:=by
    intro y1 y2 y8 y9 y10;rw [zm.zjx,dz (by decide)];exact hR 0 _ _ _ _ _ _ _ _ _ _ (by omega) ⟨.inr ⟨rfl,rfl,rfl⟩,rfl,rfl⟩
   rw [zm.t29,zA,zA,zm.rF,fI,Zac (by decide),zB,zm.v8,zC,zG,zA,zJ,zA,zm.ni,sFx,l1,dIx (i:=0) (j:=0) rfl (by simp),dLd (x:=z.natAbs) rfl,zA,zA,zm.rM,sFx,l0,zB,zm.v9];by_cases s:z<0
   .rw [Zac s,zC,zm.fT,dz (by omega),show (0:Int)-(z.natAbs:Int)=z by omega,go];exact nxt
   .rw [Zab s,zD,zG,show D z.natAbs=I z by show I _=I _;rw [show (z.natAbs:Int)=z by omega],go];exact nxt
  .rw [zm.t29,zA,zA,zm.rF,fI,Zab (by decide),zB,zm.v8,zD,zV,yC,zm.t34,zA,zm.zft];exact out H2
end Go.Ev
