import Derived.Test.YtlfhlkknakiafaaGreatDoorWordsa
import Derived.Test.YtlfhlkknakiafaaGreatDoorEvD
import Derived.Test.YtlfhlkknakiafaaGreatDoorCodea
import GoSem.Core.Next
import Derived.Test.YtlfhlkknakiafaaGreatDoorCodeb
import Derived.IntWalk
set_option linter.unusedSimpArgs false
set_option linter.unusedVariables false
namespace Go.Ev
open Go Go.Proofs
variable {B:Nat}
set_option maxRecDepth 100000
theorem xL {l c:List AV} {off:Nat} (h:off+c.length<=l.length):(gL l off c).length=l.length:=by
 unfold gL;rw [Zan,Zan,Zau,Zdk];omega
theorem dZ {l c:List AV} {off m:Nat} (h:off+c.length<=l.length):(gL l off c)[m]? = if off<=m/\m<off+c.length then c[m-off]? else l[m]? := by
 unfold gL;have ht:(l.take off).length=off:=by rw [Zau];omega
 by_cases h1:m<off
 ·rw [if_neg (by omega),Zbk,List.getElem?_append_left (by omega),List.getElem?_take_of_lt h1]
 ·by_cases h2:m<off+c.length
  ·rw [if_pos (by omega),Zbk,List.getElem?_append_right (by omega),ht,List.getElem?_append_left (by omega)]
  ·rw [if_neg (by omega),Zbk,List.getElem?_append_right (by omega),ht,List.getElem?_append_right (by omega),List.getElem?_drop]
   congr 1;omega
theorem Hp.sW {h0 h:T Blk} {nx:Pa} {L:List Ob} {k n off:Nat} {id:Pa} {l l2:List AV} {K:Kw Prop} (H:Hp h0 h nx L) (hk:L[k]? = some (.arr id l)) (hle:off+n<=l.length) (hl2:l2.length=n) (hK:∀ h',Hp h0 h' nx (L.set k (.arr id (gL l off l2)))->K .u h' nx=.ok True):zO n (.ptr id off) (.agg l2) h nx K=.ok True:=by
 obtain ⟨o,t,h1,h2⟩:=H.own _ (Zad hk);show ku (T.get .no id h) _ _=_;rw [h1];show (bif Nat.beq l2.length n&&Nat.ble (off+n) l.length then gZ l2 t off (fun t'=>T.dh Blk.no (.cells o l.length t') id h fun h'=>K .u h' nx) else .no 42)=_;rw [aZ hl2,Zag hle];simp only [Zfz,cond_true];rw [jF,T.jg];refine hK _ (H.upd hk (by simp [Ob.names]) rfl ⟨o,_,by rw [T.get_set_same,xL (by omega)],?_⟩);rw [xL (by omega)];apply Zck;intro i;rw [dZ (by omega)];by_cases hi:i<l.length
 ·rw [yK _ _ _ _ hi,Zbh,uK];have hr:=yK t 0 l.length i hi;rw [h2,Zbh] at hr;by_cases hc:off<=i/\i<off+l2.length
  ·rw [if_pos hc,if_pos hc,Zaa,List.getElem?_eq_getElem (by omega)];rfl
  ·rw [if_neg hc,if_neg hc];exact hr.symm
 ·rw [List.getElem?_eq_none (by simp;omega),if_neg (by omega),List.getElem?_eq_none (by omega)]
def aF (c:List AV) (j:Nat) (x:Rat):Prop:=∃ s w s' w',(c.drop (j*4)).take 4=[s,w,s',w']/\fK s w x.num/\fK s' w' (x.den:Int)
def rZ (c:List AV) (q:List Rat):Prop:=c.length=q.length*4/\∀ j x,q[j]? = some x->aF c j x
theorem zx6 {c d:List AV} {i j:Nat} (h:∀ t,t<4->c[i+t]? = d[j+t]?):(c.drop i).take 4=(d.drop j).take 4:=by
 apply Zck;intro t;by_cases ht:t<4
 ·rw [List.getElem?_take_of_lt ht,List.getElem?_take_of_lt ht,List.getElem?_drop,List.getElem?_drop];exact h t ht
 ·rw [List.getElem?_eq_none (by rw [Zau];omega),List.getElem?_eq_none (by rw [Zau];omega)]
theorem aF.same {c:List AV} {j:Nat} {x:Rat} {s w s' w':AV} (hj:j*4+4<=c.length) (h1:fK s w x.num) (h2:fK s' w' (x.den:Int)):aF (gL c (j*4) [s,w,s',w']) j x:=by
 refine ⟨s,w,s',w',?_,h1,h2⟩;have:[s,w,s',w']=(([s,w,s',w']:List AV).drop 0).take 4:=rfl;rw [this];refine zx6 fun t ht => ?_;rw [dZ (by simpa using hj),if_pos ⟨by omega,by simp;omega⟩];simp
theorem aF.other {c:List AV} {i j:Nat} {x:Rat} {s w s' w':AV} (hj:j*4+4<=c.length) (hij:i≠j) (h:aF c i x):aF (gL c (j*4) [s,w,s',w']) i x:=by
 obtain ⟨a,b,a',b',e,h1,h2⟩:=h;refine ⟨a,b,a',b',?_,h1,h2⟩;rw [<- e];refine zx6 fun t ht => ?_;rw [dZ (by simpa using hj),if_neg];simp only [Zbx,List.length_nil];omega
theorem rZ.put {c:List AV} {q:List Rat} {j:Nat} {x:Rat} {s w s' w':AV} (h:rZ c q) (hj:j<q.length) (h1:fK s w x.num) (h2:fK s' w' (x.den:Int)):rZ (gL c (j*4) [s,w,s',w']) (q.set j x):=by
 have hl:j*4+4<=c.length:=by rw [h.1];omega
 refine ⟨by rw [xL (by simpa using hl),Zbp];exact h.1,fun i y hy => ?_⟩;by_cases e:i=j
 ·subst e;rw [List.getElem?_set_self hj] at hy;obtain rfl:=Option.some.inj hy;exact aF.same hl h1 h2
 ·rw [List.getElem?_set_ne (by omega)] at hy;exact aF.other hl e (h.2 i y hy)
theorem rZ.get {c:List AV} {q:List Rat} {j:Nat} {x:Rat} (h:rZ c q) (hx:q[j]? = some x):∃ cs,(c.drop (j*4)).take 4=cs/\j*4+4<=c.length/\j<q.length/\jU (.agg cs) x:=by
 obtain ⟨s,w,s',w',e,h1,h2⟩:=h.2 j x hx;have hj:=(List.getElem?_eq_some_iff.1 hx).1;exact ⟨_,e,by rw [h.1];omega,hj,s,w,s',w',rfl,h1,h2⟩
abbrev rwV (n:Nat) (r:Pa):AV:=.sl r 0 n (some n) 4
theorem oN {r:Pa} {n j:Nat} {z:Int} {op:AV->OP} (hz:z=(j:Int)) (hj:j<n):zM 4 (rwV n r) (I z) op=op (.ptr r (j*4)):=by
 subst hz;rw [wU hj,Zbh]
theorem zx7 {n j:Nat} {l:List AV} {z:Int} {op:AV->OP} (hz:z=(j:Int)) (hj:j<n):zM 4 (.lst 4 n l) (I z) op=op (.fp (l.drop (j*4))):=ni hz hj
theorem rat0:((0:Int):Rat)=0:=rfl
theorem rat1:((1:Int):Rat)=1:=rfl
theorem zsl (n:Nat) (z:List AV):(bW n z).length=n*z.length:=by
 induction n with
 | zero=>show ([]:List AV).length=_;rw [Zea];rfl
 | succ n ih=>show (z++bW n z).length=_;rw [Zan,ih,Zam,Zbs,Zda]
theorem zgo {h0 h:T Blk} {nx p:Pa} {L:List Ob} {n:Nat} {K:Kw Prop} (H:Hp h0 h nx L) (hn:n<=1000) (hK:∀ id c h' nx',rZ c (List.replicate n 0)->Hp h0 h' nx' (.arr id c::L)->K (rwV n id) h' nx'=.ok True):(CS Tryz.prog B).fn 187 p [I (n:Int)] h nx K=.ok True:=by
 refine zQ zW yX 2000 fun hf => ?_;rw [jv.go,jv.t20,zA,jv.jk,zA,jv.ji];refine H.mkN (n:=n) (c:=n) rfl rfl (Zaf _) (by omega) (by omega) fun id h1 nx1 H1 => ?_;rw [zA,zA,jv.qh,jA,zL];refine jv.zom (fun m x5 h' nx'=>∃ (i:Nat) (c:List AV),x5=I (i:Int)/\m+i=n/\c.length=n*4/\(∀ j,j<i->aF c j 0)/\Hp h0 h' nx' (.arr id c::L)) (m:=n) (by omega) ⟨0,_,rfl,rfl,zsl _ _,fun j hj=>by omega,H1⟩ ?_;rintro m z3 z5 z6 h3 nx3 R ⟨i,c,rfl,hm,hc,hall,H3⟩ hR;rw [jv.t12,zA,jv.nU,uf,zA,zB,jv.v6];by_cases ci:i<n
 ·rw [Zac (by omega),zE,zF,zA,zL,zA,jv.bV,jv.bf];refine f89 (by omega) _ _ _ _ ?_;rintro _ ⟨s,w,s',w',rfl,i1,i2⟩ _;rw [rat0] at i1 i2;rw [oN (j:=i) rfl ci];refine H3.sW (k:=0) (off:=i*4) rfl (by omega) rfl fun h4 H4 => ?_;rw [jv.ax,gu (by omega)];refine hR (m-1) _ _ _ _ _ (by omega) ⟨i+1,_,by congr 1,by omega,by rw [xL (by simp;omega)];exact hc,fun j hj => ?_,H4⟩;by_cases e:j=i
  ·subst e;exact aF.same (by omega) i1 i2
  ·exact aF.other (by omega) e (hall j (by omega))
 ·rw [Zab (by omega),zC,zX,yF,zA,jv.nZ];simp only [zK,zR];rw [jv.ret];refine hK id c _ _ ⟨by rw [Zba];exact hc,fun j x hx => ?_⟩ H3;have hj:=(List.getElem?_eq_some_iff.1 hx).1;rw [Zba] at hj;rw [List.getElem?_replicate,if_pos hj] at hx;obtain rfl:=Option.some.inj hx;exact hall j (by omega)
def fZ (n:Nat) (l:List Int):List Rat:=l.foldl (fun q c=>q.set c.toNat 1) (List.replicate n 0)
theorem zdd (n:Nat) (l:List Int) (c:Int):fZ n (l++[c])=(fZ n l).set c.toNat 1:=by unfold fZ;rw [Zfc];rfl
theorem dR:∀ (l:List Int) (q:List Rat),(l.foldl (fun q c=>q.set c.toNat 1) q).length=q.length
 | [],_=>rfl
 | c::l,q=>by rw [Zdv,dR l,Zbp]
theorem jT (n:Nat) (l:List Int):(fZ n l).length=n:=by unfold fZ;rw [dR,Zba]
theorem pV {h0 h:T Blk} {nx p:Pa} {L:List Ob} {n:Nat} {l:List Int} {K:Kw Prop} (H:Hp h0 h nx L) (hn:n<=1000) (hl:l.length<=1000) (hr:∀ c∈l,0<=c/\c<(n:Int)) (hK:∀ id c h' nx',rZ c (fZ n l)->Hp h0 h' nx' (.arr id c::L)->K (rwV n id) h' nx'=.ok True):(CS Tryz.prog B).fn 182 p [I (n:Int),encI l] h nx K=.ok True:=by
 refine zQ zW yX 2000 fun hf => ?_;rw [jr.go,jr.t20,zA,jr.jk,zA,jr.ji];refine zgo H hn fun id c h1 nx1 hc H1 => ?_;rw [zA,zA,jr.qh,zZ,zL];refine jr.zom (fun m x7 h' nx'=>∃ (i:Nat) (c:List AV),x7=I (i:Int)/\m+i=l.length/\rZ c (fZ n (l.take i))/\Hp h0 h' nx' (.arr id c::L)) (m:=l.length) (by omega) ⟨0,c,rfl,rfl,hc,H1⟩ ?_;rintro m z4 z7 z8 h3 nx3 R ⟨i,c,rfl,hm,hc,H3⟩ hR;rw [jr.t12,zA,jr.nU,uf,zA,zB,jr.v8];by_cases ci:i<l.length
 ·have hx:l[i]? = some l[i]:=List.getElem?_eq_getElem ci;have hb:=hr _ (Zbb ci);rw [Zac (by omega),zE,zF,zA,zL,zA,jr.bV,ni rfl ci,ldL (tJ hx),jr.bf];refine f89 (by omega) _ _ _ _ ?_;rintro _ ⟨s,w,s',w',rfl,i1,i2⟩ _;rw [rat1] at i1 i2;have hcl:=hc.1;rw [jT] at hcl;rw [oN (j:=l[i].toNat) (by omega) (by omega)];refine H3.sW (k:=0) (off:=l[i].toNat*4) rfl (by omega) rfl fun h4 H4 => ?_;rw [jr.ax,gu (by omega)];refine hR (m-1) _ _ _ _ _ (by omega) ⟨i+1,_,by congr 1,by omega,?_,H4⟩;rw [Zas,hx,Zcn,zdd];exact hc.put (by rw [jT];omega) i1 i2
 ·rw [Zab (by omega),zC,zX,yF,zA,jr.nZ];simp only [zK,zR];rw [jr.ret];rw [Zae (by omega)] at hc;exact hK id c _ _ hc H3
def gG (b:Rat) (r o:List Rat):List Rat:=List.zipWith (fun x y=>x-b*y) r o
theorem pget {l e:List Rat} {c:Nat} {q:Rat} (hle:e.length=l.length) (hq:l[c]? = some q):(e.take c++l.drop c)[c]? = some q:=by
 have hc:=(List.getElem?_eq_some_iff.1 hq).1;rw [List.getElem?_append_right (by rw [Zau];omega),Zau,List.getElem?_drop,show c+(c-min c e.length)=c by omega];exact hq
theorem zx8 {l e:List Rat} {c:Nat} {q:Rat} (hle:e.length=l.length) (hq:e[c]? = some q):(e.take c++l.drop c).set c q=e.take (c+1)++l.drop (c+1):=by
 have hc:=(List.getElem?_eq_some_iff.1 hq).1;rw [Zay (show c<l.length by omega),gQ (by rw [Zau];omega),Zas,hq];simp
theorem zx9 {l e:List Rat} {c:Nat} {q:Rat} (hle:e.length=l.length) (hq:e[c]? = some q) (hl:l[c]? = some q):e.take c++l.drop c=e.take (c+1)++l.drop (c+1):=by
 have hc:=(List.getElem?_eq_some_iff.1 hq).1;have h1:l[c]'(by omega)=q:=by rw [List.getElem?_eq_getElem (by omega)] at hl;exact Option.some.inj hl
 rw [Zay (show c<l.length by omega),Zas,hq,h1];simp
theorem zeo {h0 h:T Blk} {nx p r o:Pa} {L:List Ob} {kr ko k n:Nat} {cr co:List AV} {qr qo:List Rat} {v:AV} {b:Rat} {K:Kw Prop} (H:Hp h0 h nx L) (hkr:L[kr]? = some (.arr r cr)) (hko:L[ko]? = some (.arr o co)) (hne:ko≠kr) (hr:rZ cr qr) (ho:rZ co qo) (hlr:qr.length=n) (hlo:qo.length=n) (hn:n<=1000) (hv:jU v b) (hk:k<=40000) (hb:Qs k b) (hqr:∀ x∈qr,Qs k x) (hqo:∀ x∈qo,Qs k x) (hqp:∀ x∈qo,Qs k (b*x))
  (hK:∀ c h' nx',rZ c (gG b qr qo)->Hp h0 h' nx' (L.set kr (.arr r c))->K (.tup []) h' nx'=.ok True):(CS Tryz.prog B).fn 183 p [rwV n r,v,rwV n o] h nx K=.ok True:=by
 refine zQ zW yX 2000 fun hf => ?_;obtain ⟨sb,wb,sb',wb',rfl,b1,b2⟩:=hv;have hkl:=(List.getElem?_eq_some_iff.1 hkr).1;have hE:(gG b qr qo).length=qr.length:=by unfold gG;rw [Zes];omega
 rw [gm.go,gm.t18,zA,gm.jk];refine H.box (l:=[sb,wb,sb',wb']) rfl fun bb h1 nx1 H1 => ?_;rw [zA,gm.ji,jA,zL]
 refine gm.zon (fun m x8 h' nx'=>∃ (i:Nat) (c:List AV),x8=I (i:Int)/\m+i=n/\rZ c ((gG b qr qo).take i++qr.drop i)/\Hp h0 h' nx' (.arr bb [sb,wb,sb',wb']::L.set kr (.arr r c))) (m:=n) (by omega) ⟨0,cr,rfl,rfl,by rw [Zdy,Zcs,Zdx];exact hr,by
  have:L.set kr (.arr r cr)=L:=by
   rw [List.getElem?_eq_getElem hkl] at hkr;rw [<- Option.some.inj hkr,List.set_getElem_self]
  rw [this];exact H1⟩ ?_
 rintro m z4 z5 z8 z9 z10 h3 nx3 R ⟨i,c,rfl,hm,hc,H3⟩ hR;rw [gm.t14,zA,gm.qh,uf,zA,zB,gm.v9];by_cases ci:i<n
 ·have hx:qo[i]? = some qo[i]:=List.getElem?_eq_getElem (by omega);have hy:qr[i]? = some qr[i]:=List.getElem?_eq_getElem (by omega);have hz:(gG b qr qo)[i]? = some (qr[i]-b*qo[i]):=by unfold gG;rw [List.getElem?_zipWith,hy,hx]
  have mo:=Zbb (l:=qo) (n:=i) (by omega);have mr:=Zbb (l:=qr) (n:=i) (by omega);obtain ⟨cs,e1,e2,_,fo⟩:=ho.get hx;obtain ⟨cs2,e3,e4,hcj,fr⟩:=hc.get (pget hE hy);have hko3:(Ob.arr bb [sb,wb,sb',wb']::L.set kr (.arr r c))[ko+1]? = some (.arr o co):=by
   show (L.set kr (.arr r c))[ko]? = _;rw [List.getElem?_set_ne (by omega)];exact hko
  have hkr3:(Ob.arr bb [sb,wb,sb',wb']::L.set kr (.arr r c))[kr+1]? = some (.arr r c):=by
   show (L.set kr (.arr r c))[kr]? = _;rw [List.getElem?_set_self hkl]
  obtain ⟨so,wo,so',wo',e5,o1,o2⟩:=fo;obtain rfl:=AV.agg.inj e5;rw [Zac (by omega),zE,zF,zA,zL,zA,gm.ny,oN (j:=i) rfl ci,H3.qc hko3 e2 e1];refine H3.alloc fun xb h4 nx4 H4 => ?_;refine H4.jb (l2:=[so,wo,so',wo']) (k:=0) rfl rfl rfl fun h5 H5 => ?_;rw [zA,gm.bV,H5.zx (k:=0) (n:=4) rfl rfl];refine pX ⟨_,_,_,_,rfl,o1,o2⟩ _ _ _ _ ?_;rintro _ rfl _;rw [di,zB,gm.v10];by_cases d:qo[i]=0
  ·have d2:qr[i]-b*qo[i]=qr[i]:=by rw [d,Zcp,Rat.sub_eq_add_neg,Rat.neg_zero,Rat.add_zero]
   rw [Zac (fV.2 (Rat.num_eq_zero.2 d)),Zaj,zC,zF,gm.fM,gu (by omega)];rw [d2] at hz;exact hR (m-1) _ _ _ _ _ _ _ (by omega) ⟨i+1,c,by congr 1,by omega,by rw [<- zx9 hE hz hy];exact hc,H5.drop⟩
  ·rw [Zab (fun q=>d (Rat.num_eq_zero.1 (fV.1 q))),Zak,zE,gm.bf];have lr:∀ op:AV->OP,zD 4 (.ptr r (i*4)) h5 op=op (.agg cs2):=fun op=>H5.qc (k:=kr+2) hkr3 e4 e3;have lb:∀ op:AV->OP,zD 4 (.ptr bb 0) h5 op=op (.agg [sb,wb,sb',wb']):=fun op=>H5.zx (k:=1) (n:=4) rfl rfl;have lx:∀ op:AV->OP,zD 4 (.ptr xb 0) h5 op=op (.agg [so,wo,so',wo']):=fun op=>H5.zx (k:=0) (n:=4) rfl rfl;have ix:∀ op:AV->OP,zM 4 (rwV n r) (I (i:Int)) op=op (.ptr r (i*4)):=fun op=>oN (j:=i) rfl ci;simp only [ix,lr,lb,lx];refine zen ⟨_,_,_,_,rfl,b1,b2⟩ ⟨_,_,_,_,rfl,o1,o2⟩ hk hb (hqo _ mo) _ _ _ _ ?_;rintro v5 f5 _;simp only [lr,zG];refine zvz fr f5 hk (hqr _ mr) (hqp _ mo) _ _ _ _ ?_;rintro _ ⟨s6,w6,s6',w6',rfl,i1,i2⟩ _;refine H5.sW (k:=kr+2) (off:=i*4) hkr3 e4 rfl fun h6 H6 => ?_;rw [gm.fM,gu (by omega)];refine hR (m-1) _ _ _ _ _ _ _ (by omega) ⟨i+1,gL c (i*4) [s6,w6,s6',w6'],by congr 1,by omega,?_,?_⟩
   ·rw [<- zx8 hE hz];exact hc.put hcj i1 i2
   ·exact (H6.cast (show ((Ob.arr xb [I 0,.zn,I 0,.zn]::Ob.arr bb [sb,wb,sb',wb']::L.set kr (.arr r c)).set 0 (Ob.arr xb [so,wo,so',wo'])).set (kr+2) (.arr r (gL c (i*4) [s6,w6,s6',w6']))=Ob.arr xb [so,wo,so',wo']::Ob.arr bb [sb,wb,sb',wb']::L.set kr (.arr r (gL c (i*4) [s6,w6,s6',w6'])) by
     show Ob.arr xb _::Ob.arr bb _::(L.set kr (.arr r c)).set kr _=_;rw [List.set_set])).drop
 ·rw [Zab (by omega),zC,zX,yF];rw [gm.ret];rw [Zae (by omega),Zcf (by omega),Zcg] at hc;exact hK c _ _ hc H3.drop
def gM (b:Rat) (r:List Rat):List Rat:=r.map fun x=>x*b
theorem zsm {h0 h:T Blk} {nx p r:Pa} {L:List Ob} {kr k n:Nat} {cr:List AV} {qr:List Rat} {v:AV} {b:Rat} {K:Kw Prop} (H:Hp h0 h nx L) (hkr:L[kr]? = some (.arr r cr)) (hr:rZ cr qr) (hlr:qr.length=n) (hn:n<=1000) (hv:jU v b) (hk:k<=40000) (hb:Qs k b) (hqr:∀ x∈qr,Qs k x)
  (hK:∀ c h' nx',rZ c (gM b qr)->Hp h0 h' nx' (L.set kr (.arr r c))->K (.tup []) h' nx'=.ok True):(CS Tryz.prog B).fn 184 p [rwV n r,v] h nx K=.ok True:=by
 refine zQ zW yX 2000 fun hf => ?_;obtain ⟨sb,wb,sb',wb',rfl,b1,b2⟩:=hv;have hkl:=(List.getElem?_eq_some_iff.1 hkr).1;have hE:(gM b qr).length=qr.length:=by unfold gM;rw [Zaz]
 rw [gq.go,gq.t18,zA,gq.jk];refine H.box (l:=[sb,wb,sb',wb']) rfl fun bb h1 nx1 H1 => ?_;rw [zA,gq.ji,jA,zL]
 refine gq.zon (fun m x7 h' nx'=>∃ (i:Nat) (c:List AV),x7=I (i:Int)/\m+i=n/\rZ c ((gM b qr).take i++qr.drop i)/\Hp h0 h' nx' (.arr bb [sb,wb,sb',wb']::L.set kr (.arr r c))) (m:=n) (by omega) ⟨0,cr,rfl,rfl,by rw [Zdy,Zcs,Zdx];exact hr,by
  have:L.set kr (.arr r cr)=L:=by
   rw [List.getElem?_eq_getElem hkl] at hkr;rw [<- Option.some.inj hkr,List.set_getElem_self]
  rw [this];exact H1⟩ ?_
 rintro m z3 z4 z7 z8 z9 h3 nx3 R ⟨i,c,rfl,hm,hc,H3⟩ hR;rw [gq.t14,zA,gq.qh,uf,zA,zB,gq.v8];by_cases ci:i<n
 ·have hy:qr[i]? = some qr[i]:=List.getElem?_eq_getElem (by omega);have hz:(gM b qr)[i]? = some (qr[i]*b):=by unfold gM;rw [List.getElem?_map,hy];rfl
  have mr:=Zbb (l:=qr) (n:=i) (by omega);obtain ⟨cs2,e3,e4,hcj,fr⟩:=hc.get (pget hE hy);have hkr3:(Ob.arr bb [sb,wb,sb',wb']::L.set kr (.arr r c))[kr+1]? = some (.arr r c):=by
   show (L.set kr (.arr r c))[kr]? = _;rw [List.getElem?_set_self hkl]
  obtain ⟨so,wo,so',wo',e5,o1,o2⟩:=fr;obtain rfl:=AV.agg.inj e5;rw [Zac (by omega),zE,zF,zA,zL,zA,gq.ny,oN (j:=i) rfl ci,H3.qc hkr3 e4 e3];refine H3.alloc fun xb h4 nx4 H4 => ?_;refine H4.jb (l2:=[so,wo,so',wo']) (k:=0) rfl rfl rfl fun h5 H5 => ?_;rw [zA,gq.bV,H5.zx (k:=0) (n:=4) rfl rfl];refine pX ⟨_,_,_,_,rfl,o1,o2⟩ _ _ _ _ ?_;rintro _ rfl _;rw [di,zB,gq.v9];by_cases d:qr[i]=0
  ·have d2:qr[i]*b=qr[i]:=by rw [d,Zfa]
   rw [Zac (fV.2 (Rat.num_eq_zero.2 d)),Zaj,zC,zF,gq.fM,gu (by omega)];rw [d2] at hz;exact hR (m-1) _ _ _ _ _ _ _ (by omega) ⟨i+1,c,by congr 1,by omega,by rw [<- zx9 hE hz hy];exact hc,H5.drop⟩
  ·rw [Zab (fun q=>d (Rat.num_eq_zero.1 (fV.1 q))),Zak,zE,gq.bf,H5.zx (k:=0) (n:=4) rfl rfl,H5.zx (k:=1) (n:=4) rfl rfl];refine zen ⟨_,_,_,_,rfl,o1,o2⟩ ⟨_,_,_,_,rfl,b1,b2⟩ hk (hqr _ mr) hb _ _ _ _ ?_;rintro _ ⟨s6,w6,s6',w6',rfl,i1,i2⟩ _;rw [oN (j:=i) rfl ci];refine H5.sW (k:=kr+2) (off:=i*4) hkr3 e4 rfl fun h6 H6 => ?_;rw [gq.fM,gu (by omega)];refine hR (m-1) _ _ _ _ _ _ _ (by omega) ⟨i+1,gL c (i*4) [s6,w6,s6',w6'],by congr 1,by omega,?_,?_⟩
   ·rw [<- zx8 hE hz];exact hc.put hcj i1 i2
   ·exact (H6.cast (show ((Ob.arr xb [I 0,.zn,I 0,.zn]::Ob.arr bb [sb,wb,sb',wb']::L.set kr (.arr r c)).set 0 (Ob.arr xb [so,wo,so',wo'])).set (kr+2) (.arr r (gL c (i*4) [s6,w6,s6',w6']))=Ob.arr xb [so,wo,so',wo']::Ob.arr bb [sb,wb,sb',wb']::L.set kr (.arr r (gL c (i*4) [s6,w6,s6',w6'])) by
     show Ob.arr xb _::Ob.arr bb _::(L.set kr (.arr r c)).set kr _=_;rw [List.set_set])).drop
 ·rw [Zab (by omega),zC,zX,yF];rw [gq.ret];rw [Zae (by omega),Zcf (by omega),Zcg] at hc;exact hK c _ _ hc H3.drop
end Go.Ev
namespace Go.Ev
open Go Go.Proofs
def Dn (t M:Nat) (q:Rat):Prop:=∃ z:Int,q*((t:Int):Rat)=(z:Rat)/\z.natAbs<=M
theorem zb8 {t:Int} (h:t≠0):(t:Rat)≠0:=fun e=>by
 have:=congrArg Rat.num e;rw [Zew] at this;exact h this
theorem Dn.qs {t M k:Nat} {q:Rat} (ht:1<=t) (htM:t<=M) (hM:M<18446744073709551616 ^ k) (h:Dn t M q):Qs k q:=by
 obtain ⟨z,e,hz⟩:=h;have h0:((t:Int):Rat)≠0:=zb8 (by omega);have eq:q=Rat.divInt z (t:Int):=by rw [Rat.divInt_eq_div];grind
 obtain ⟨d1,d2⟩:=zb7 (n:=z) (d:=(t:Int)) (by omega);have hg:0<(Int.gcd z (t:Int):Int):=by have:=Int.gcd_pos_of_ne_zero_right z (show (t:Int)≠0 by omega);omega
 have hg1:1<=Int.gcd z (t:Int):=by omega
 refine ⟨?_,?_⟩
 ·unfold Zs;rw [eq,d1,Int.natAbs_ediv_of_dvd (Int.gcd_dvd_left ..)];exact Zeh (Zbi (Zdd _ _) hz) hM
 ·unfold Zs;rw [eq,d2,Int.natAbs_ediv_of_dvd (Int.gcd_dvd_right ..)];exact Zeh (Zbi (Zdd _ _) (by omega)) hM
theorem Dn.mono {t M N:Nat} {q:Rat} (h:Dn t M q) (hMN:M<=N):Dn t N q:=by
 obtain ⟨z,e,hz⟩:=h;exact ⟨z,e,Zbi hz hMN⟩
theorem Dn.zero (t M:Nat):Dn t M 0:=⟨0,by grind,by simp⟩
theorem Dn.sub {t M N:Nat} {p q:Rat} (hp:Dn t M p) (hq:Dn t N q):Dn t (M+N) (p-q):=by
 obtain ⟨z,e,hz⟩:=hp;obtain ⟨w,f,hw⟩:=hq;refine ⟨z-w,by rw [Rat.intCast_sub];grind,?_⟩;have:=Int.natAbs_sub_le z w;omega
theorem Dn.mul {t s M N:Nat} {p q:Rat} (hp:Dn t M p) (hq:Dn s N q):Dn (t*s) (M*N) (p*q):=by
 obtain ⟨z,e,hz⟩:=hp;obtain ⟨w,f,hw⟩:=hq;refine ⟨z*w,?_,?_⟩
 ·rw [Zcv,show ((t*s:Nat):Int)=(t:Int)*(s:Int) by simp,Zcv];grind
 ·rw [Zem];exact Zbd hz hw
theorem Dn.scale {t M:Nat} (s:Nat) {p:Rat} (hp:Dn t M p):Dn (t*s) (M*s) p:=by
 obtain ⟨z,e,hz⟩:=hp;refine ⟨z*(s:Int),?_,?_⟩
 ·rw [Zcv,show ((t*s:Nat):Int)=(t:Int)*(s:Int) by simp,Zcv];grind
 ·rw [Zem,Zcm];exact Zai _ hz
def Sg (b:Rat):Prop:=b = -1\/b=0\/b=1
theorem Sg.dn {b:Rat} (h:Sg b) {t M:Nat} (hM:t<=M):Dn t M b:=by
 rcases h with rfl | rfl | rfl
 ·exact ⟨-(t:Int),by rw [Zdh];grind,by omega⟩
 ·exact Dn.zero _ _
 ·exact ⟨(t:Int),by grind,by omega⟩
theorem Sg.mul {b q:Rat} (h:Sg b) {t M:Nat} (hq:Dn t M q):Dn t M (b*q):=by
 obtain ⟨z,e,hz⟩:=hq;rcases h with rfl | rfl | rfl
 ·exact ⟨-z,by rw [Zdh];grind,by omega⟩
 ·rw [Zfa];exact Dn.zero _ _
 ·exact ⟨z,by grind,hz⟩
abbrev at' (q:List Rat) (j:Nat):Rat:=q.getD j 0
theorem wJ {q:List Rat} {j:Nat} (h:j<q.length):q[j]? = some (at' q j):=by
 rw [at',Zaa,List.getElem?_eq_getElem h];rfl
theorem kH {q:List Rat} {j:Nat} (h:q.length<=j):at' q j=0:=by
 rw [at',Zaa,List.getElem?_eq_none h];rfl
theorem at_mem {q:List Rat} {x:Rat} (h:x∈q):∃ j,j<q.length/\x=at' q j:=by
 obtain ⟨j,hj⟩:=List.mem_iff_getElem?.1 h;have hl:=(List.getElem?_eq_some_iff.1 hj).1;rw [wJ hl] at hj;exact ⟨j,hl,(Option.some.inj hj).symm⟩
theorem gU {b:Rat} {r o:List Rat} (h:r.length=o.length):(gG b r o).length=r.length:=by
 unfold gG;rw [Zes];omega
theorem jS {b:Rat} {r o:List Rat} (h:r.length=o.length) (j:Nat):at' (gG b r o) j=at' r j-b*at' o j:=by
 by_cases hj:j<r.length
 ·have h1:=wJ (q:=gG b r o) (j:=j) (by rw [gU h];exact hj);unfold gG at h1;rw [List.getElem?_zipWith,wJ hj,wJ (q:=o) (by omega)] at h1;exact (Option.some.inj h1).symm
 ·rw [kH (by rw [gU h];omega),kH (by omega),kH (by omega)];grind
theorem d7 {b:Rat} {r:List Rat}:(gM b r).length=r.length:=by unfold gM;rw [Zaz]
theorem vV {b:Rat} {r:List Rat} (j:Nat):at' (gM b r) j=at' r j*b:=by
 by_cases hj:j<r.length
 ·have h1:=wJ (q:=gM b r) (j:=j) (by rw [d7];exact hj);unfold gM at h1;rw [List.getElem?_map,wJ hj] at h1;exact (Option.some.inj h1).symm
 ·rw [kH (by rw [d7];omega),kH (by omega),Zfa]
def dot:List Rat->List Rat->Rat
 | a::q,b::f=>a*b+dot q f
 | _,_=>0
theorem uY (b:Rat):∀ (r o f:List Rat),r.length=o.length->dot (gG b r o) f=dot r f-b*dot o f
 | [],[],f,_=>by unfold gG;simp [dot];grind
 | x::r,y::o,[],_=>by unfold gG;simp [dot];grind
 | x::r,y::o,z::f,h=>by
  have ih:=uY b r o f (by simpa using h);unfold gG at ih ⊢;rw [List.zipWith_cons_cons,dot,dot,dot,ih];grind
 | [],_::_,_,h=>by simp at h
 | _::_,[],_,h=>by simp at h
theorem dH (b:Rat):∀ (r f:List Rat),dot (gM b r) f=b*dot r f
 | [],f=>by simp [gM,dot]
 | x::r,[]=>by simp [gM,dot]
 | x::r,z::f=>by
  have ih:=dH b r f;unfold gM at ih ⊢;rw [Zbt,dot,dot,ih];grind
def aG:List (List Rat×Nat)->List Rat->List Rat
 | [],r=>r
 |(q,p)::l,r=>aG l (gG (at' r p) r q)
theorem gS (q:List Rat) (p:Nat):∀ (l:List (List Rat×Nat)) (r:List Rat),aG (l++[(q,p)]) r=gG (at' (aG l r) p) (aG l r) q
 | [],r=>rfl
 |(q',p')::l,r=>by rw [Zco,aG,gS q p l,aG]
structure St (n t M:Nat) (Q:List (List Rat)) (ps:List Nat):Prop where
 len:ps.length=Q.length
 row:∀ q∈Q,q.length=n
 den:∀ q∈Q,∀ j,Dn t M (at' q j)
 rng:∀ p∈ps,p<n
 one:∀ a b,a<Q.length->b<Q.length->at' (Q.getD a []) (ps.getD b 0)=if a=b then 1 else 0
 t1:1<=t
 tM:t<=M
theorem St.nil (n:Nat):St n 1 1 [] []:=⟨rfl,by simp,by simp,by simp,fun a b h=>by simp at h,by omega,by omega⟩
theorem kK {α:Type} {l:List α} {i:Nat} {d:α} (h:i<l.length):l[i]? = some (l.getD i d):=by
 rw [Zaa,List.getElem?_eq_getElem h];rfl
theorem jY {α:Type} {l:List α} {i:Nat} {d:α} (h:i<l.length):l.getD i d∈l:=Zad (kK h)
abbrev sQ (Q:List (List Rat)) (ps:List Nat):List (List Rat×Nat):=List.zip Q ps
theorem uF {Q:List (List Rat)} {ps:List Nat} {k:Nat} (hl:ps.length=Q.length) (hk:k<Q.length):(sQ Q ps).take (k+1)=(sQ Q ps).take k++[(Q.getD k [],ps.getD k 0)]:=by
 have h1:Q[k]? = some (Q.getD k []):=kK hk;have h2:ps[k]? = some (ps.getD k 0):=kK (by omega);have h3:(sQ Q ps)[k]? = some (Q.getD k [],ps.getD k 0):=List.getElem?_zip_eq_some.2 ⟨h1,h2⟩;rw [Zas,h3];rfl
structure Rk (n t M:Nat) (Q:List (List Rat)) (ps:List Nat) (r0:List Rat) (k:Nat) (r:List Rat):Prop where
 eq:r=aG ((sQ Q ps).take k) r0
 len:r.length=n
 den:∀ j,Dn t (M+k*M) (at' r j)
 late:∀ b,k<=b->b<Q.length->at' r (ps.getD b 0)=at' r0 (ps.getD b 0)
 done:∀ b,b<k->b<Q.length->at' r (ps.getD b 0)=0
theorem Rk.zero {n t M:Nat} {Q:List (List Rat)} {ps:List Nat} {r0:List Rat} (hS:St n t M Q ps) (hl:r0.length=n) (hs:∀ j,Sg (at' r0 j)):Rk n t M Q ps r0 0 r0 :=
 ⟨rfl,hl,fun j=>(hs j).dn (by have:=hS.tM;omega),fun b _ _=>rfl,fun b h=>by omega⟩
theorem Rk.next {n t M k:Nat} {Q:List (List Rat)} {ps:List Nat} {r0 r:List Rat} (hS:St n t M Q ps) (hs:∀ j,Sg (at' r0 j)) (h:Rk n t M Q ps r0 k r) (hk:k<Q.length):Rk n t M Q ps r0 (k+1) (gG (at' r (ps.getD k 0)) r (Q.getD k [])):=by
 have hq:=jY (d:=[]) hk;have hql:=hS.row _ hq;have hll:r.length=(Q.getD k []).length:=by rw [h.len,hql]
 have hb:Sg (at' r (ps.getD k 0)):=by rw [h.late k (Zaf _) hk];exact hs _
 refine ⟨by rw [uF hS.len hk,gS,<- h.eq],by rw [gU hll];exact h.len,fun j => ?_,fun b h1 h2 => ?_,fun b h1 h2 => ?_⟩
 ·rw [jS hll];have:=(h.den j).sub (hb.mul (hS.den _ hq j));exact this.mono (by rw [Zam];omega)
 ·rw [jS hll,hS.one k b hk h2,if_neg (by omega),Zcp,h.late b (by omega) h2];grind
 ·rw [jS hll,hS.one k b hk h2];by_cases e:b=k
  ·subst e;rw [if_pos rfl,Rat.mul_one];grind
  ·rw [if_neg (by omega),Zcp,h.done b (by omega) h2];grind
def uU (Q:List (List Rat)) (p:Nat) (r:List Rat):List (List Rat):=Q.map fun o=>gG (at' o p) o r
theorem zi3 {t N:Nat} {v:Rat} (ht:1<=t) (hv:v≠0) (h:Dn t N v):∃ s:Nat,1<=s/\s<=N/\Dn s t v⁻¹/\∀ {x:Rat} {R:Nat},Dn t R x->Dn s R (x*v⁻¹):=by
 obtain ⟨z,e,hz⟩:=h;have ht0:((t:Int):Rat)≠0:=zb8 (by omega);have hz0:z≠0:=fun q=>by subst q;rw [show ((0:Int):Rat)=0 from rfl] at e;grind
 have hzr:(z:Rat)≠0:=zb8 hz0;refine ⟨z.natAbs,by omega,hz,?_,fun {x R} hx => ?_⟩
 ·by_cases c:0<z
  ·refine ⟨(t:Int),?_,by omega⟩;rw [show ((z.natAbs:Nat):Int)=z by omega];grind
  ·refine ⟨-(t:Int),?_,by omega⟩;rw [show ((z.natAbs:Nat):Int) = -z by omega,Zdh,Zdh];grind
 ·obtain ⟨w,f,hw⟩:=hx;by_cases c:0<z
  ·refine ⟨w,?_,hw⟩;rw [show ((z.natAbs:Nat):Int)=z by omega];grind
  ·refine ⟨-w,?_,by omega⟩;rw [show ((z.natAbs:Nat):Int) = -z by omega,Zdh,Zdh];grind
structure Nw (n t M N s:Nat) (Q:List (List Rat)) (ps:List Nat) (p:Nat) (r:List Rat):Prop where
 len:r.length=n
 den:∀ j,Dn s N (at' r j)
 one:at' r p=1
 out:∀ b,b<Q.length->at' r (ps.getD b 0)=0
 p1:p<n
 s1:1<=s
 sN:s<=N
theorem Nw.less {n t M N s p:Nat} {Q:List (List Rat)} {ps:List Nat} {r:List Rat} (hS:St n t M Q ps) (h:Nw n t M N s Q ps p r) {o:List Rat} (ho:o∈Q) :
  (∀ j,Dn (t*s) (M*N) (at' o p*at' r j))/\(∀ j,Dn (t*s) (M*s+M*N) (at' (gG (at' o p) o r) j))/\(gG (at' o p) o r).length=n:=by
 have hl:o.length=r.length:=by rw [hS.row o ho,h.len]
 refine ⟨fun j=>(hS.den o ho p).mul (h.den j),fun j => ?_,by rw [gU hl];exact hS.row o ho⟩;rw [jS hl];exact ((hS.den o ho j).scale s).sub ((hS.den o ho p).mul (h.den j))
theorem St.next {n t M N s p:Nat} {Q:List (List Rat)} {ps:List Nat} {r:List Rat} (hS:St n t M Q ps) (h:Nw n t M N s Q ps p r):St n (t*s) (M*N+M*N) (uU Q p r++[r]) (ps++[p]):=by
 have hnl:(uU Q p r).length=Q.length:=by unfold uU;rw [Zaz]
 have hM1:1<=M:=Zbi hS.t1 hS.tM;have mM:M*s<=M*N:=Zbc _ h.sN;refine ⟨by rw [Zan,Zan,hnl,hS.len];rfl,fun q hq => ?_,fun q hq j => ?_,fun x hx => ?_,fun a b ha hb => ?_,Zbd hS.t1 h.s1,?_⟩
 ·rcases List.mem_append.1 hq with hq | hq
  ·obtain ⟨o,ho,rfl⟩:=List.mem_map.1 hq;exact (h.less hS ho).2.2
  ·obtain rfl:=List.mem_singleton.1 hq;exact h.len
 ·rcases List.mem_append.1 hq with hq | hq
  ·obtain ⟨o,ho,rfl⟩:=List.mem_map.1 hq;exact ((h.less hS ho).2.1 j).mono (by omega)
  ·obtain rfl:=List.mem_singleton.1 hq;have:=(h.den j).scale t;rw [Zaq s t] at this;have e:=Zbc N hS.tM;rw [Zaq N M] at e;exact this.mono (by omega)
 ·rcases List.mem_append.1 hx with hx | hx
  ·exact hS.rng x hx
  ·obtain rfl:=List.mem_singleton.1 hx;exact h.p1
 ·rw [Zan,hnl,Zcq] at ha hb;have eb:(ps++[p]).getD b 0=if b<Q.length then ps.getD b 0 else p:=by
   by_cases c:b<Q.length
   ·rw [if_pos c,Zaa,List.getElem?_append_left (by rw [hS.len];exact c),<- Zaa]
   ·rw [if_neg c,Zaa,List.getElem?_append_right (by rw [hS.len];omega),hS.len,show b-Q.length=0 by omega];rfl
  have ea:(uU Q p r++[r]).getD a []=if a<Q.length then gG (at' (Q.getD a []) p) (Q.getD a []) r else r:=by
   by_cases c:a<Q.length
   ·rw [if_pos c,Zaa,List.getElem?_append_left (by rw [hnl];exact c),uU,List.getElem?_map,kK (d:=[]) c];rfl
   ·rw [if_neg c,Zaa,List.getElem?_append_right (by rw [hnl];omega),hnl,show a-Q.length=0 by omega];rfl
  rw [ea,eb];by_cases c1:a<Q.length
  ·have hl:(Q.getD a []).length=r.length:=by rw [hS.row _ (jY c1),h.len]
   rw [if_pos c1,jS hl];by_cases c2:b<Q.length
   ·rw [if_pos c2,h.out b c2,hS.one a b c1 c2,Zcp];grind
   ·rw [if_neg c2,h.one,if_neg (by omega)];grind
  ·rw [if_neg c1];by_cases c2:b<Q.length
   ·rw [if_pos c2,h.out b c2,if_neg (by omega)]
   ·rw [if_neg c2,h.one,if_pos (by omega)]
 ·have h1:=Zbd hS.tM h.sN;omega
abbrev SL (n:Nat) (o4 o5:Option Pa) (rs:List Pa) (cs:List (List AV)) (ps:List Nat) (T:List Ob):List Ob :=
 .gro o4 1 rs.length (rs.map (rwV n))::.gro o5 1 ps.length (ps.map fun p=>I ((p:Nat):Int))::(List.zipWith Ob.arr rs cs++T)
structure SM (rs:List Pa) (cs:List (List AV)) (Q:List (List Rat)):Prop where
 lr:rs.length=Q.length
 lc:cs.length=Q.length
 row:∀ a,a<Q.length->rZ (cs.getD a []) (Q.getD a [])
theorem xJ {rs:List Pa} {cs:List (List AV)} {Q:List (List Rat)} (S:SM rs cs Q):(List.zipWith Ob.arr rs cs).length=Q.length:=by
 rw [Zes,S.lr,S.lc,Nat.min_self]
theorem SM.ob {rs:List Pa} {cs:List (List AV)} {Q:List (List Rat)} (S:SM rs cs Q) {n a:Nat} {o4 o5:Option Pa} {ps:List Nat} {T:List Ob} (ha:a<Q.length) (X:List Ob) :
  ∃ r,rs[a]? = some r/\(X++SL n o4 o5 rs cs ps T)[X.length+(a+2)]? = some (.arr r (cs.getD a [])):=by
 have hr:rs[a]? = some (rs[a]'(by rw [S.lr];exact ha)):=List.getElem?_eq_getElem _;have hc:cs[a]? = some (cs.getD a []):=kK (by rw [S.lc];exact ha);refine ⟨_,hr,?_⟩;rw [List.getElem?_append_right (by omega),Zcy];show (List.zipWith Ob.arr rs cs++T)[a]? = _;rw [List.getElem?_append_left (by rw [xJ S];exact ha),List.getElem?_zipWith,hr,hc]
theorem zku:∀ {rs:List Pa} {cs:List (List AV)} {a:Nat} {r:Pa} {c:List AV},rs[a]? = some r->(List.zipWith Ob.arr rs cs).set a (.arr r c)=List.zipWith Ob.arr rs (cs.set a c)
 | [],_,_,_,_,h=>by simp at h
 | _::_,[],_,_,_,_=>by simp
 | x::rs,y::cs,0,r,c,h=>by
  obtain rfl:=Option.some.inj h
  rfl
 | x::rs,y::cs,a+1,r,c,h=>by
  have:=zku (rs:=rs) (cs:=cs) (a:=a) (r:=r) (c:=c) (by simpa using h);simp [this]
theorem SM.put {rs:List Pa} {cs:List (List AV)} {Q:List (List Rat)} (S:SM rs cs Q) {n a:Nat} {o4 o5:Option Pa} {ps:List Nat} {T:List Ob} {r:Pa} {c:List AV} {q:List Rat} (ha:a<Q.length) (hr:rs[a]? = some r) (hc:rZ c q) (X:List Ob) :
  SM rs (cs.set a c) (Q.set a q)/\(X++SL n o4 o5 rs cs ps T).set (X.length+(a+2)) (.arr r c)=X++SL n o4 o5 rs (cs.set a c) ps T:=by
 refine ⟨⟨by rw [Zbp];exact S.lr,by rw [Zbp,Zbp];exact S.lc,fun b hb => ?_⟩,?_⟩
 ·rw [Zbp] at hb;by_cases e:b=a
  ·subst e;rw [Zaa,Zaa,List.getElem?_set_self (by rw [S.lc];exact hb),List.getElem?_set_self hb];exact hc
  ·rw [Zaa,Zaa,List.getElem?_set_ne (by omega),List.getElem?_set_ne (by omega),<- Zaa,<- Zaa];exact S.row b hb
 ·rw [Zel _ _ (by omega),Zcy];show X++(Ob.gro o4 1 rs.length (rs.map (rwV n))::Ob.gro o5 1 ps.length (ps.map fun p=>I ((p:Nat):Int))::(List.zipWith Ob.arr rs cs++T).set a (.arr r c))=_;rw [List.set_append_left _ _ (by rw [xJ S];exact ha),zku hr]
theorem SM.add {rs:List Pa} {cs:List (List AV)} {Q:List (List Rat)} (S:SM rs cs Q) {r:Pa} {c:List AV} {q:List Rat} (hc:rZ c q):SM (rs++[r]) (cs++[c]) (Q++[q]):=by
 refine ⟨by simp [S.lr],by simp [S.lc],fun b hb => ?_⟩;rw [Zan,Zcq] at hb;by_cases e:b<Q.length
 ·rw [Zaa,Zaa,List.getElem?_append_left (by rw [S.lc];exact e),List.getElem?_append_left e,<- Zaa,<- Zaa];exact S.row b e
 ·obtain rfl:b=Q.length:=by omega
  rw [Zaa,Zaa,List.getElem?_append_right (by rw [S.lc];exact Zaf _),List.getElem?_append_right (Zaf _),S.lc,Zdq];exact hc
theorem zkv {rs:List Pa} {cs:List (List AV)} {r:Pa} {c:List AV} (h:rs.length=cs.length):List.zipWith Ob.arr (rs++[r]) (cs++[c])=List.zipWith Ob.arr rs cs++[.arr r c]:=by
 rw [List.zipWith_append h];rfl
theorem zsn {a g4 g5:Ob} {Z T:List Ob}:(a::g4::g5::(Z++T)).Perm (g4::g5::((Z++[a])++T)):=by
 refine (List.Perm.swap ..).trans (List.Perm.cons _ ((List.Perm.swap ..).trans (List.Perm.cons _ ?_)));rw [Zbk];exact List.perm_middle.symm
theorem qaj {α:Type} {l e:List α} {c:Nat} {q:α} (hle:e.length=l.length) (hq:e[c]? = some q):(e.take c++l.drop c).set c q=e.take (c+1)++l.drop (c+1):=by
 have hc:=(List.getElem?_eq_some_iff.1 hq).1;rw [Zay (show c<l.length by omega),gQ (by rw [Zau];omega),Zas,hq];simp
theorem qeh {α:Type} {l e:List α} {c:Nat} {q:α} (hle:e.length=l.length) (hq:l[c]? = some q):(e.take c++l.drop c)[c]? = some q:=by
 have hc:=(List.getElem?_eq_some_iff.1 hq).1;rw [List.getElem?_append_right (by rw [Zau];omega),Zau,List.getElem?_drop,show c+(c-min c e.length)=c by omega];exact hq
theorem p6:∀ (l:List Int) (q:List Rat) (j:Nat),(at' q j=0\/at' q j=1)->at' (l.foldl (fun q c=>q.set c.toNat 1) q) j=0\/at' (l.foldl (fun q c=>q.set c.toNat 1) q) j=1
 | [],_,_,h=>h
 | c::l,q,j,h=>by
  rw [Zdv];refine p6 l _ j ?_;by_cases e:c.toNat=j
  ·by_cases hj:j<q.length
   ·right;rw [at',Zaa,e,List.getElem?_set_self hj];rfl
   ·left;exact kH (by rw [Zbp];omega)
  ·rw [at',Zaa,List.getElem?_set_ne e,<- Zaa];exact h
theorem zep (n:Nat) (l:List Int) (j:Nat):at' (fZ n l) j=0\/at' (fZ n l) j=1:=by
 refine p6 l _ j (.inl ?_);by_cases hj:j<n
 ·rw [at',Zaa,List.getElem?_replicate,if_pos hj];rfl
 ·exact kH (by rw [Zba];omega)
def aO (n:Nat) (lines:List (List Int)) (i:Nat):List Rat:=gG 1 (fZ n (lines.getD i [])) (fZ n (lines.getD 0 []))
theorem pN (n:Nat) (lines:List (List Int)) (i:Nat):(aO n lines i).length=n:=by unfold aO;rw [gU (by rw [jT,jT]),jT]
theorem bI (n:Nat) (lines:List (List Int)) (i j:Nat):Sg (at' (aO n lines i) j):=by
 unfold aO;rw [jS (by rw [jT,jT])];rcases zep n (lines.getD i []) j with e | e <;> rcases zep n (lines.getD 0 []) j with f | f <;> rw [e,f]
 ·right;left;grind
 ·left;grind
 ·right;right;grind
 ·right;left;grind
def Mgf (n:Nat) (lines:List (List Int)) (f:List Rat):Prop:=f.length=n/\∀ l∈lines,dot (fZ n l) f=dot (fZ n (lines.getD 0 [])) f
theorem zso {n:Nat} {lines:List (List Int)} {f:List Rat} (h:Mgf n lines f) {i:Nat} (hi:i<lines.length):dot (aO n lines i) f=0:=by
 unfold aO;rw [uY _ _ _ _ (by rw [jT,jT]),h.2 _ (jY hi)];grind
theorem pP {n:Nat} {f:List Rat}:∀ (l:List (List Rat×Nat)) (r:List Rat),(∀ x∈l,x.1.length=n/\dot x.1 f=0)->r.length=n->dot (aG l r) f=dot r f
 | [],r,_,_=>rfl
 |(q,p)::l,r,h,hr=>by
  obtain ⟨h1,h2⟩:=h (q,p) (Zal ..);have hl:r.length=q.length:=by rw [hr];exact h1.symm
  rw [aG,pP l _ (fun x hx=>h x (Zat _ hx)) (by rw [gU hl];exact hr),uY _ _ _ _ hl];have h2:dot q f=0:=h2;rw [h2];grind
end Go.Ev
namespace Go.Ev
open Go Go.Proofs
variable {B:Nat}
set_option maxRecDepth 100000
theorem zsp {h0 h:T Blk} {nx p:Pa} {L:List Ob} {k x:Nat} {o:Option Pa} {l:List Nat} {K:Kw Prop} (H:Hp h0 h nx L) (hk:L[k]? = some (.gro o 1 l.length (l.map fun p=>I ((p:Nat):Int)))) (hl:l.length<=1000) (hK:∀ z:Int,(0<=z↔x∈l)->K (I z) h nx=.ok True):(CS Tryz.prog B).fn 265 p [ve o 1 l.length,I (x:Int)] h nx K=.ok True:=by
 refine zQ zW yX 2000 fun hf => ?_;rw [jm.go,jm.t22,zA,jm.jk,zA,zA,jm.ji,H.zbr hk,zL];refine jm.zoo (fun m x5 h' nx'=>∃ i:Nat,x5=I (i:Int)/\m+i=l.length/\x∉l.take i/\h'=h/\nx'=nx) (m:=l.length) (by omega) ⟨0,rfl,rfl,by simp,rfl,rfl⟩ ?_;rintro m z2 z3 z5 z6 z7 h3 nx3 R ⟨i,rfl,hm,hn,rfl,rfl⟩ hR;rw [jm.t15,zA,jm.qh,uf,zA,zB,jm.v6];by_cases ci:i<l.length
 ·have hx:l[i]? = some l[i]:=List.getElem?_eq_getElem ci;obtain ⟨id,g,d⟩:=H.zcz hk (j:=i) (v:=I ((l[i]:Nat):Int)) (by rw [List.getElem?_map,hx];rfl);rw [Zac (by omega),zE,zF,zA,zL,zA,jm.ny,zA,jm.bV,g,d,dm,zB,jm.v7];by_cases e:x=l[i]
  ·rw [Zac (by omega),zE,zA,jm.bf];simp only [zK,uC,zR];rw [jm.ret];exact hK _ ⟨fun _=>e ▸ Zbb ci,fun _=>by omega⟩
  ·rw [Zab (by omega),zC,zF,jm.nS,gu (by omega)];refine hR (m-1) _ _ _ _ _ _ _ (by omega) ⟨i+1,by congr 1,by omega,?_,rfl,rfl⟩;rw [Zas,hx,Zcn,Zbf,Zbj];exact fun q=>q.elim hn e
 ·rw [Zab (by omega),zC,zX,yF,zA,jm.sV];simp only [zK,zR];rw [jm.ret];rw [Zae (by omega)] at hn;exact hK _ ⟨fun q=>by omega,fun q=>absurd q hn⟩
theorem zv2 {h0 h:T Blk} {nx p:Pa} {L:List Ob} {k x:Nat} {o:Option Pa} {l:List Nat} {K:Kw Prop} (H:Hp h0 h nx L) (hk:L[k]? = some (.gro o 1 l.length (l.map fun p=>I ((p:Nat):Int)))) (hl:l.length<=1000) (hK:K (.bool (decide (x∈l))) h nx=.ok True):(CS Tryz.prog B).fn 186 p [ve o 1 l.length,I (x:Int)] h nx K=.ok True:=by
 refine zQ zW yX 2000 fun hf => ?_;rw [fF.go,fF.t3,zA,fF.jk,zA,fF.ji];refine zsp H hk hl fun z hz => ?_;rw [bT];simp only [zK,zR];rw [fF.ret];have:decide (0<=z)=decide (x∈l):=decide_eq_decide.2 hz;rw [this];exact hK
def oG (c:Nat):List (List Rat×Nat)->List Rat->List Rat
 | [],b=>b
 |(q,p)::l,b=>oG c l (b.set p (-at' q c))
theorem zde (c:Nat) (q:List Rat) (p:Nat):∀ (l:List (List Rat×Nat)) (b:List Rat),oG c (l++[(q,p)]) b=(oG c l b).set p (-at' q c)
 | [],b=>rfl
 |(q',p')::l,b=>by rw [Zco,oG,zde c q p l,oG]
theorem mH (c:Nat):∀ (l:List (List Rat×Nat)) (b:List Rat),(oG c l b).length=b.length
 | [],_=>rfl
 |(q,p)::l,b=>by rw [oG,mH c l,Zbp]
def wA (n c:Nat):List Rat:=(List.replicate n 0).set c 1
def au (n:Nat) (Q:List (List Rat)) (ps:List Nat) (c:Nat):List Rat:=oG c (sQ Q ps) (wA n c)
theorem wR (n c:Nat):(wA n c).length=n:=by unfold wA;rw [Zbp,Zba]
theorem zb9 (n:Nat) (Q:List (List Rat)) (ps:List Nat) (c:Nat):(au n Q ps c).length=n:=by unfold au;rw [mH,wR]
theorem zkw (c j:Nat) {P:Rat->Prop}:∀ (l:List (List Rat×Nat)) (b:List Rat),(∀ x∈l,P (-at' x.1 c))->P (at' b j)->P (at' (oG c l b) j)
 | [],_,_,h=>h
 |(q,p)::l,b,hl,h=>by
  rw [oG];refine zkw c j l _ (fun x hx=>hl x (Zat _ hx)) ?_;by_cases e:p=j
  ·by_cases hj:j<b.length
   ·rw [at',Zaa,e,List.getElem?_set_self hj];exact hl (q,p) (Zal ..)
   ·rw [kH (by rw [Zbp];omega)]
    rwa [kH (by omega)] at h
  ·rw [at',Zaa,List.getElem?_set_ne e,<- Zaa];exact h
theorem zsq (n c j:Nat):at' (wA n c) j=0\/at' (wA n c) j=1:=by
 unfold wA;by_cases e:c=j
 ·by_cases hj:j<n
  ·right;rw [at',Zaa,e,List.getElem?_set_self (by rw [Zba];exact hj)];rfl
  ·left;exact kH (by rw [Zbp,Zba];omega)
 ·left
  rw [at',Zaa,List.getElem?_set_ne e];by_cases hj:j<n
  ·rw [List.getElem?_replicate,if_pos hj];rfl
  ·rw [List.getElem?_eq_none (by rw [Zba];omega)];rfl
theorem Dn.neg {t M:Nat} {q:Rat} (h:Dn t M q):Dn t M (-q):=by
 obtain ⟨z,e,hz⟩:=h;exact ⟨-z,by rw [Zdh];grind,by omega⟩
theorem bN:∀ (b g:List Rat) (p:Nat) (x:Rat),p<b.length->b.length=g.length->dot (b.set p x) g=dot b g+(x-at' b p)*at' g p
 | [],_,p,x,h,_=>by simp at h
 | y::b,[],p,x,h,h2=>by simp at h2
 | y::b,z::g,0,x,_,_=>by
  rw [Zbq,dot,dot];show _=_+(x-y)*z
  grind
 | y::b,z::g,p+1,x,h,h2=>by
  have ih:=bN b g p x (by simpa using h) (by simpa using h2);rw [Zey,dot,dot,ih];show _=_+(x-at' b p)*at' g p
  grind
def oO (c:Nat) (g:List Rat):List (List Rat×Nat)->Rat
 | []=>0
 |(q,p)::l=>at' g p*at' q c+oO c g l
theorem zi4 {b:List Rat} {p j:Nat} {x:Rat} (h:p≠j):at' (b.set p x) j=at' b j:=by
 rw [at',Zaa,List.getElem?_set_ne h,<- Zaa]
theorem zca {n c:Nat} {g:List Rat} (hg:g.length=n):∀ (l:List (List Rat×Nat)) (b:List Rat),b.length=n->(l.map (·.2)).Nodup->(∀ x∈l,x.2<n/\at' b x.2=0)->dot (oG c l b) g=dot b g-oO c g l
 | [],b,_,_,_=>by rw [oG,oO];grind
 |(q,p)::l,b,hb,hd,hz=>by
  obtain ⟨h1,h2⟩:=hz (q,p) (Zal ..);have h1:p<n:=h1;have h2:at' b p=0:=h2;rw [Zbt,Zef] at hd;rw [oG,zca hg l _ (by rw [Zbp];exact hb) hd.2 (fun x hx => ?_),bN _ _ _ _ (by omega) (by omega),h2,oO]
  ·grind
  ·obtain ⟨h3,h4⟩:=hz x (Zat _ hx);refine ⟨h3,?_⟩;rw [zi4 (fun e=>hd.1 (List.mem_map.2 ⟨x,hx,e.symm⟩))];exact h4
end Go.Ev
namespace Go.Ev
open Go Go.Proofs
theorem j8:∀ (a b:List Rat),dot a b=dot b a
 | [],[]=>rfl
 | [],_::_=>rfl
 | _::_,[]=>rfl
 | x::a,y::b=>by rw [dot,dot,j8 a b];grind
theorem vM:∀ (r f:List Rat),(∀ j,at' r j=0)->dot r f=0
 | [],_,_=>by cases ‹List Rat› <;> rfl
 | x::r,[],_=>rfl
 | x::r,y::f,h=>by
  have h0:x=0:=h 0;rw [dot,vM r f fun j=>h (j+1),h0];grind
theorem zcb (n j:Nat):at' (List.replicate n (0:Rat)) j=0:=by
 by_cases hj:j<n
 ·rw [at',Zaa,List.getElem?_replicate,if_pos hj];rfl
 ·exact kH (by rw [Zba];omega)
theorem zgp {n c:Nat} {g:List Rat} (hg:g.length=n) (hc:c<n):dot (wA n c) g=at' g c:=by
 unfold wA;rw [bN _ _ _ _ (by rw [Zba];exact hc) (by rw [Zba];exact hg.symm),zcb,vM _ _ (zcb n)];grind
theorem zkx {n c j:Nat} (h:j≠c):at' (wA n c) j=0:=by
 unfold wA;rw [zi4 (fun e=>h e.symm),zcb]
theorem vS (c:Nat) (g:List Rat) (q:List Rat) (p:Nat):∀ l:List (List Rat×Nat),oO c g (l++[(q,p)])=oO c g l+at' g p*at' q c
 | []=>by simp only [Zcs,oO];grind
 |(q',p')::l=>by rw [Zco,oO,oO,vS c g q p l];grind
structure RkG (n:Nat) (Q:List (List Rat)) (ps:List Nat) (g:List Rat) (k:Nat) (r:List Rat):Prop where
 eq:r=aG ((sQ Q ps).take k) g
 len:r.length=n
 val:∀ c,at' r c=at' g c-oO c g ((sQ Q ps).take k)
 late:∀ b,k<=b->b<Q.length->at' r (ps.getD b 0)=at' g (ps.getD b 0)
 done:∀ b,b<k->b<Q.length->at' r (ps.getD b 0)=0
theorem RkG.all {n t M:Nat} {Q:List (List Rat)} {ps:List Nat} {g:List Rat} (hS:St n t M Q ps) (hg:g.length=n):∀ k,k<=Q.length->RkG n Q ps g k (aG ((sQ Q ps).take k) g)
 | 0,_=>⟨rfl,hg,fun c=>by rw [Zdy,aG,oO];grind,fun b _ _=>rfl,fun b h=>by omega⟩
 | k+1,hk=>by
  have h:=RkG.all hS hg k (by omega);have hk':k<Q.length:=by omega
  have hq:=jY (d:=[]) hk';have hll:(aG ((sQ Q ps).take k) g).length=(Q.getD k []).length:=by rw [h.len,hS.row _ hq]
  have hl:=h.late k (Zaf _) hk';refine ⟨rfl,?_,fun c => ?_,fun b h1 h2 => ?_,fun b h1 h2 => ?_⟩
  ·rw [uF hS.len hk',gS,gU hll];exact h.len
  ·rw [uF hS.len hk',gS,jS hll,h.val c,vS,hl];grind
  ·rw [uF hS.len hk',gS,jS hll,hS.one k b hk' h2,if_neg (by omega),h.late b (by omega) h2];grind
  ·rw [uF hS.len hk',gS,jS hll,hS.one k b hk' h2];by_cases e:b=k
   ·subst e;rw [if_pos rfl];grind
   ·rw [if_neg (by omega),h.done b (by omega) h2];grind
theorem St.nodup {n t M:Nat} {Q:List (List Rat)} {ps:List Nat} (hS:St n t M Q ps):ps.Nodup:=by
 rw [Zeq,Zex];intro a b ha hb hab e;have ha':a<Q.length:=by have:=hS.len;omega
 have hb':b<Q.length:=by have:=hS.len;omega
 have h1:=hS.one a a ha' ha';have h2:=hS.one a b ha' hb';have e1:ps.getD a 0=ps[a]:=by rw [Zaa,List.getElem?_eq_getElem ha];rfl
 have e2:ps.getD b 0=ps[b]:=by rw [Zaa,List.getElem?_eq_getElem hb];rfl
 rw [if_pos rfl,e1] at h1;rw [if_neg (by omega),e2,<- e,h1] at h2;exact absurd h2 (by decide)
theorem zky {Q:List (List Rat)} {ps:List Nat} (h:ps.length=Q.length):(sQ Q ps).map (·.2)=ps:=by
 exact List.map_snd_zip (by omega)
theorem zm3 (l:List Rat):∀ (a:Rat),l.foldl (· + ·) a=a+dot l (List.replicate l.length 1):=by
 induction l with
 | nil=>intro a;rw [List.foldl_nil];show a=a+0;grind
 | cons x l ih=>intro a;rw [Zdv,ih,Zbx,Zcb,dot];grind
theorem zeq {n:Nat} {l:List Int} {c:Int} {b:List Rat} (hb:b.length=n) (hc:0<=c/\c<(n:Int)) (hn:c∉l) (hl:∀ x∈l,0<=x):dot (fZ n (l++[c])) b=dot (fZ n l) b+at' b c.toNat:=by
 have hz:∀ (l:List Int) (q:List Rat),c∉l->(∀ x∈l,0<=x)->at' q c.toNat=0->at' (l.foldl (fun q c=>q.set c.toNat 1) q) c.toNat=0:=by
  intro l
  induction l with
  | nil=>intro q _ _ h;exact h
  | cons x l ih =>
   intro q hcl hx h;rw [Zdv];have hx0:=hx x (Zal ..);have hne:x≠c:=fun e=>hcl (by rw [e];exact Zal ..);refine ih _ (fun hm=>hcl (Zat _ hm)) (fun y hy=>hx y (Zat _ hy)) ?_;rw [zi4 (by omega)];exact h
 rw [zdd,bN _ _ _ _ (by rw [jT];omega) (by rw [jT];exact hb.symm)];have h0:at' (fZ n l) c.toNat=0:=hz l _ hn hl (zcb n _);rw [h0];grind
theorem zdf {α:Type} (p:α->Bool):∀ l:List α,l.length=(l.filter p).length+(l.filter fun x => !p x).length
 | []=>rfl
 | x::l=>by
  have:=zdf p l;cases h:p x <;> simp [h] <;> omega
theorem zkz {α:Type} (f:α->Nat) (M:Nat):∀ (K:Nat) (L:List α),(∀ x∈L,f x<K)->K*M<L.length->∃ v,M<(L.filter fun x=>decide (f x=v)).length
 | 0,[],_,h=>by simp at h
 | 0,x::L,h,_=>absurd (h x (Zal ..)) (by omega)
 | K+1,L,h,hl=>by
  by_cases c:M<(L.filter fun x=>decide (f x=K)).length
  ·exact ⟨K,c⟩
  ·have e:=zdf (fun x=>decide (f x=K)) L;rw [Zdu] at hl
   obtain ⟨v,hv⟩:=zkz f M K (L.filter fun x => !decide (f x=K)) (fun x hx=>by
    obtain ⟨h1,h2⟩:=List.mem_filter.1 hx;have h3:=h x h1;have h4:¬ f x=K:=by simpa using h2
    omega) (by omega)
   exact ⟨v,Zcx hv (List.Sublist.length_le (List.Sublist.filter _ List.filter_sublist))⟩
theorem zk0 {α:Type} (f:Nat->α->Nat) (K:Nat):∀ (r:Nat) (L:List α),L.Nodup->(∀ i,i<r->∀ x∈L,f i x<K)->K ^ r<L.length->∃ x∈L,∃ y∈L,x≠y/\∀ i,i<r->f i x=f i y
 | 0,[],_,_,h=>by simp at h
 | 0,[_],_,_,h=>by simp at h
 | 0,a::b::L,hn,_,_=>⟨a,by simp,b,by simp,fun e=>by subst e;simp at hn,fun i hi=>by omega⟩
 | r+1,L,hn,hf,h=>by
  rw [Zbg,Zaq] at h;obtain ⟨v,hv⟩:=zkz (f r) (K ^ r) K L (fun x hx=>hf r (by omega) x hx) h;obtain ⟨x,hx,y,hy,hne,he⟩:=zk0 f K r (L.filter fun x=>decide (f r x=v)) (hn.filter _) (fun i hi x hx=>hf i (by omega) x (List.mem_filter.1 hx).1) hv;obtain ⟨x1,x2⟩:=List.mem_filter.1 hx;obtain ⟨y1,y2⟩:=List.mem_filter.1 hy;refine ⟨x,x1,y,y1,hne,fun i hi => ?_⟩;by_cases c:i=r
  ·subst c;rw [of_decide_eq_true x2,of_decide_eq_true y2]
  ·exact he i (by omega)
theorem zk1 (D:Nat) (hD:1<=D):∀ (k m l:Nat),m<D ^ k->l<D ^ k->(∀ j,j<k->m / D ^ j%D=l / D ^ j%D)->m=l
 | 0,m,l,hm,hl,_=>by simp at hm hl;omega
 | k+1,m,l,hm,hl,h=>by
  have h0:=h 0 (by omega);rw [Nat.pow_zero,Nat.div_one,Nat.div_one] at h0;rw [Zbg] at hm hl;have ih:=zk1 D hD k (m / D) (l / D) (Zfq (by rw [Zaq];exact hm)) (Zfq (by rw [Zaq];exact hl)) fun j hj=>by
   have:=h (j+1) (by omega);rw [Zbg,Zaq,<- Nat.div_div_eq_div_mul,<- Nat.div_div_eq_div_mul] at this;exact this
  have e1:=Zdg m D;have e2:=Zdg l D;rw [ih,h0] at e1;omega
def sI:Nat->(Nat->Int)->Int
 | 0,_=>0
 | k+1,F=>sI k F+F k
theorem zgq {F G:Nat->Int}:∀ {k:Nat},(∀ j,j<k->F j=G j)->sI k F=sI k G
 | 0,_=>rfl
 | k+1,h=>by rw [sI,sI,zgq (k:=k) fun j hj=>h j (by omega),h k (by omega)]
theorem zsr (F G:Nat->Int):∀ k,sI k (fun j=>F j-G j)=sI k F-sI k G
 | 0=>rfl
 | k+1=>by rw [sI,sI,sI,zsr F G k];omega
theorem zya {F:Nat->Int} {B:Int}:∀ {k:Nat},(∀ j,j<k->0<=F j/\F j<=B)->0<=sI k F/\sI k F<=(k:Int)*B
 | 0,_=>by simp [sI]
 | k+1,h=>by
  have h1:=zya (k:=k) fun j hj=>h j (by omega);have h2:=h k (by omega);have e:((k+1:Nat):Int)*B=(k:Int)*B+B:=by rw [Int.natCast_add,Int.add_mul];simp
  rw [sI,e];omega
def SB (r:Nat):Nat:=(r+1) ^ r
theorem zi5 (r:Nat):1<=SB r:=Zee (by unfold SB;exact Nat.ne_of_gt (Zct (by omega)))
theorem qei (r:Nat):((r+1)*SB r+1) ^ r<(SB r+1) ^ (r+1):=by
 have h1:(r+1)*SB r+1<=(r+1)*(SB r+1):=by rw [Zax];omega
 have h2:=Nat.pow_le_pow_left h1 r;rw [Nat.mul_pow] at h2;have h3:(r+1) ^ r*(SB r+1) ^ r<(SB r+1) ^ (r+1):=by
  rw [Zbg,Zaq];exact Nat.mul_lt_mul_of_pos_left (Nat.lt_succ_self _) (Zct (by omega))
 omega
def shI (a:Int) (B:Int) (x:Int):Int:=if a = -1 then B-x else if a=1 then x else 0
theorem qak (r:Nat) (a:Nat->Nat->Int) (ha:∀ i j,a i j = -1\/a i j=0\/a i j=1):∃ x:Nat->Int,(∃ j,j<=r/\x j≠0)/\(∀ j,(x j).natAbs<=SB r)/\∀ i,i<r->sI (r+1) (fun j=>a i j*x j)=0:=by
 obtain ⟨dgt,hdg⟩:∃ dgt:Nat->Nat->Nat,dgt=fun m j=>m / (SB r+1) ^ j%(SB r+1):=⟨_,rfl⟩;have hdl:∀ m j,dgt m j<=SB r:=fun m j=>by
  rw [hdg];exact Nat.le_of_lt_succ (Zbl _ (by omega))
 have hsh:∀ b:Int,(b = -1\/b=0\/b=1)->∀ m j,0<=shI b (SB r) (dgt m j)/\shI b (SB r) (dgt m j)<=(SB r:Int):=fun b hb m j=>by
  have:=hdl m j;unfold shI;rcases hb with rfl | rfl | rfl
  ·rw [if_pos rfl];omega
  ·rw [if_neg (by decide),if_neg (by decide)];omega
  ·rw [if_neg (by decide),if_pos rfl];omega
 have hb:∀ i m,0<=sI (r+1) (fun j=>shI (a i j) (SB r) (dgt m j))/\sI (r+1) (fun j=>shI (a i j) (SB r) (dgt m j))<=((r+1:Nat):Int)*(SB r:Int):=fun i m=>zya fun j _=>hsh _ (ha i j) m j
 obtain ⟨m,hm,l,hl,hne,he⟩:=zk0 (fun i m=>(sI (r+1) (fun j=>shI (a i j) (SB r) (dgt m j))).toNat) ((r+1)*SB r+1) r (List.range ((SB r+1) ^ (r+1))) List.nodup_range (fun i _ m _=>by
  have h1:=hb i m;have e:((r+1:Nat):Int)*(SB r:Int)=(((r+1)*SB r:Nat):Int):=by rw [Zcr]
  rw [e] at h1;show Int.toNat _<_;omega) (by rw [Zfd];exact qei r)
 refine ⟨fun j=>(dgt m j:Int)-(dgt l j:Int),?_,fun j=>by have h1:=hdl m j;have h2:=hdl l j;show Int.natAbs ((dgt m j:Int)-(dgt l j:Int))<=_;omega,fun i hi => ?_⟩
 ·refine Classical.byContradiction fun c=>hne ?_;refine zk1 (SB r+1) (by omega) (r+1) m l (List.mem_range.1 hm) (List.mem_range.1 hl) fun j hj => ?_;refine Classical.byContradiction fun d=>c ⟨j,by omega,fun e=>d ?_⟩;have e':(dgt m j:Int)-(dgt l j:Int)=0:=e;rw [hdg] at e';have e2:((m / (SB r+1) ^ j%(SB r+1):Nat):Int)-((l / (SB r+1) ^ j%(SB r+1):Nat):Int)=0:=e';omega
 ·have h1:=he i hi;have b1:=hb i m;have b2:=hb i l;have h2:sI (r+1) (fun j=>shI (a i j) (SB r) (dgt m j))=sI (r+1) (fun j=>shI (a i j) (SB r) (dgt l j)):=by
   have h3:(sI (r+1) (fun j=>shI (a i j) (SB r) (dgt m j))).toNat=(sI (r+1) (fun j=>shI (a i j) (SB r) (dgt l j))).toNat:=h1;omega
  have h3:=zsr (fun j=>shI (a i j) (SB r) (dgt m j)) (fun j=>shI (a i j) (SB r) (dgt l j)) (r+1);rw [h2,Int.sub_self] at h3;rw [<- h3];refine zgq fun j _ => ?_;show a i j*((dgt m j:Int)-(dgt l j:Int))=shI (a i j) (SB r) (dgt m j)-shI (a i j) (SB r) (dgt l j);unfold shI;rcases ha i j with q | q | q
  ·rw [q,if_pos rfl,if_pos rfl];omega
  ·rw [q,if_neg (by decide),if_neg (by decide),if_neg (by decide),if_neg (by decide)];omega
  ·rw [q,if_neg (by decide),if_pos rfl,if_neg (by decide),if_pos rfl];omega
def sR:Nat->(Nat->Rat)->Rat
 | 0,_=>0
 | k+1,F=>sR k F+F k
theorem zcc {F G:Nat->Rat}:∀ {k:Nat},(∀ j,j<k->F j=G j)->sR k F=sR k G
 | 0,_=>rfl
 | k+1,h=>by rw [sR,sR,zcc (k:=k) fun j hj=>h j (by omega),h k (by omega)]
theorem zk2 (F:Nat->Int):∀ k,sR k (fun j=>(F j:Rat))=((sI k F:Int):Rat)
 | 0=>rfl
 | k+1=>by rw [sR,sI,zk2 F k,Zfr]
theorem zss (x:Nat->Rat) (i:Nat):∀ k,sR k (fun b=>(if i=b then 1 else 0)*x b)=if i<k then x i else 0
 | 0=>by rw [if_neg (by omega)];rfl
 | k+1=>by
  rw [sR,zss x i k];by_cases e:i=k
  ·subst e;rw [if_neg (by omega),if_pos rfl,if_pos (by omega)];grind
  ·rw [if_neg e];by_cases c:i<k
   ·rw [if_pos c,if_pos (by omega)];grind
   ·rw [if_neg c,if_neg (by omega)];grind
theorem zgr (y:Rat):∀ (o f:List Rat) (c:Nat),o.length=f.length->c<f.length->dot o (f.set c (at' f c+y))=dot o f+at' o c*y
 | [],[],c,_,h=>by simp at h
 | a::o,b::f,0,_,_=>by
  show dot (a::o) ((b+y)::f)=dot (a::o) (b::f)+a*y;rw [dot,dot];grind
 | a::o,b::f,c+1,h,hc=>by
  have ih:=zgr y o f c (by simpa using h) (by simpa using hc);show dot (a::o) (b::f.set c (at' f c+y))=dot (a::o) (b::f)+at' o c*y;rw [dot,dot,ih];grind
 | [],_::_,_,h,_=>by simp at h
 | _::_,[],_,h,_=>by simp at h
theorem zcd:∀ (o:List Rat) (n:Nat),dot o (List.replicate n 0)=0
 | [],_=>by cases ‹Nat› <;> rfl
 | a::o,0=>rfl
 | a::o,n+1=>by rw [Zcb,dot,zcd o n];grind
def plF (n:Nat) (c:Nat->Nat) (x:Nat->Rat):Nat->List Rat
 | 0=>List.replicate n 0
 | k+1=>(plF n c x k).set (c k) (at' (plF n c x k) (c k)+x k)
theorem bK {n:Nat} {c:Nat->Nat} {x:Nat->Rat}:∀ k,(plF n c x k).length=n
 | 0=>Zba
 | k+1=>by rw [plF,Zbp];exact bK k
theorem zer {n:Nat} {c:Nat->Nat} {x:Nat->Rat} {o:List Rat} (ho:o.length=n):∀ k,(∀ i,i<k->c i<n)->dot o (plF n c x k)=sR k fun i=>at' o (c i)*x i
 | 0,_=>zcd ..
 | k+1,h=>by rw [plF,zgr _ _ _ _ (by rw [bK];exact ho) (by rw [bK];exact h k (by omega)),zer ho k fun i hi=>h i (by omega),sR]
structure Sv (n:Nat) (O Q:List (List Rat)) (ps:List Nat):Prop where
 len:ps.length=Q.length
 olen:O.length=Q.length
 row:∀ q∈Q,q.length=n
 orow:∀ o∈O,o.length=n
 osg:∀ o∈O,∀ j,Sg (at' o j)
 rng:∀ p∈ps,p<n
 one:∀ a b,a<Q.length->b<Q.length->at' (Q.getD a []) (ps.getD b 0)=if a=b then 1 else 0
 ker:∀ f:List Rat,f.length=n->(∀ o∈O,dot o f=0)->∀ q∈Q,dot q f=0
 tri:∀ a,a<Q.length->∀ b,ps.getD a 0<b->at' (Q.getD a []) b=0
theorem Sv.nil (n:Nat):Sv n [] [] []:=⟨rfl,rfl,by simp,by simp,by simp,by simp,fun a b h=>by simp at h,by simp,fun a h=>by simp at h⟩
def sgI (q:Rat):Int:=if q = -1 then -1 else if q=1 then 1 else 0
theorem Sg.int {q:Rat} (h:Sg q):(sgI q:Rat)=q:=by
 unfold sgI;rcases h with rfl | rfl | rfl
 ·rw [if_pos rfl];rfl
 ·rw [if_neg (by decide),if_neg (by decide)];rfl
 ·rw [if_neg (by decide),if_pos rfl];rfl
theorem qal (q:Rat):sgI q = -1\/sgI q=0\/sgI q=1:=by
 unfold sgI;split
 ·exact .inl rfl
 ·split
  ·exact .inr (.inr rfl)
  ·exact .inr (.inl rfl)
theorem Sv.col {n:Nat} {O Q:List (List Rat)} {ps:List Nat} (h:Sv n O Q ps) (j:Nat):∃ t,1<=t/\t<=SB Q.length/\∀ q∈Q,Dn t (SB Q.length) (at' q j):=by
 rcases Zdr j n with hj | hj
 case inr =>
  refine ⟨1,Zaf _,zi5 _,fun q hq => ?_⟩;rw [kH (by rw [h.row q hq];exact hj)];exact Dn.zero _ _
 obtain ⟨c,hc⟩:∃ c:Nat->Nat,c=fun i=>if i<Q.length then ps.getD i 0 else j:=⟨_,rfl⟩
 obtain ⟨x,⟨b,hb,hb0⟩,hx,hz⟩:=qak Q.length (fun i k=>sgI (at' (O.getD i []) (c k))) fun i k=>qal _;have hcn:∀ i,i<Q.length+1->c i<n:=fun i _=>by
  rw [hc];show (if i<Q.length then ps.getD i 0 else j)<n;by_cases q:i<Q.length
  ·rw [if_pos q];exact h.rng _ (jY (by rw [h.len];exact q))
  ·rw [if_neg q];exact hj
 have hk:=h.ker (plF n c (fun i=>(x i:Rat)) (Q.length+1)) (bK _) fun o ho=>by
  obtain ⟨i,hi⟩:=List.mem_iff_getElem?.1 ho;have hil:=(List.getElem?_eq_some_iff.1 hi).1;have hio:O.getD i []=o:=by rw [Zaa,hi];rfl
  rw [zer (h.orow o ho) _ hcn];have:=hz i (by rw [<- h.olen];exact hil);rw [show (0:Rat)=((0:Int):Rat) from rfl,<- this,<- zk2];refine zcc fun k _ => ?_;rw [hio,Zcv,(h.osg o ho _).int]
 have hrow:∀ i,i<Q.length->(x i:Rat)+at' (Q.getD i []) j*(x Q.length:Rat)=0:=fun i hi=>by
  have hm:=jY (l:=Q) (d:=[]) hi;have e:=hk _ hm;rw [zer (h.row _ hm) _ hcn,sR] at e;have e2:sR Q.length (fun k=>at' (Q.getD i []) (c k)*(x k:Rat))=(x i:Rat):=by
   rw [zcc (G:=fun b=>(if i=b then 1 else 0)*(x b:Rat)) fun k hk => ?_,zss (fun b=>(x b:Rat)),if_pos hi];have:c k=ps.getD k 0:=by rw [hc];exact if_pos hk
   rw [this,h.one i k hi hk]
  rw [e2,show c Q.length=j by rw [hc];exact if_neg (Zed _)] at e;exact e
 have hxr:x Q.length≠0:=fun e=>by
  rcases Zdr b Q.length with q | q
  ·have:=hrow b q;rw [e,show ((0:Int):Rat)=0 from rfl,Zcp,Rat.add_zero] at this;exact zb8 hb0 this
  ·obtain rfl:b=Q.length:=by omega
   exact hb0 e
 refine ⟨(x Q.length).natAbs,by omega,hx _,fun q hq => ?_⟩;obtain ⟨i,hi⟩:=List.mem_iff_getElem?.1 hq;have hil:=(List.getElem?_eq_some_iff.1 hi).1;have hqi:Q.getD i []=q:=by rw [Zaa,hi];rfl
 have e:=hrow i hil;rw [hqi] at e;by_cases s:0<x Q.length
 ·refine ⟨-x i,?_,by rw [Zdb];exact hx i⟩;rw [show (((x Q.length).natAbs:Nat):Int)=x Q.length by omega,Zdh];grind
 ·refine ⟨x i,?_,hx i⟩;rw [show (((x Q.length).natAbs:Nat):Int) = -x Q.length by omega,Zdh];grind
theorem Sv.den {n:Nat} {O Q:List (List Rat)} {ps:List Nat} (h:Sv n O Q ps):∃ t:Nat->Nat,(∀ j,1<=t j/\t j<=SB Q.length)/\∀ q∈Q,∀ j,Dn (t j) (SB Q.length) (at' q j) :=
 ⟨fun j=>Classical.choose (h.col j),fun j=>⟨(Classical.choose_spec (h.col j)).1,(Classical.choose_spec (h.col j)).2.1⟩,fun q hq j=>(Classical.choose_spec (h.col j)).2.2 q hq⟩
theorem zk3 {a b:Nat} (h:a<=b):SB a<=SB b:=by
 unfold SB;exact Zbi (Nat.pow_le_pow_left (by omega) a) (Nat.pow_le_pow_right (by omega) h)
structure Rvq (n:Nat) (t:Nat->Nat) (M:Nat) (Q:List (List Rat)) (ps:List Nat) (r0:List Rat) (k:Nat) (r:List Rat):Prop where
 eq:r=aG ((sQ Q ps).take k) r0
 len:r.length=n
 den:∀ j,Dn (t j) (M+k*M) (at' r j)
 late:∀ b,k<=b->b<Q.length->at' r (ps.getD b 0)=at' r0 (ps.getD b 0)
 done:∀ b,b<k->b<Q.length->at' r (ps.getD b 0)=0
theorem Rvq.zero {n M:Nat} {t:Nat->Nat} {Q:List (List Rat)} {ps:List Nat} {r0:List Rat} (ht:∀ j,t j<=M) (hl:r0.length=n) (hs:∀ j,Sg (at' r0 j)):Rvq n t M Q ps r0 0 r0 :=
 ⟨rfl,hl,fun j=>(hs j).dn (by have:=ht j;omega),fun b _ _=>rfl,fun b h=>by omega⟩
theorem Rvq.next {n M k:Nat} {t:Nat->Nat} {O Q:List (List Rat)} {ps:List Nat} {r0 r:List Rat} (hS:Sv n O Q ps) (hd:∀ q∈Q,∀ j,Dn (t j) M (at' q j)) (hs:∀ j,Sg (at' r0 j)) (h:Rvq n t M Q ps r0 k r) (hk:k<Q.length):Rvq n t M Q ps r0 (k+1) (gG (at' r (ps.getD k 0)) r (Q.getD k [])):=by
 have hq:=jY (d:=[]) hk;have hql:=hS.row _ hq;have hll:r.length=(Q.getD k []).length:=by rw [h.len,hql]
 have hb:Sg (at' r (ps.getD k 0)):=by rw [h.late k (Zaf _) hk];exact hs _
 refine ⟨by rw [uF hS.len hk,gS,<- h.eq],by rw [gU hll];exact h.len,fun j => ?_,fun b h1 h2 => ?_,fun b h1 h2 => ?_⟩
 ·rw [jS hll];have:=(h.den j).sub (hb.mul (hd _ hq j));exact this.mono (by rw [Zam];omega)
 ·rw [jS hll,hS.one k b hk h2,if_neg (by omega),Zcp,h.late b (by omega) h2];grind
 ·rw [jS hll,hS.one k b hk h2];by_cases e:b=k
  ·subst e;rw [if_pos rfl,Rat.mul_one];grind
  ·rw [if_neg (by omega),Zcp,h.done b (by omega) h2];grind
theorem zv3 {t N:Nat} {v:Rat} (ht:1<=t) (hv:v≠0) (h:Dn t N v):∃ z:Nat,1<=z/\z<=N/\Dn z t v⁻¹/\∀ {s R:Nat} {x:Rat},Dn s R x->Dn (s*z) (R*t) (x*v⁻¹):=by
 obtain ⟨z,h1,h2,h3,_⟩:=zi3 ht hv h;exact ⟨z,h1,h2,h3,fun hx=>hx.mul h3⟩
structure Nv (n:Nat) (Q:List (List Rat)) (ps:List Nat) (p:Nat) (r:List Rat):Prop where
 len:r.length=n
 one:at' r p=1
 out:∀ b,b<Q.length->at' r (ps.getD b 0)=0
 p1:p<n
 tri:∀ b,p<b->at' r b=0
theorem Sv.next {n p:Nat} {O Q:List (List Rat)} {ps:List Nat} {r r0:List Rat} (hS:Sv n O Q ps) (h:Nv n Q ps p r) (hl0:r0.length=n) (hs0:∀ j,Sg (at' r0 j)) (hk:∀ f:List Rat,f.length=n->(∀ q∈Q,dot q f=0)->dot r0 f=0->dot r f=0):Sv n (O++[r0]) (uU Q p r++[r]) (ps++[p]):=by
 have hnl:(uU Q p r).length=Q.length:=by unfold uU;rw [Zaz]
 refine ⟨by rw [Zan,Zan,hnl,hS.len];rfl,by rw [Zan,Zan,hnl,hS.olen];rfl,fun q hq => ?_,fun o ho => ?_,fun o ho => ?_,fun x hx => ?_,fun a b ha hb => ?_,fun f hf ho q hq => ?_,fun a ha b hb => ?_⟩
 ·rcases List.mem_append.1 hq with hq | hq
  ·obtain ⟨o,ho,rfl⟩:=List.mem_map.1 hq;rw [gU (by rw [hS.row o ho,h.len])];exact hS.row o ho
  ·obtain rfl:=List.mem_singleton.1 hq;exact h.len
 ·rcases List.mem_append.1 ho with ho | ho
  ·exact hS.orow o ho
  ·obtain rfl:=List.mem_singleton.1 ho;exact hl0
 ·rcases List.mem_append.1 ho with ho | ho
  ·exact hS.osg o ho
  ·obtain rfl:=List.mem_singleton.1 ho;exact hs0
 ·rcases List.mem_append.1 hx with hx | hx
  ·exact hS.rng x hx
  ·obtain rfl:=List.mem_singleton.1 hx;exact h.p1
 ·rw [Zan,hnl,Zcq] at ha hb;have eb:(ps++[p]).getD b 0=if b<Q.length then ps.getD b 0 else p:=by
   by_cases c:b<Q.length
   ·rw [if_pos c,Zaa,List.getElem?_append_left (by rw [hS.len];exact c),<- Zaa]
   ·rw [if_neg c,Zaa,List.getElem?_append_right (by rw [hS.len];omega),hS.len,show b-Q.length=0 by omega];rfl
  have ea:(uU Q p r++[r]).getD a []=if a<Q.length then gG (at' (Q.getD a []) p) (Q.getD a []) r else r:=by
   by_cases c:a<Q.length
   ·rw [if_pos c,Zaa,List.getElem?_append_left (by rw [hnl];exact c),uU,List.getElem?_map,kK (d:=[]) c];rfl
   ·rw [if_neg c,Zaa,List.getElem?_append_right (by rw [hnl];omega),hnl,show a-Q.length=0 by omega];rfl
  rw [ea,eb];by_cases c1:a<Q.length
  ·have hl:(Q.getD a []).length=r.length:=by rw [hS.row _ (jY c1),h.len]
   rw [if_pos c1,jS hl];by_cases c2:b<Q.length
   ·rw [if_pos c2,h.out b c2,hS.one a b c1 c2,Zcp];grind
   ·rw [if_neg c2,h.one,if_neg (by omega)];grind
  ·rw [if_neg c1];by_cases c2:b<Q.length
   ·rw [if_pos c2,h.out b c2,if_neg (by omega)]
   ·rw [if_neg c2,h.one,if_pos (by omega)]
 ·have hQ:=hS.ker f hf fun o h1=>ho o (Zdp _ h1);have hr:=hk f hf hQ (ho r0 (by simp));rcases List.mem_append.1 hq with hq | hq
  ·obtain ⟨o,h1,rfl⟩:=List.mem_map.1 hq;rw [uY _ _ _ _ (by rw [hS.row o h1,h.len]),hQ o h1,hr,Zcp];grind
  ·obtain rfl:=List.mem_singleton.1 hq;exact hr
 ·rw [Zan,hnl,Zcq] at ha;by_cases c1:a<Q.length
  ·have eb:(ps++[p]).getD a 0=ps.getD a 0:=by
    rw [Zaa,List.getElem?_append_left (by rw [hS.len];exact c1),<- Zaa]
   have ea:(uU Q p r++[r]).getD a []=gG (at' (Q.getD a []) p) (Q.getD a []) r:=by
    rw [Zaa,List.getElem?_append_left (by rw [hnl];exact c1),uU,List.getElem?_map,kK (d:=[]) c1];rfl
   rw [eb] at hb;have hl:(Q.getD a []).length=r.length:=by rw [hS.row _ (jY c1),h.len]
   rw [ea,jS hl,hS.tri a c1 b hb];by_cases c2:p<b
   ·rw [h.tri b c2,Zcp];grind
   ·rw [hS.tri a c1 p (by omega),Zfa];grind
  ·obtain rfl:a=Q.length:=by omega
   have eb:(ps++[p]).getD Q.length 0=p:=by
    rw [Zaa,List.getElem?_append_right (by rw [hS.len];exact Zaf _),hS.len,Zdq];rfl
   have ea:(uU Q p r++[r]).getD Q.length []=r:=by
    rw [Zaa,List.getElem?_append_right (by rw [hnl];exact Zaf _),hnl,Zdq];rfl
   rw [eb] at hb;rw [ea];exact h.tri b hb
theorem fP {B:Nat}:dL Tryz.prog B Prop:=mB mixed
variable {B:Nat}
theorem zi6 {a b:List Int} (ha:a.length<=1000000000):Pure Tryz.prog B 32 [encI a,encI b] (· = .bool (decide (a=b))):=by
 intro p h nx K hK;refine zQ zW fP (a.length+2) fun hf => ?_;rw [F32.go];simp (disch:=omega) only [gu,vw,rG,dm,di,uf,nY,fJ,bT,zV,zT,zE,zC,yT,yS,jK,yM,jC,yJ,yH,uG,jW,jR,jV,zZ,jA,yN,zG,decide_true,decide_false,Zaj,Zak,jQ];by_cases hl:a.length=b.length
 ·simp only [hl,decide_true,Zaj,zC];refine F32.L2 (fun m z3 h' nx'=>∃ i:Nat,z3=I i/\m=a.length-i/\i<=a.length/\h'=h/\nx'=nx/\a.take i=b.take i) (m:=a.length) (by omega) ⟨0,rfl,by simp,by omega,rfl,rfl,by simp⟩ ?_;rintro m z2 z3 z5 z6 _ _ R ⟨i,rfl,rfl,hi,rfl,rfl,htk⟩ hR;simp (disch:=omega) only [gu,vw,rG,dm,di,uf,nY,fJ,bT,zV,zT,zE,zC,yT,yS,jK,yM,jC,yJ,yH,uG,jW,jR,jV,zZ,jA,yN,zG,decide_true,decide_false,Zaj,Zak,jQ];by_cases hlt:i<a.length
  ·have h1:(i:Int)<a.length:=by omega
   have hb:i<b.length:=by omega
   simp only [h1,decide_true,zE];rw [ni rfl hlt,ldL (tJ (List.getElem?_eq_getElem hlt)),ni rfl hb,ldL (tJ (List.getElem?_eq_getElem hb))];simp (disch:=omega) only [gu,vw,rG,dm,di,uf,nY,fJ,bT,zV,zT,zE,zC,yT,yS,jK,yM,jC,yJ,yH,uG,jW,jR,jV,zZ,jA,yN,zG,decide_true,decide_false,Zaj,Zak,jQ];by_cases he:a[i]=b[i]
   ·simp only [he,decide_true,Zaj,zC];refine hR (a.length-(i+1)) _ _ _ _ _ _ (by omega) ⟨i+1,rfl,rfl,by omega,rfl,rfl,?_⟩;rw [Zas,Zas,htk,List.getElem?_eq_getElem hlt,List.getElem?_eq_getElem hb,he]
   ·simp only [he,decide_false,Zak,zE];refine hK _ ?_ hf;rw [Zab];rintro rfl;exact he rfl
  ·have h1:¬ (i:Int)<a.length:=by omega
   simp only [h1,decide_false,zC];rw [F32.k9];refine hK _ ?_ hf;rw [Zae (by omega),Zae (by omega)] at htk;rw [Zac htk]
 ·have h1:¬ (a.length:Int)=b.length:=by omega
  simp only [h1,decide_false,Zak,zE];refine hK _ ?_ hf;rw [Zab];rintro rfl;exact hl rfl
end Go.Ev
namespace Go.Ev
open Go Go.Proofs
variable {B:Nat}
theorem vQ (b:Bool) (e:Int):Pure Tryz.prog B 64 [.bool b,I e] (· = I (if b then e else 0)):=by
 intro p h nx K hK;refine zQ zW fP 9 fun hf => ?_;rw [F64.go];cases b <;> simp (disch:=omega) only [gu,vw,rG,dm,di,uf,nY,fJ,bT,zV,zT,zE,zC,yT,yS,jK,yM,jC,yJ,yH,uG,jW,jR,jV,zZ,jA,yN,zG,decide_true,decide_false,Zaj,Zak,jQ] <;> exact hK _ rfl hf
def kD:List Int->Int
 | []=>0
 | e::l=>if e≠0 then e else kD l
theorem vJ:∀ (l:List Int) (i:Nat),(∀ e∈l.take i,e=0)->kD l=kD (l.drop i)
 | l,0,_=>rfl
 | [],_+1,_=>rfl
 | e::l,i+1,h=>by
  have h0:e=0:=h e (by simp);rw [kD,if_neg (by simp [h0]),List.drop_succ_cons];exact vJ l i fun x hx=>h x (by simp [hx])
theorem zce {l:List Int} (hl:l.length<=1000000):Pure Tryz.prog B 63 [encI l] (· = I (kD l)):=by
 intro p h nx K hK;refine zQ zW fP 10000000 fun hf => ?_;rw [F63.go];simp (disch:=omega) only [gu,vw,rG,dm,di,uf,nY,fJ,bT,zV,zT,zE,zC,yT,yS,jK,yM,jC,yJ,yH,uG,jW,jR,jV,zZ,jA,yN,zG,decide_true,decide_false,Zaj,Zak,jQ];refine F63.L1 (fun m z5 h' nx'=>∃ i:Nat,z5=I i/\l.length-i=m/\i<=l.length/\h'=h/\nx'=nx/\∀ e∈l.take i,e=0) (m:=l.length) (by omega) ⟨0,rfl,rfl,by omega,rfl,rfl,by simp⟩ ?_;rintro m z1 z2 z5 z6 z7 _ _ R ⟨i,rfl,rfl,hi,rfl,rfl,htk⟩ hR;simp (disch:=omega) only [gu,vw,rG,dm,di,uf,nY,fJ,bT,zV,zT,zE,zC,yT,yS,jK,yM,jC,yJ,yH,uG,jW,jR,jV,zZ,jA,yN,zG,decide_true,decide_false,Zaj,Zak,jQ];by_cases hlt:i<l.length
 ·simp only [show (i:Int)<(l.length:Int) by omega,decide_true,zE];have hx:l[i]? = some l[i]:=List.getElem?_eq_getElem hlt;rw [ni rfl hlt,ldL (tJ hx)];simp (disch:=omega) only [gu,vw,rG,dm,di,uf,nY,fJ,bT,zV,zT,zE,zC,yT,yS,jK,yM,jC,yJ,yH,uG,jW,jR,jV,zZ,jA,yN,zG,decide_true,decide_false,Zaj,Zak,jQ];have hd:l.drop i=l[i]::l.drop (i+1):=Zay hlt;by_cases h0:l[i]=0
  ·simp only [h0,decide_true,Zaj,zC];refine hR _ _ _ _ _ _ _ _ (by omega) ⟨i+1,rfl,rfl,by omega,rfl,rfl,fun e he => ?_⟩;rw [Zas,hx] at he;rcases List.mem_append.1 he with q | q
   ·exact htk e q
   ·simp at q;rw [q];exact h0
  ·simp only [h0,decide_false,Zak,zE];refine hK _ ?_ hf;rw [vJ l i htk,hd,kD,if_pos h0]
 ·simp only [show ¬ (i:Int)<(l.length:Int) by omega,decide_false,zC];rw [F63.k8];refine hK _ ?_ hf;rw [vJ l i htk,Zcf (by omega)];rfl
theorem zst {a b:List Int} (ha:a.length<=1000000000):Pure Tryz.prog B 113 [encI a,encI b] (· = .bool (decide (a=b))):=by
 intro p h nx K hK;refine zQ zW fP (a.length+2) fun hf => ?_;rw [qp.go];simp (disch:=omega) only [gu,vw,rG,dm,di,uf,nY,fJ,bT,zV,zT,zE,zC,yT,yS,jK,yM,jC,yJ,yH,uG,jW,jR,jV,zZ,jA,yN,zG,decide_true,decide_false,Zaj,Zak,jQ];by_cases hl:a.length=b.length
 ·simp only [hl,decide_true,Zaj,zC];refine qp.L2 (fun m z6 h' nx'=>∃ i:Nat,z6=I i/\a.length-i=m/\i<=a.length/\h'=h/\nx'=nx/\a.take i=b.take i) (m:=a.length) (by omega) ⟨0,rfl,by simp,by omega,rfl,rfl,by simp⟩ ?_;rintro m z2 z3 z6 z7 z8 _ _ R ⟨i,rfl,rfl,hi,rfl,rfl,htk⟩ hR;simp (disch:=omega) only [gu,vw,rG,dm,di,uf,nY,fJ,bT,zV,zT,zE,zC,yT,yS,jK,yM,jC,yJ,yH,uG,jW,jR,jV,zZ,jA,yN,zG,decide_true,decide_false,Zaj,Zak,jQ];by_cases hlt:i<a.length
  ·have hb:i<b.length:=by omega
   simp only [show (i:Int)<(b.length:Int) by omega,decide_true,zE];rw [ni rfl hlt,ldL (tJ (List.getElem?_eq_getElem hlt)),ni rfl hb,ldL (tJ (List.getElem?_eq_getElem hb))];simp (disch:=omega) only [gu,vw,rG,dm,di,uf,nY,fJ,bT,zV,zT,zE,zC,yT,yS,jK,yM,jC,yJ,yH,uG,jW,jR,jV,zZ,jA,yN,zG,decide_true,decide_false,Zaj,Zak,jQ];by_cases he:a[i]=b[i]
   ·simp only [he,decide_true,Zaj,zC];refine hR (a.length-(i+1)) _ _ _ _ _ _ _ (by omega) ⟨i+1,rfl,rfl,by omega,rfl,rfl,?_⟩;rw [Zas,Zas,htk,List.getElem?_eq_getElem hlt,List.getElem?_eq_getElem hb,he]
   ·simp only [he,decide_false,Zak,zE];refine hK _ ?_ hf;rw [Zab];rintro rfl;exact he rfl
  ·simp only [show ¬ (i:Int)<(b.length:Int) by omega,decide_false,zC];rw [qp.k9];refine hK _ ?_ hf;rw [Zae (by omega),Zae (by omega)] at htk;rw [Zac htk]
 ·have h1:¬ (a.length:Int)=b.length:=by omega
  simp only [h1,decide_false,Zak,zE];refine hK _ ?_ hf;rw [Zab];rintro rfl;exact hl rfl
theorem zgs {h0 h:T Blk} {nx:Pa} {L:List Ob} {k:Nat} {x p:Pa} {l:List Int} {prev:List (List Int)} {K:Kw Prop} (H:Hp h0 h nx L) (hk:L[k]? = some (.arr x [encI l])) (hp:prev.length<=1000000) (hw:∀ q∈prev,q.length<=1000000)
  (hK:K (.bool (decide (l∈prev))) h nx=.ok True):(CS Tryz.prog B).fn 262 p [mg prev,.fn 263 (.of 263) [.ptr x 0]] h nx K=.ok True:=by
 refine gB (p:=.of 262) (K:=K) (zQ zW fP 9 fun hf => ?_) fun _ _ _ _ q=>q;rw [aQ.go];refine gB (p:=.of 330) (K:=fun v1 h2 n3=>zh .geq .int v1 (I 0) fun v4=>K v4 h2 n3) (zQ zW fP 10000000 fun hf => ?_) fun _ _ _ _ q=>q;rw [qm.go];simp (disch:=omega) only [gu,vw,rG,dm,di,uf,nY,fJ,bT,zV,zT,zE,zC,yT,yS,jK,yM,jC,yJ,yH,uG,jW,jR,jV,zZ,jA,yN,zG,decide_true,decide_false,Zaj,Zak,jQ];refine qm.L1 (fun m z5 h' nx'=>∃ i:Nat,z5=I i/\prev.length-i=m/\i<=prev.length/\h'=h/\nx'=nx/\l∉prev.take i) (m:=prev.length) (by omega) ⟨0,rfl,rfl,by omega,rfl,rfl,by simp⟩ ?_;rintro m z2 z3 z5 z6 z7 _ _ R ⟨i,rfl,rfl,hi,rfl,rfl,htk⟩ hR;simp (disch:=omega) only [gu,vw,rG,dm,di,uf,nY,fJ,bT,zV,zT,zE,zC,yT,yS,jK,yM,jC,yJ,yH,uG,jW,jR,jV,zZ,jA,yN,zG,decide_true,decide_false,Zaj,Zak,jQ];by_cases hlt:i<prev.length
 ·simp only [show (i:Int)<(prev.length:Int) by omega,decide_true,zE];have hx:prev[i]? = some prev[i]:=List.getElem?_eq_getElem hlt;rw [ni rfl hlt,ldL (getT hx),zbp];refine gB (p:=.of 263) (zQ zW fP 9 fun hf => ?_) fun _ _ _ _ q=>q;show zS tbl 9 _ (Pa.of 263) [encI prev[i],.ptr x 0] _ _ _=_;rw [aP.go,H.load (k:=k) (i:=0) hk rfl];refine zst (Zbi (hw _ (Zbb hlt)) (by omega)) _ _ _ _ ?_;rintro _ rfl _;by_cases he:prev[i]=l
  ·simp only [he,decide_true,zE,bT,show (0:Int)<=(i:Int) by omega];rw [Zac (he ▸ Zbb hlt)] at hK;exact hK
  ·simp only [he,decide_false,zC];refine hR _ _ _ _ _ _ _ _ (by omega) ⟨i+1,rfl,rfl,by omega,rfl,rfl,fun q => ?_⟩;rw [Zas,hx] at q;rcases List.mem_append.1 q with q | q
   ·exact htk q
   ·simp at q;exact he q.symm
 ·simp only [show ¬ (i:Int)<(prev.length:Int) by omega,decide_false,zC];rw [qm.k8];rw [Zae (by omega)] at htk;rw [Zab htk] at hK;simp only [bT,show ¬ (0:Int) <= -1 by omega,decide_false];exact hK
def yY (cells:Int):Option Int->List Int->Int
 | _,[]=>0
 | p,c::l=>if c<0\/cells<=c then 10 else if p.any (fun q=>decide (c<=q)) then 11 else yY cells (some c) l
def jM (cells:Int) (prev:List (List Int)) (l:List Int):Int:=if l=[] then 12 else if yY cells none l≠0 then yY cells none l else if l∈prev then 9 else 0
def uH (cells:Int):List (List Int)->List (List Int)->Int
 | _,[]=>0
 | prev,l::r=>if jM cells prev l≠0 then jM cells prev l else uH cells (prev++[l]) r
def jI (cells:Int) (lines:List (List Int)):Int:=if cells<1\/256<cells then 3 else if 128<lines.length then 5 else uH cells [] lines
def pv (l:List Int) (k:Nat):Option Int:=if k=0 then none else l[k-1]?
theorem pR {l:List Int} {k:Nat} (h:k<l.length):pv l (k+1)=some l[k]:=by simp [pv,h]
theorem zm4 {prev:List (List Int)} {l:List Int} (hp:prev.length<=1000000) (hw:∀ q∈prev,q.length<=1000000000):Pure Tryz.prog B 86 [mg prev,encI l] (· = .bool (decide (l∈prev))):=by
 intro p h nx K hK;refine zQ zW fP 10000000 fun hf => ?_;rw [F86.go];refine F86.L1 (fun m z3 h' nx'=>∃ i:Nat,z3=I i/\prev.length-i=m/\i<=prev.length/\h'=h/\nx'=nx/\l∉prev.take i) (m:=prev.length) (by omega) ⟨0,rfl,rfl,by omega,rfl,rfl,by simp⟩ ?_;rintro m z2 z3 z4 z5 _ _ R ⟨i,rfl,rfl,hi,rfl,rfl,htk⟩ hR;simp (disch:=omega) only [gu,vw,rG,dm,di,uf,nY,fJ,bT,zV,zT,zE,zC,yT,yS,jK,yM,jC,yJ,yH,uG,jW,jR,jV,zZ,jA,yN,zG,decide_true,decide_false,Zaj,Zak,jQ];by_cases hlt:i<prev.length
 ·simp only [show (i:Int)<(prev.length:Int) by omega,decide_true,zE];have hx:prev[i]? = some prev[i]:=List.getElem?_eq_getElem hlt;rw [ni rfl hlt,ldL (getT hx)];refine zi6 (hw _ (Zbb hlt)) _ _ _ _ ?_;rintro _ rfl _;by_cases he:prev[i]=l
  ·simp only [he,decide_true,zE];refine hK _ ?_ hf;rw [Zac (he ▸ Zbb hlt)]
  ·simp only [he,decide_false,zC];refine hR _ _ _ _ _ _ _ (by omega) ⟨i+1,rfl,rfl,by omega,rfl,rfl,fun q => ?_⟩;rw [Zas,hx] at q;rcases List.mem_append.1 q with q | q
   ·exact htk q
   ·simp at q;exact he q.symm
 ·simp only [show ¬ (i:Int)<(prev.length:Int) by omega,decide_false,zC];rw [F86.k8];rw [Zae (by omega)] at htk;refine hK _ ?_ hf;rw [Zab htk]
theorem zk4 {n i:Nat} {l:List AV} {op:AV->OP} (hn:1<=n) (hi:i<=n):kX 1 (.lst 1 n l) none (some (I (i:Int))) none op=op (.lst 1 i (l.take i)):=by
 show (bif Nat.beq 1 1&&Nat.ble 1 n then (match bnd (some (I (i:Int))) n n with | none=>Out.no 17 | some h=>match bnd none h 0 with | none=>.no 17 | some q=>op (.lst 1 (h-q) ((l.drop (q*1)).take ((h-q)*1)))) else .no 17)=_;rw [Zag hn];have:bnd (some (I (i:Int))) n n=some i:=by
  show (bif Nat.ble i n then some i else none)=_;rw [Zag hi];rfl
 rw [this];show op (.lst 1 (i-0) ((l.drop (0*1)).take ((i-0)*1)))=_;simp
theorem zsu {cells:Int} {lines:List (List Int)} (hw:∀ q∈lines,q.length<=1000000):Pure Tryz.prog B 20 [.agg [I cells,mg lines]] (· = I (jI cells lines)):=by
 refine yC fun h nx K H0 hK=>zQ zW fP 10000000 fun hf => ?_;rw [F20.go];refine H0.box (l:=[I cells,mg lines]) rfl fun bx h1 nx1 H1 => ?_;rw [sFx,H1.load (k:=0) (i:=0) rfl rfl];have ret:∀ v:Int,v=jI cells lines->K (I v) h1 nx1=.ok True:=fun v hv=>by rw [hv];exact hK _ _ _ _ _ H1 (yB rfl) rfl
 by_cases hc:cells<1\/256<cells
 ·have hv:(3:Int)=jI cells lines:=by rw [jI,if_pos hc]
  by_cases c1:cells<1
  ·simp only [uf,c1,decide_true,jK,zV,zE];exact ret 3 hv
  ·simp only [uf,c1,decide_false,yS];rw [sFx,H1.load (k:=0) (i:=0) rfl rfl];simp only [fJ,show (256:Int)<cells by omega,decide_true,zT,zE];exact ret 3 hv
 simp only [uf,show ¬ cells<1 by omega,decide_false,yS];rw [sFx,H1.load (k:=0) (i:=0) rfl rfl];simp only [fJ,show ¬ (256:Int)<cells by omega,decide_false,zT,zC];rw [sFx,H1.load (k:=0) (i:=0+1) rfl rfl];simp (disch:=omega) only [gu,vw,rG,dm,di,uf,nY,fJ,bT,zV,zT,zE,zC,yT,yS,jK,yM,jC,yJ,yH,uG,jW,jR,jV,zZ,jA,yN,zG,decide_true,decide_false,Zaj,Zak,jQ];by_cases hm:128<lines.length
 ·simp only [show (128:Int)<(lines.length:Int) by omega,decide_true,zE];exact ret 5 (by rw [jI,if_neg hc,if_pos hm])
 simp only [show ¬ (128:Int)<(lines.length:Int) by omega,decide_false,zC];have hs:jI cells lines=uH cells [] lines:=by rw [jI,if_neg hc,if_neg hm]
 refine F20.L3 (fun m z3 h' nx'=>∃ i:Nat,z3=I i/\lines.length-i=m/\i<=lines.length/\h'=h1/\nx'=nx1/\jI cells lines=uH cells (lines.take i) (lines.drop i)) (m:=lines.length) (by omega) ⟨0,rfl,rfl,by omega,rfl,rfl,by simpa using hs⟩ ?_;rintro m z2 z3 z4 z5 z8 z9 z10 z11 z12 z13 h1 nx1 R ⟨i,rfl,rfl,hi,rfl,rfl,he⟩ hR;rw [sFx,H1.load (k:=0) (i:=0+1) rfl rfl];simp (disch:=omega) only [gu,vw,rG,dm,di,uf,nY,fJ,bT,zV,zT,zE,zC,yT,yS,jK,yM,jC,yJ,yH,uG,jW,jR,jV,zZ,jA,yN,zG,decide_true,decide_false,Zaj,Zak,jQ];by_cases hlt:i<lines.length
 case neg =>
  simp only [show ¬ (i:Int)<(lines.length:Int) by omega,decide_false,zC];rw [F20.k20];exact ret 0 (by rw [he,Zcf (by omega)];rfl)
 simp only [show (i:Int)<(lines.length:Int) by omega,decide_true,zE];obtain ⟨l,hx⟩:∃ l,lines[i]? = some l:=⟨_,List.getElem?_eq_getElem hlt⟩;have hmem:=Zad hx;have hd:lines.drop i=l::lines.drop (i+1):=by
  rw [Zay hlt];rw [List.getElem?_eq_getElem hlt] at hx;rw [Option.some.inj hx]
 have htake:lines.take (i+1)=lines.take i++[l]:=by rw [Zas,hx];rfl
 rw [sFx,H1.load (k:=0) (i:=0+1) rfl rfl,ni rfl hlt,ldL (getT hx)];simp (disch:=omega) only [gu,vw,rG,dm,di,uf,nY,fJ,bT,zV,zT,zE,zC,yT,yS,jK,yM,jC,yJ,yH,uG,jW,jR,jV,zZ,jA,yN,zG,decide_true,decide_false,Zaj,Zak,jQ];have hlw:=hw l hmem;have zsv:jM cells (lines.take i) l≠0->jI cells lines=jM cells (lines.take i) l:=fun h=>by rw [he,hd,uH,if_pos h]
 by_cases h0:l.length=0
 ·simp only [show (l.length:Int)=0 by omega,decide_true,zE];have hl0:l=[]:=Zbu h0;have e12:jM cells (lines.take i) l=12:=by rw [jM,if_pos hl0]
  exact ret 12 (by rw [zsv (by rw [e12];decide),e12])
 simp only [show ¬ (l.length:Int)=0 by omega,decide_false,zC];have hl0:l≠[]:=fun q=>h0 (by rw [q];rfl);have hcell:yY cells none l≠0->jI cells lines=yY cells none l:=fun h=>by
  have e:jM cells (lines.take i) l=yY cells none l:=by rw [jM,if_neg hl0,if_pos h]
  rw [zsv (by rw [e];exact h),e]
 refine F20.L10 (fun m z5 h' nx'=>∃ k:Nat,z5=I k/\l.length-k=m/\k<=l.length/\h'=h1/\nx'=nx1/\yY cells none l=yY cells (pv l k) (l.drop k)) (m:=l.length) (by omega) ⟨0,rfl,rfl,by omega,rfl,rfl,rfl⟩ ?_;rintro m y2 y5 y10 y11 y12 h1 nx1 R2 ⟨k,rfl,rfl,hk,rfl,rfl,hce⟩ hR2;simp (disch:=omega) only [gu,vw,rG,dm,di,uf,nY,fJ,bT,zV,zT,zE,zC,yT,yS,jK,yM,jC,yJ,yH,uG,jW,jR,jV,zZ,jA,yN,zG,decide_true,decide_false,Zaj,Zak,jQ];by_cases hkt:k<l.length
 case neg =>
  simp only [show ¬ (k:Int)<(l.length:Int) by omega,decide_false,zC];have hz:yY cells none l=0:=by rw [hce,Zcf (by omega)];rfl
  rw [F20.k18,sFx,H1.load (k:=0) (i:=0+1) rfl rfl,zk4 (by omega) (by omega)];have ep:AV.lst 1 i ((lines.map encI).take i)=mg (lines.take i):=by
   rw [<- Zfg];simp [mg,Zby (Nat.le_of_lt hlt)]
  rw [ep];refine zm4 (by rw [Zau];omega) (fun q hq=>Zbi (hw q (Zcz hq)) (by omega)) _ _ _ _ ?_;rintro _ rfl _;by_cases hin:l∈lines.take i
  ·simp only [hin,decide_true,zE];have e9:jM cells (lines.take i) l=9:=by rw [jM,if_neg hl0,if_neg (by rw [hz];simp),if_pos hin]
   exact ret 9 (by rw [zsv (by rw [e9];decide),e9])
  ·simp only [hin,decide_false,zC];rw [F20.k19,gu (by omega)];have e0:jM cells (lines.take i) l=0:=by rw [jM,if_neg hl0,if_neg (by rw [hz];simp),if_neg hin]
   refine hR _ _ _ _ _ _ _ _ _ _ _ _ _ (by omega) ⟨i+1,rfl,rfl,by omega,rfl,rfl,?_⟩;rw [he,hd,uH,if_neg (by rw [e0];simp),htake]
 simp only [show (k:Int)<(l.length:Int) by omega,decide_true,zE];have hxk:l[k]? = some l[k]:=List.getElem?_eq_getElem hkt;have hdk:l.drop k=l[k]::l.drop (k+1):=Zay hkt;rw [ni rfl hkt,ldL (tJ hxk)];by_cases hbad:l[k]<0\/cells<=l[k]
 ·have e10:yY cells none l=10:=by rw [hce,hdk,yY,if_pos hbad]
  have fin:=ret 10 (by rw [hcell (by rw [e10];decide),e10]);by_cases hneg:l[k]<0
  ·simp only [uf,hneg,decide_true,jK,zV,zE];exact fin
  ·simp only [uf,hneg,decide_false,yS];rw [ni rfl hkt,ldL (tJ hxk),sFx,H1.load (k:=0) (i:=0) rfl rfl];simp only [bT,show cells<=l[k] by omega,decide_true,zT,zE];exact fin
 simp only [uf,show ¬ l[k]<0 by omega,decide_false,yS];rw [ni rfl hkt,ldL (tJ hxk),sFx,H1.load (k:=0) (i:=0) rfl rfl];simp only [bT,show ¬ cells<=l[k] by omega,decide_false,zT,zC];rw [F20.k16];have next:∀ z12,(pv l k).any (fun q=>decide (l[k]<=q))=false->R2 (F20.fr (.agg [I cells,mg lines]) (.ptr bx 0) y2 (I i) (encI l) (I ((k:Int)+1)) (.bool false) (.bool false) (.bool true) (.bool false) (.bool true) (.bool false) z12 z13) h1 nx1=.ok True:=fun z12 hany=>by
  refine hR2 _ _ _ _ _ _ _ _ (by omega) ⟨k+1,rfl,rfl,by omega,rfl,rfl,?_⟩;rw [hce,hdk,yY,if_neg hbad,hany];simp [pR hkt]
 by_cases hk0:0<k
 ·obtain ⟨k,rfl⟩:∃ j,k=j+1:=⟨k-1,by omega⟩;have hk1:k<l.length:=by omega
  have hxk1:l[k]? = some l[k]:=List.getElem?_eq_getElem hk1;simp only [fJ,show (0:Int)<((k+1:Nat):Int) by omega,decide_true,yT];rw [ni rfl hkt,ldL (tJ hxk),vw (by omega),ni (i:=k) (by omega) hk1,ldL (tJ hxk1)];rw [pR hk1] at next;by_cases hle:l[k+1]<=l[k]
  ·simp only [nY,hle,decide_true,zV,zE];have e11:yY cells none l=11:=by rw [hce,hdk,yY,if_neg hbad,pR hk1,if_pos (by simp [hle])]
   exact ret 11 (by rw [hcell (by rw [e11];decide),e11])
  ·simp only [nY,hle,decide_false,zV,zC];rw [F20.k17,gu (by omega)];exact next _ (by simp [hle])
 ·obtain rfl:k=0:=by omega
  simp only [fJ,show ¬ (0:Int)<((0:Nat):Int) by omega,decide_false,yM,zT,zC];rw [F20.k17,gu (by omega)];exact next _ (by simp [pv])
theorem mU {P:Program} {f:Nat} {p id:Pa} {h0 h:T Blk} {nx:Pa} {L:List Ob} {k:Nat} {l:List Int} {K:Kw Prop} {Q:AV->Prop} (H:Hp h0 h nx L) (hk:L[k]? = some (.arr id (l.map I))) (hq:∀ B,Pure P B f [encI l] Q) (hpl:∀ v,Q v->Plain v)
  (hK:∀ v,Q v->K v h nx=.ok True):(CS P B).fn f p [.sl id 0 l.length (some l.length) 1] h nx K=.ok True :=
 zbi (.cons (ug.frz (H.own _ (Zad hk)) (T.bg _ id) (Zaf _) (by simp) fun v hv=>by obtain ⟨x,_,rfl⟩:=List.mem_map.1 hv;rfl) .nil) (by
  have:=dF l;simp only [nns,fO.nn this,Bool.and_self]) hq hpl fun v hv _=>hK v hv
theorem zsw {h:T Blk} {nx:Pa} {l:List Int} {g:Nat} {p q:Pa} {cap:List AV} {pr:Int->Bool} {K:Kw Prop} (hl:l.length<=1000000) (hcl:∀ x∈l,∀ K:Kw Prop,K (.bool (pr x)) h nx=.ok True->(CS Tryz.prog B).fn g q (I x::cap) h nx K=.ok True)
  (hK:K (.bool (l.any pr)) h nx=.ok True):(CS Tryz.prog B).fn 127 p [encI l,.fn g q cap] h nx K=.ok True:=by
 refine gB (p:=.of 127) (K:=K) (zQ zW fP 9 fun hf => ?_) fun _ _ _ _ q=>q;rw [aT.go];refine gB (p:=.of 167) (K:=fun v1 h2 n3=>zh .geq .int v1 (I 0) fun v4=>K v4 h2 n3) (zQ zW fP 10000000 fun hf => ?_) fun _ _ _ _ q=>q;rw [qw.go];simp (disch:=omega) only [gu,vw,rG,dm,di,uf,nY,fJ,bT,zV,zT,zE,zC,yT,yS,jK,yM,jC,yJ,yH,uG,jW,jR,jV,zZ,jA,yN,zG,decide_true,decide_false,Zaj,Zak,jQ];refine qw.L1 (fun m z5 h' nx'=>∃ i:Nat,z5=I i/\l.length-i=m/\i<=l.length/\h'=h/\nx'=nx/\(l.take i).any pr=false) (m:=l.length) (by omega) ⟨0,rfl,rfl,by omega,rfl,rfl,by simp⟩ ?_;rintro m z2 z3 z5 z6 z7 _ _ R ⟨i,rfl,rfl,hi,rfl,rfl,htk⟩ hR;simp (disch:=omega) only [gu,vw,rG,dm,di,uf,nY,fJ,bT,zV,zT,zE,zC,yT,yS,jK,yM,jC,yJ,yH,uG,jW,jR,jV,zZ,jA,yN,zG,decide_true,decide_false,Zaj,Zak,jQ];by_cases hlt:i<l.length
 ·simp only [show (i:Int)<(l.length:Int) by omega,decide_true,zE];have hx:l[i]? = some l[i]:=List.getElem?_eq_getElem hlt;rw [ni rfl hlt,ldL (tJ hx),zbp];refine hcl _ (Zbb hlt) _ ?_;cases he:pr l[i] with
  | true =>
   simp only [zE,bT,show (0:Int)<=(i:Int) by omega,decide_true];rw [List.any_eq_true.2 ⟨_,Zbb hlt,he⟩] at hK;exact hK
  | false =>
   simp only [zC];refine hR _ _ _ _ _ _ _ _ (by omega) ⟨i+1,rfl,rfl,by omega,rfl,rfl,?_⟩;rw [Zas,hx,List.any_append,htk];simp [he]
 ·simp only [show ¬ (i:Int)<(l.length:Int) by omega,decide_false,zC];rw [qw.k8];rw [Zae (by omega)] at htk;rw [htk] at hK;simp only [bT,show ¬ (0:Int) <= -1 by omega,decide_false];exact hK
theorem zk5 {a b:Int} {l:List Int} (hl:l.length<=1000000):Pure Tryz.prog B 65 [I a,I b,encI l] (· = I (if l.any (fun x=>decide (x<a)||decide (b<x)) then 3 else 0)):=by
 refine yC fun h nx K H0 hK=>zQ zW fP 1000 fun hf => ?_;rw [F65.go];refine H0.box (l:=[I a]) rfl fun x1 h1 nx1 H1 => ?_;refine H1.box (l:=[I b]) rfl fun x2 h2 nx2 H2 => ?_;refine zsw (pr:=fun x=>decide (x<a)||decide (b<x)) hl (fun x _ K hK => ?_) ?_
 ·refine gB (p:=.of 160) (K:=K) (zQ zW fP 9 fun hf => ?_) fun _ _ _ _ q=>q;show zS tbl 9 _ (Pa.of 160) [I x,.ptr x1 0,.ptr x2 0] _ _ _=_;rw [aS.go,H2.load (k:=1) (i:=0) rfl rfl];by_cases c:x<a
  ·simp only [uf,c,decide_true,jK,zV];simpa [c] using hK
  ·simp only [uf,c,decide_false,yS];rw [H2.load (k:=0) (i:=0) rfl rfl];simp only [fJ,zT];simpa [c] using hK
 ·refine vQ _ _ _ _ _ _ ?_;rintro _ rfl _;exact hK _ _ _ _ _ H2 (yB rfl) rfl
theorem zv4 {cells:Int} {lines:List (List Int)} {i:Nat} {l:List Int} (hi:lines[i]? = some l) (hn:lines.length<=1000000) (hw:∀ q∈lines,q.length<=1000000):Pure Tryz.prog B 181 [.agg [I cells,mg lines],I i] (· = I (jM cells (lines.take i) l)):=by
 refine yC fun h nx K H0 hK=>zQ zW fP 10000000 fun hf => ?_;have hlt:i<lines.length:=(List.getElem?_eq_some_iff.1 hi).1;have hlw:=hw l (Zad hi);rw [qj.go];refine H0.box (l:=[I cells,mg lines]) rfl fun bx h1 nx1 H1 => ?_;rw [sFx,H1.load (k:=0) (i:=0+1) rfl rfl,ni rfl hlt,ldL (getT hi)];refine H1.alloc fun x h2 nx2 H2 => ?_;refine H2.store (k:=0) rfl (by decide) rfl fun h3 H3 => ?_;rw [H3.load (k:=0) (i:=0) rfl rfl];simp (disch:=omega) only [gu,vw,rG,dm,di,uf,nY,fJ,bT,zV,zT,zE,zC,yT,yS,jK,yM,jC,yJ,yH,uG,jW,jR,jV,zZ,jA,yN,zG,decide_true,decide_false,Zaj,Zak,jQ];have ret:∀ (v:Int) h' nx' L,v=jM cells (lines.take i) l->Hp h h' nx' L->K (I v) h' nx'=.ok True:=fun v h' nx' L hv H'=>by rw [hv];exact hK _ _ _ _ _ H' (yB rfl) rfl
 by_cases h0:l.length=0
 ·simp only [show (l.length:Int)=0 by omega,decide_true,zE];have hl0:l=[]:=Zbu h0;exact ret 12 _ _ _ (by rw [jM,if_pos hl0]) H3
 simp only [show ¬ (l.length:Int)=0 by omega,decide_false,zC];have hl0:l≠[]:=fun q=>h0 (by rw [q];rfl);have hcell:yY cells none l≠0->yY cells none l=jM cells (lines.take i) l:=fun h=>by rw [jM,if_neg hl0,if_pos h]
 rw [H3.load (k:=0) (i:=0) rfl rfl];simp (disch:=omega) only [gu,vw,rG,dm,di,uf,nY,fJ,bT,zV,zT,zE,zC,yT,yS,jK,yM,jC,yJ,yH,uG,jW,jR,jV,zZ,jA,yN,zG,decide_true,decide_false,Zaj,Zak,jQ];refine qj.L2 (fun m z11 h' nx'=>∃ k:Nat,z11=I k/\l.length-k=m/\k<=l.length/\Hp h h' nx' [.arr x [encI l],.arr bx [I cells,mg lines]]/\yY cells none l=yY cells (pv l k) (l.drop k)) (m:=l.length) (by omega) ⟨0,rfl,rfl,by omega,H3,rfl⟩ ?_;rintro m z3 z5 z6 z7 z11 z12 z13 h1 nx1 R ⟨k,rfl,rfl,hk,H1,hce⟩ hR;simp (disch:=omega) only [gu,vw,rG,dm,di,uf,nY,fJ,bT,zV,zT,zE,zC,yT,yS,jK,yM,jC,yJ,yH,uG,jW,jR,jV,zZ,jA,yN,zG,decide_true,decide_false,Zaj,Zak,jQ];by_cases hkt:k<l.length
 case neg =>
  simp only [show ¬ (k:Int)<(l.length:Int) by omega,decide_false,zC];have hz:yY cells none l=0:=by rw [hce,Zcf (by omega)];rfl
  rw [qj.k9,sFx,H1.load (k:=1) (i:=0+1) rfl rfl,zk4 (by omega) (by omega)];have ep:AV.lst 1 i ((lines.map encI).take i)=mg (lines.take i):=by
   rw [<- Zfg];simp [mg,Zby (Nat.le_of_lt hlt)]
  rw [ep];refine zgs H1 (k:=0) rfl (by rw [Zau];omega) (fun q hq=>hw q (Zcz hq)) ?_;refine vQ _ _ _ _ _ _ ?_;rintro _ rfl _;refine ret _ _ _ _ ?_ H1;have e9:jM cells (lines.take i) l=if l∈lines.take i then 9 else 0:=by rw [jM,if_neg hl0,if_neg (by rw [hz];simp)]
  rw [e9];by_cases hin:l∈lines.take i <;> simp [hin]
 simp only [show (k:Int)<(l.length:Int) by omega,decide_true,zE];have hxk:l[k]? = some l[k]:=List.getElem?_eq_getElem hkt;have hdk:l.drop k=l[k]::l.drop (k+1):=Zay hkt;rw [ni rfl hkt,ldL (tJ hxk)]
 have tail:∀ (b1 b2:Bool) (z:AV) (z':AV) (Z:AV->T Blk->Pa->Out Prop),b1=(decide (l[k]<0\/cells<=l[k]))->b2=(pv l k).any (fun q=>decide (l[k]<=q)) ->
   (∀ (e:Int) h' nx',e=(if l[k]<0\/cells<=l[k] then 10 else if (pv l k).any (fun q=>decide (l[k]<=q)) then 11 else 0)->Hp h h' nx' [.arr x [encI l],.arr bx [I cells,mg lines]]->Z (I e) h' nx'=.ok True) ->
   (CS Tryz.prog B).fn 64 (.of 64) [.bool b2,I 11] h1 nx1 (fun v22 h23 n24=>jH 1 2 [(I 0)] [(0,1,I (if b1 then 10 else 0)),(1,1,v22)] h23 n24 fun v25 h26 n27=>(CS Tryz.prog B).fn 63 (.of 63) [v25] h26 n27 Z)=.ok True:=by
  intro b1 b2 z z' Z e1 e2 hZ;refine vQ _ _ _ _ _ _ ?_;rintro _ rfl _;refine H1.wz (l:=[I (if b1 then 10 else 0),I (if b2 then 11 else 0)]) rfl fun id h4 nx4 H4 => ?_;refine mU (l:=[if b1 then 10 else 0,if b2 then 11 else 0]) H4 (k:=0) rfl (fun B=>zce (by simp)) (fun v hv=>by rw [hv];exact .int _ _) ?_;rintro _ rfl;refine hZ _ _ _ ?_ H4.drop;subst e1 e2;by_cases c1:l[k]<0\/cells<=l[k]
  ·simp [c1,kD]
  ·cases c2:(pv l k).any (fun q=>decide (l[k]<=q)) <;> simp [c1,kD]
 have fin:∀ (e:Int) h' nx',e=(if l[k]<0\/cells<=l[k] then 10 else if (pv l k).any (fun q=>decide (l[k]<=q)) then 11 else 0)->Hp h h' nx' [.arr x [encI l],.arr bx [I cells,mg lines]] ->
   (zh .neq .int (I e) (I 0) fun v31=>yG v31 (K (I e) h' nx') (R (qj.fr (.agg [I cells,mg lines]) (I i) (.ptr bx 0) z3 (.ptr x 0) (I k) (I l[k]) (I e) (.bool false) (encI l) (I l.length) (I ((k:Int)+1)) (.bool true) v31) h' nx'))=.ok True:=by
  intro e h' nx' he H';have hstep:yY cells none l=if e≠0 then e else yY cells (some l[k]) (l.drop (k+1)):=by
   rw [hce,hdk,yY,he];by_cases c1:l[k]<0\/cells<=l[k]
   ·simp [c1]
   ·cases c2:(pv l k).any (fun q=>decide (l[k]<=q)) <;> simp [c1]
  simp (disch:=omega) only [gu,vw,rG,dm,di,uf,nY,fJ,bT,zV,zT,zE,zC,yT,yS,jK,yM,jC,yJ,yH,uG,jW,jR,jV,zZ,jA,yN,zG,decide_true,decide_false,Zaj,Zak,jQ];by_cases c:e=0
  ·simp only [c,decide_true,Zaj,zC];refine hR _ _ _ _ _ _ _ _ _ _ (by omega) ⟨k+1,rfl,rfl,by omega,H',?_⟩;rw [hstep,if_neg (by simp [c]),pR hkt]
  ·simp only [c,decide_false,Zak,zE];rw [if_pos c] at hstep;exact ret _ _ _ _ (by rw [<- hcell (by rw [hstep];exact c),hstep]) H'
 have mid:∀ b1:Bool,b1=decide (l[k]<0\/cells<=l[k]) ->
   (CS Tryz.prog B).fn 64 (.of 64) [.bool b1,I 10] h1 nx1 (fun v10 h11 n12 =>
    sG (.bool (decide (0<(k:Int)))) true (fun k=>zH (.ptr x 0) h11 k) fun v14=>sG (.bool (decide (0<(k:Int)))) true (fun q=>q (I (k:Int))) fun v15=>sG (.bool (decide (0<(k:Int)))) true (fun k=>zh .sub .int v15 (I 1) k) fun v16=>sG (.bool (decide (0<(k:Int)))) true (fun k=>zM 1 v14 v16 k) fun v17=>sG (.bool (decide (0<(k:Int)))) true (fun k=>zH v17 h11 k) fun v18 =>
    sG (.bool (decide (0<(k:Int)))) true (fun q=>q (I l[k])) fun v19=>sG (.bool (decide (0<(k:Int)))) true (fun k=>zh .geq .int v18 v19 k) fun v20=>jD (.bool (decide (0<(k:Int)))) v20 (.bool false) fun v21 =>
    (CS Tryz.prog B).fn 64 (.of 64) [v21,I 11] h11 n12 fun v22 h23 n24=>jH 1 2 [(I 0)] [(0,1,v10),(1,1,v22)] h23 n24 fun v25 h26 n27=>(CS Tryz.prog B).fn 63 (.of 63) [v25] h26 n27 fun v28 h29 n30 =>
    zh .neq .int v28 (I 0) fun v31=>yG v31 (K v28 h29 n30) (R (qj.fr (.agg [I cells,mg lines]) (I i) (.ptr bx 0) z3 (.ptr x 0) (I k) (I l[k]) v28 (.bool false) (encI l) (I l.length) (I ((k:Int)+1)) (.bool true) v31) h29 n30))=.ok True:=by
  intro b1 e1;refine vQ _ _ _ _ _ _ ?_;rintro _ rfl _;by_cases ck:0<k
  ·obtain ⟨k,rfl⟩:∃ j,k=j+1:=⟨k-1,by omega⟩;have hk1:k<l.length:=by omega
   have hxk1:l[k]? = some l[k]:=List.getElem?_eq_getElem hk1;simp only [show (0:Int)<((k+1:Nat):Int) by omega,decide_true,yT,zV];rw [H1.load (k:=0) (i:=0) rfl rfl,vw (by omega),ni (i:=k) (by omega) hk1,ldL (tJ hxk1)];simp only [bT];exact tail _ _ .u .u _ e1 (by rw [pR hk1];rfl) fin
  ·obtain rfl:k=0:=by omega
   simp only [show ¬ (0:Int)<((0:Nat):Int) by omega,decide_false,yM,zT];exact tail _ _ .u .u _ e1 rfl fin
 by_cases c:l[k]<0
 ·simp only [uf,c,decide_true,jK,zV];exact mid true (by simp [c])
 ·simp only [uf,c,decide_false,yS,sFx];rw [H1.load (k:=1) (i:=0) rfl rfl];simp only [bT,zT];exact mid _ (by simp [c])
theorem zyb {cells:Int} {lines:List (List Int)} (hw:∀ q∈lines,q.length<=1000000):Pure Tryz.prog B 87 [.agg [I cells,mg lines]] (· = I (jI cells lines)):=by
 refine yC fun h nx K H0 hK=>zQ zW fP 10000000 fun hf => ?_;rw [F87.go];refine H0.box (l:=[I cells,mg lines]) rfl fun bx h1 nx1 H1 => ?_;rw [sFx,H1.load (k:=0) (i:=0) rfl rfl,sFx,H1.load (k:=0) (i:=0+1) rfl rfl];simp only [zZ,fJ];refine H1.wz (l:=[I cells]) rfl fun id h2 nx2 H2 => ?_;simp only [zG,zZ];rw [H2.load (k:=1) (i:=0+1) rfl rfl];simp only [zG,sFx];refine zbi (args':=[I 1,I 256,encI [cells]]) (.cons (.int _ _) (.cons (.int _ _) (.cons (ug.frz (H2.own (.arr id [I cells]) (by simp)) (T.bg _ id) (Zaf _) rfl (fun v hv=>by simp at hv;subst hv;rfl)) .nil))) rfl (fun B=>zk5 (l:=[cells]) (by simp)) (fun v hv=>by rw [hv];exact .int _ _) ?_;rintro _ rfl _;rw [H2.load (k:=1) (i:=0+1) rfl rfl];simp only [zG,zZ];refine vQ _ _ _ _ _ _ ?_;rintro _ rfl _;refine H2.wz (l:=[I (if [cells].any (fun x=>decide (x<1)||decide (256<x)) then 3 else 0),I (if decide (128<(lines.length:Int)) then 5 else 0)]) rfl fun id3 h3 nx3 H3 => ?_;refine mU (l:=[if [cells].any (fun x=>decide (x<1)||decide (256<x)) then 3 else 0,if decide (128<(lines.length:Int)) then 5 else 0]) H3 (k:=0) rfl (fun B=>zce (by simp)) (fun v hv=>by rw [hv];exact .int _ _) ?_;rintro _ rfl;have ret:∀ (v:Int) h' nx' L,v=jI cells lines->Hp h h' nx' L->K (I v) h' nx'=.ok True:=fun v h' nx' L hv H'=>by rw [hv];exact hK _ _ _ _ _ H' (yB rfl) rfl
 have ef:kD [if [cells].any (fun x=>decide (x<1)||decide (256<x)) then 3 else 0,if decide (128<(lines.length:Int)) then 5 else 0]=if cells<1\/256<cells then 3 else if 128<lines.length then 5 else 0:=by
  by_cases c:cells<1\/256<cells
  ·simp [kD,c]
  ·by_cases c2:128<lines.length
   ·have:(128:Int)<(lines.length:Int):=by omega
    simp [kD,c,c2,this]
   ·have:¬ (128:Int)<(lines.length:Int):=by omega
    simp [kD,c,c2,this]
 rw [ef];simp only [di];by_cases hc:cells<1\/256<cells
 ·simp only [hc,if_true];simp only [show ¬ (3:Int)=0 by omega,decide_false,Zak,zE];exact ret 3 _ _ _ (by rw [jI,if_pos hc]) H3
 simp only [hc,if_false];by_cases hm:128<lines.length
 ·simp only [hm,if_true];simp only [show ¬ (5:Int)=0 by omega,decide_false,Zak,zE];exact ret 5 _ _ _ (by rw [jI,if_neg hc,if_pos hm]) H3
 simp only [hm,if_false,decide_true,Zaj,zC];rw [H3.load (k:=2) (i:=0+1) rfl rfl];simp only [zZ];have hs:jI cells lines=uH cells [] lines:=by rw [jI,if_neg hc,if_neg hm]
 refine F87.L2 (fun m z8 h' nx'=>∃ i:Nat,z8=I i/\lines.length-i=m/\i<=lines.length/\Hp h h' nx' [.arr bx [I cells,mg lines]]/\jI cells lines=uH cells (lines.take i) (lines.drop i)) (m:=lines.length) (by omega) ⟨0,rfl,rfl,by omega,H3.drop.drop,by simpa using hs⟩ ?_;rintro m z2 z4 z5 z8 z9 z10 h4 nx4 R ⟨i,rfl,rfl,hi,H4,he⟩ hR;simp (disch:=omega) only [gu,vw,rG,dm,di,uf,nY,fJ,bT,zV,zT,zE,zC,yT,yS,jK,yM,jC,yJ,yH,uG,jW,jR,jV,zZ,jA,yN,zG,decide_true,decide_false,Zaj,Zak,jQ];by_cases hlt:i<lines.length
 case neg =>
  simp only [show ¬ (i:Int)<(lines.length:Int) by omega,decide_false,zC];rw [F87.k9];exact ret 0 _ _ _ (by rw [he,Zcf (by omega)];rfl) H4
 simp only [show (i:Int)<(lines.length:Int) by omega,decide_true,zE];obtain ⟨l,hx⟩:∃ l,lines[i]? = some l:=⟨_,List.getElem?_eq_getElem hlt⟩;have hd:lines.drop i=l::lines.drop (i+1):=by
  rw [Zay hlt];rw [List.getElem?_eq_getElem hlt] at hx;rw [Option.some.inj hx]
 have htake:lines.take (i+1)=lines.take i++[l]:=by rw [Zas,hx];rfl
 rw [H4.zx (k:=0) (n:=2) rfl rfl];refine zv4 hx (by omega) hw _ _ _ _ ?_;rintro _ rfl _;simp only [di];by_cases c:jM cells (lines.take i) l=0
 ·simp only [c,decide_true,Zaj,zC];refine hR _ _ _ _ _ _ _ _ _ (by omega) ⟨i+1,rfl,rfl,by omega,H4,?_⟩;rw [he,hd,uH,if_neg (by rw [c];simp),htake]
 ·simp only [c,decide_false,Zak,zE];exact ret _ _ _ _ (by rw [he,hd,uH,if_pos c]) H4
end Go.Ev
namespace Go.Ev
def AscL (cells:Nat) (l:List Int):Prop:=l≠[]/\l.Pairwise (· < ·)/\∀ c∈l,0<=c/\c<(cells:Int)
end Go.Ev
namespace Go.Ev
open Go Go.Proofs
variable {B:Nat}
theorem cells_ok {cells:Int}:∀ {l:List Int} {p:Option Int},yY cells p l=0->(∀ c∈l,0<=c/\c<cells)/\l.Pairwise (· < ·)/\∀ q,p=some q->∀ c∈l,q<c
 | [],_,_=>⟨by simp,.nil,by simp⟩
 | c::l,p,h=>by
  rw [yY] at h;by_cases c1:c<0\/cells<=c
  ·rw [if_pos c1] at h;cases h
  rw [if_neg c1] at h;cases c2:p.any (fun q=>decide (c<=q)) with
  | true=>rw [c2,if_pos rfl] at h;cases h
  | false =>
   rw [c2,if_neg (by simp)] at h;obtain ⟨h1,h2,h3⟩:=cells_ok h;have h4:=h3 c rfl;refine ⟨fun x hx => ?_,List.pairwise_cons.2 ⟨h4,h2⟩,fun q hq x hx => ?_⟩
   ·rcases List.mem_cons.1 hx with rfl | hx
    ·omega
    ·exact h1 x hx
   ·subst hq;simp at c2;rcases List.mem_cons.1 hx with rfl | hx
    ·exact c2
    ·have:=h4 x hx;omega
theorem zgt {cells:Int}:∀ {ls prev:List (List Int)},uH cells prev ls=0->∀ l∈ls,l≠[]/\yY cells none l=0
 | [],_,_,l,h=>by simp at h
 | a::ls,prev,h,l,hl=>by
  rw [uH] at h;by_cases c:jM cells prev a≠0
  ·rw [if_pos c] at h;exact absurd h c
  rw [if_neg c] at h;rcases List.mem_cons.1 hl with rfl | hl
  ·have c:jM cells prev l=0:=by simpa using c
   rw [jM] at c;by_cases c0:l=[]
   ·rw [if_pos c0] at c;cases c
   rw [if_neg c0] at c;refine ⟨c0,?_⟩;by_cases c1:yY cells none l≠0
   ·rw [if_pos c1] at c;exact c
   ·simpa using c1
  ·exact zgt h l hl
theorem zi7 {cells:Int} {lines:List (List Int)} (h:jI cells lines=0):∃ n:Nat,cells=n/\1<=n/\n<=256/\lines.length<=128/\∀ l∈lines,AscL n l:=by
 rw [jI] at h;by_cases c1:cells<1\/256<cells
 ·rw [if_pos c1] at h;cases h
 rw [if_neg c1] at h;by_cases c2:128<lines.length
 ·rw [if_pos c2] at h;cases h
 rw [if_neg c2] at h;refine ⟨cells.toNat,by omega,by omega,by omega,by omega,fun l hl => ?_⟩;obtain ⟨h1,h2⟩:=zgt h l hl;obtain ⟨h3,h4,_⟩:=cells_ok h2;exact ⟨h1,h4,fun c hc=>by have:=h3 c hc;omega⟩
end Go.Ev
namespace Go.Ev
open Go Go.Proofs
variable {B:Nat}
set_option maxRecDepth 100000
theorem zm5 {h:T Blk} (a:AV) (l:List AV) (K:AV->OP):zH (.fp (a::l)) h K=K a:=nr rfl
theorem zm6 {P:Program} {id:Pa} {args:List AV} {h:T Blk} {nx:Pa} {K:Kw Prop}:dN (CS P B) (.yld id) args h nx K=(CS P B).yld id args h nx K:=nr rfl
theorem zv5 {h:T Blk} {nx:Pa} {p id:Pa} {l:List Int} {K:Kw Prop} (J:Nat->T Blk->Pa->Prop) (hl:l.length<=1000000) (hJ:J 0 h nx)
  (step:∀ (i:Nat) (x:Int) (h:T Blk) (nx:Pa) (K:Kw Prop),l[i]? = some x->J i h nx->Fr h nx->(∀ h' nx',J (i+1) h' nx'->K (.bool true) h' nx'=.ok True)->(CS Tryz.prog B).yld id [I x] h nx K=.ok True)
  (fr:∀ i h nx,J i h nx->Fr h nx) (hK:∀ h' nx',J l.length h' nx'->K (.tup []) h' nx'=.ok True):(CS Tryz.prog B).fn 312 p [.yld id,.fp [encI l]] h nx K=.ok True:=by
 refine gB (p:=.of 312) (K:=K) (zQ zW fP 10000000 fun hf => ?_) fun _ _ _ _ q=>q;rw [vz.go,zm5];simp only [zZ];refine vz.L1 (fun m z5 h' nx'=>∃ i:Nat,z5=I i/\l.length-i=m/\i<=l.length/\J i h' nx') (m:=l.length) (by omega) ⟨0,rfl,rfl,by omega,hJ⟩ ?_;rintro m z2 z5 z6 z7 h1 nx1 R ⟨i,rfl,rfl,hi,hJ1⟩ hR;simp (disch:=omega) only [gu,vw,rG,dm,di,uf,nY,fJ,bT,zV,zT,zE,zC,yT,yS,jK,yM,jC,yJ,yH,uG,jW,jR,jV,zZ,jA,yN,zG,decide_true,decide_false,Zaj,Zak,jQ];by_cases hlt:i<l.length
 ·simp only [show (i:Int)<(l.length:Int) by omega,decide_true,zE];have hx:l[i]? = some l[i]:=List.getElem?_eq_getElem hlt;rw [ni rfl hlt,ldL (tJ hx),zm6];refine step i _ _ _ _ hx hJ1 (fr _ _ _ hJ1) fun h2 nx2 hJ2 => ?_;simp only [jC,Zaj,zC]
  try rw [gu (by omega)]
  exact hR _ _ _ _ _ _ _ (by omega) ⟨i+1,rfl,rfl,by omega,hJ2⟩
 ·simp only [show ¬ (i:Int)<(l.length:Int) by omega,decide_false,zC];obtain rfl:i=l.length:=by omega
  exact hK _ _ hJ1
theorem Hp.eG {h0 h:T Blk} {nx:Pa} {L:List Ob} (H:Hp h0 h nx L) (e:Nat):Hp h0 h nx (.gro none e 0 []::L) :=
  ⟨H.keep,fun x hx=>by rcases List.mem_cons.1 hx with rfl | q;· exact ⟨rfl,rfl⟩
                       · exact H.own x q,fun n hn=>H.off n (by simpa [Ob.names] using hn),by have:=H.nd;simpa [Ob.names] using this,H.fr⟩
theorem getLoop {h0 h:T Blk} {nx:Pa} {L:List Ob} {id:Pa} {b:Blk} {k:Nat} (H:Hp h0 h nx L) (hk:L[k]? = some (.raw id b)):T.get .no id h=b:=(H.own _ (Zad hk)).1
theorem Hp.qam {h0 h:T Blk} {nx:Pa} {L:List Ob} {id:Pa} {b b':Blk} {k:Nat} (H:Hp h0 h nx L) (hk:L[k]? = some (.raw id b)) (hb:b'≠.no):Hp h0 (T.set .no b' id h) nx (L.set k (.raw id b')) :=
 H.upd hk (by simp [Ob.names]) rfl ⟨T.get_set_same _ _ _ _,hb⟩
theorem zm7 {h0 h:T Blk} {nx:Pa} {L:List Ob} {p q:Pa} {l:List Int} {K:Kw Prop} (hl:l.length<=100000) (H:Hp h0 h nx L)
  (hK:∀ o h' nx',Hp h0 h' nx' (.gro o 1 l.length (l.map I)::L)->K (ve o 1 l.length) h' nx'=.ok True):(CS Tryz.prog B).fn 381 p [.zn,.fn 312 q [.fp [encI l]]] h nx K=.ok True:=by
 refine gB (p:=.of 381) (K:=K) (zQ zW fP 10000000 fun hf => ?_) fun _ _ _ _ q=>q;rw [vk.go];refine H.box (l:=[.zn]) rfl fun bx h1 nx1 H1 => ?_;refine H1.rf (g:=312) (p:=q) (cap:=[.fp [encI l]]) rfl fun id h2 nx2 H2 => ?_;refine zv5 (fun i h' nx'=>∃ o,Hp h0 h' nx' (.raw id (.loop .ready .none (vk.fr .zn (.fn 312 q [.fp [encI l]]) (.ptr bx 0) .zn .u (.fn 312 q [.fp [encI l]]) .u) [.of 6] vk.b3 vk.b4)::.arr bx [ve o 1 i]::.gro o 1 i ((l.take i).map I)::L)) (by omega) ⟨none,?_⟩ ?_ (fun _ _ _ ⟨_,q⟩=>q.fr) ?_
 ·have:=H2.eG 1;exact this.perm ((List.Perm.swap _ _ _).trans (.cons _ (.swap _ _ _)))
 ·rintro i x h3 nx3 K3 hx ⟨o,H3⟩ _ hnext;have hi:i<l.length:=(List.getElem?_eq_some_iff.1 hx).1;refine zqh (fns:=tbl) fP 100 fun hf => ?_;rw [vk.y4 (getLoop H3 (k:=0) rfl) rfl];have H4:=H3.qam (k:=0) rfl (b':=.loop .busy .none (vk.fr .zn (.fn 312 q [.fp [encI l]]) (.ptr bx 0) .zn .u (.fn 312 q [.fp [encI l]]) .u) [.of 6] vk.b3 vk.b4) (by intro e;cases e);rw [H4.load (k:=1) (i:=0) rfl rfl];refine H4.wz (l:=[I x]) rfl fun e5 h5 nx5 H5 => ?_;refine H5.appN (k:=3) (o:=o) (c:=1) (new:=[I x]) rfl (ug.rd (l:=[I x]) (n:=1) (H5.own _ (Zal ..)) rfl) rfl rfl (by decide) (by decide) (by omega) fun o' h6 nx6 ho H6 => ?_;refine H6.store (k:=2) rfl (by simp) (d8 _ _ _) fun h7 H7 => ?_;refine H7.rend (k:=1) rfl fun h8 H8 => ?_;refine hnext _ _ ⟨o',(H8.drop).cast ?_⟩;have e1:(l.take (i+1)).map I=(l.take i).map I++[I x]:=by rw [Zas,hx];simp
  rw [e1];rfl
 ·rintro h3 nx3 ⟨o,H3⟩;rw [Zfj] at H3;refine H3.zat fun h4 H4 => ?_;rw [zqv,vk.k6,H4.load (k:=0) (i:=0) rfl rfl];exact hK _ _ _ H4.drop
theorem zm8 {l:List Int}:Pure Tryz.prog B 236 [encI l] (· = .fn 312 (.of 312) [.fp [encI l]]):=by
 refine yC fun h nx K H0 hK=>zQ zW fP 10000000 fun hf => ?_;rw [aU.go];refine H0.box (l:=[encI l]) rfl fun bx h1 nx1 H1 => ?_;obtain ⟨op,t,g1,g2⟩:ug h1 bx [encI l]:=H1.own _ (Zal ..);refine hK _ _ _ _ (.fn 312 (.of 312) [.fp [encI l]]) H1 (.fn _ _ _ _ rfl fun i v v' h2 h3 => ?_) rfl
 match i with
 | 0 =>
  simp only [List.getElem?_cons_zero,Option.some.injEq] at h2 h3;subst h2 h3;refine .ptr _ _ op _ t _ (H1.off bx (by simp [Ob.names])) g1 (by simp) (by simp [uy]) fun i v hv => ?_
  match i with
  | 0 =>
   simp only [List.getElem?_cons_zero,Option.some.injEq] at hv;subst hv;have:=yK t 0 1 0 (by omega);have g2:yL t 0 1=[encI l]:=g2;rw [g2] at this;simp only [List.getElem?_cons_zero,Option.some.injEq] at this;rw [<- this];exact yB (dF l)
  | i+1=>simp at hv
 | i+1=>simp at h2
end Go.Ev
namespace Go.Ev
open Go Go.Proofs
variable {B:Nat}
theorem zv6 {h0 h:T Blk} {nx p:Pa} {L:List Ob} {k n:Nat} {o:Option Pa} {l:List Int} {K:Kw Prop} (hj:∀ B,JOk Tryz.prog B pW) (H:Hp h0 h nx L) (hk:L[k]? = some (.gro o 1 n (l.map I))) (hn:n<=1000000)
  (hK:∀ h',Hp h0 h' nx (L.set k (.gro o 1 n ((srt l).map I)))->K (.tup []) h' nx=.ok True):(CS Tryz.prog B).fn 212 p [ve o 1 n] h nx K=.ok True:=by
 have own:=H.own _ (Zad hk);cases o with
 | none =>
  obtain ⟨q1,rfl⟩:=own;obtain rfl:l=[]:=by simpa using q1
  refine zj1 (hj B) (v:=.tup []) (h2:=h) rfl (hK h (H.cast ?_));have e:(srt ([]:List Int)).map I=[]:=by simp [srt]
  rw [e,(xC hk).2];exact (xC hk).1
 | some id =>
  obtain ⟨t,h1,h2,h3⟩:=own;rw [Zca] at h1 h2 h3;have e1:zby (.sl id 0 n none 1) h=some (T.set Blk.no (Blk.cells true n (jJ ((srt l).map I) t 0)) id h):=by
   show (match T.get Blk.no id h with
    | .cells op m t=>bif Nat.beq 1 1&&Nat.ble (0+n) m&&Nat.ble n 1000000 then (match wF (yL t 0 n) with
     | some l=>some (T.set Blk.no (Blk.cells op m (jJ ((srt l).map I) t 0)) id h)
     | none=>none) else none
    | _=>none)=_
   rw [h1]
   show (bif Nat.beq 1 1&&Nat.ble (0+n) n&&Nat.ble n 1000000 then (match wF (yL t 0 n) with
     | some l=>some (T.set Blk.no (Blk.cells true n (jJ ((srt l).map I) t 0)) id h)
     | none=>none) else none)=_
   rw [Zag (by omega),Zag hn,h3,zmu];rfl
  have e2:pW 212 [ve (some id) 1 n] h=some (.tup [],T.set Blk.no (Blk.cells true n (jJ ((srt l).map I) t 0)) id h):=by
   show (match zby (.sl id 0 n none 1) h with
    | some h=>some ((.tup []:AV),h)
    | none=>none)=_
   rw [e1]
  refine zj1 (hj B) e2 (hK _ (H.upd hk (by simp [Ob.names]) rfl ⟨_,by rw [T.get_set_same,Zca],by simpa using h2,?_⟩));have:=wX t [] ((srt l).map I) 0 rfl;rw [Zbh,Zcs] at this;have hl:((srt l).map I).length=n:=by simpa using h2
  rw [hl] at this;rw [Zca];exact this
theorem zm9 {l:List Int} (hj:∀ B,JOk Tryz.prog B pW) (hl:l.length<=100000):Pure Tryz.prog B 235 [.fn 312 (.of 312) [.fp [encI l]]] (· = encI (srt l)):=by
 refine yC fun h nx K H0 hK=>zQ zW fP 100 fun hf => ?_;rw [aV.go];refine gB (p:=.of 311) (K:=fun v1 h2 n3=>(CS Tryz.prog B).fn 212 (.of 212) [v1] h2 n3 fun v4 h5 n6=>K v1 h5 n6) (zQ zW fP 100 fun hf => ?_) fun _ _ _ _ q=>q;rw [aW.go];refine zm7 hl H0 fun o h1 nx1 H1 => ?_;refine zv6 hj H1 (k:=0) rfl (by omega) fun h2 H2 => ?_;refine hK _ _ _ _ _ H2 (H2.zeb (k:=0) rfl (by intro v hv;obtain ⟨t,_,rfl⟩:=List.mem_map.1 hv;rfl)) ?_;show _=AV.lst 1 _ _;rw [zis]
theorem zv7 {h0 h:T Blk} {nx:Pa} {L:List Ob} {o:Option Pa} {n k:Nat} {l l':List AV} (H:Hp h0 h nx L) (hk:L[k]? = some (.gro o 1 n l)) (hl:l'.length=l.length) (hs:l'.all uy=true) (hf:∀ (i:Nat) (v v':AV),l[i]? = some v->l'[i]? = some v'->sS h0 h v v'):sS h0 h (ve o 1 n) (.lst 1 n l'):=by
 have own:=H.own _ (Zad hk);have hoff:=H.off;cases o with
 | none =>
  obtain ⟨rfl,rfl⟩:=own;obtain rfl:l'=[]:=by simpa using hl
  exact .zfz 1
 | some id =>
  obtain ⟨t,h1,h2,h3⟩:=own;refine .sl _ _ _ _ _ true _ t _ (hoff id (List.mem_flatMap.2 ⟨_,Zad hk,by simp [Ob.names]⟩)) trivial h1 (by omega) (by rw [hl];exact h2) hs fun i v hi => ?_;have hil:i<l.length:=by rw [<- hl];exact (List.getElem?_eq_some_iff.1 hi).1
  have:=yK t 0 (n*1) i (by rw [<- h2];exact hil);rw [h3,List.getElem?_eq_getElem hil] at this;rw [<- Option.some.inj this];exact hf i _ _ (List.getElem?_eq_getElem hil) hi
end Go.Ev
namespace Go.Ev
open Go Go.Proofs
variable {B:Nat}
set_option maxRecDepth 100000
def XB:Nat:=SB 33*(34*SB 33*SB 33)
theorem qej:XB<18446744073709551616 ^ 10:=by unfold XB SB;decide
theorem Dn.qX {t N:Nat} {q:Rat} (ht:1<=t) (htN:t<=N) (hN:N<=XB) (h:Dn t N q):Qs 10 q:=h.qs ht htN (Zeh hN qej)
theorem Sg.q1 {q:Rat} (h:Sg q):Qs 10 q:=(h.dn (Zaf 1)).qX (Zaf _) (Zaf _) (by unfold XB SB;decide)
theorem pD {Q:List Rat} {P:Rat->Prop} (h:∀ j,P (at' Q j)):∀ x∈Q,P x:=fun x hx=>by
 obtain ⟨j,_,rfl⟩:=at_mem hx;exact h j
theorem rZ.fix {c:List AV} {q:List Rat} (h:rZ c q):∀ v∈c,fO v=true:=fun v hv=>by
 obtain ⟨m,hm⟩:=List.mem_iff_getElem?.1 hv;have hl:=(List.getElem?_eq_some_iff.1 hm).1;rw [h.1] at hl;obtain ⟨s,w,s',w',e,h1,h2⟩:=h.2 (m / 4) _ (wJ (by omega));have h3:((c.drop (m / 4*4)).take 4)[m%4]? = some v:=by
  rw [List.getElem?_take_of_lt (Zbl _ (by decide)),List.getElem?_drop,show m / 4*4+m%4=m by omega];exact hm
 rw [e] at h3;exact h1.oD h2 v (Zad h3)
theorem gp4 {n:Nat} {o4 o5:Option Pa} {rs:List Pa} {cs:List (List AV)} {ps:List Nat} {T:List Ob} (P:List Ob):(P++SL n o4 o5 rs cs ps T)[P.length]? = some (.gro o4 1 rs.length (rs.map (rwV n))):=by
 rw [List.getElem?_append_right (Zaf _),Zdq];rfl
theorem gp5 {n:Nat} {o4 o5:Option Pa} {rs:List Pa} {cs:List (List AV)} {ps:List Nat} {T:List Ob} (P:List Ob):(P++SL n o4 o5 rs cs ps T)[P.length+1]? = some (.gro o5 1 ps.length (ps.map fun p=>I ((p:Nat):Int))):=by
 rw [List.getElem?_append_right (by omega),Zcy];rfl
theorem gpT {n:Nat} {o4 o5:Option Pa} {rs:List Pa} {cs:List (List AV)} {Q:List (List Rat)} {ps:List Nat} {b:Ob} {T:List Ob} (S:SM rs cs Q) (P:List Ob):(P++SL n o4 o5 rs cs ps (b::T))[P.length+(Q.length+2)]? = some b:=by
 rw [List.getElem?_append_right (by omega),Zcy];show (List.zipWith Ob.arr rs cs++b::T)[Q.length]? = _;rw [List.getElem?_append_right (by rw [xJ S];exact Zaf _),xJ S,Zdq];rfl
theorem zna {a g6 g7 b:Ob} {Z U:List Ob}:(a::g6::g7::b::(Z++U)).Perm (g6::g7::b::((Z++[a])++U)):=by
 refine (List.Perm.swap ..).trans (List.Perm.cons _ ((List.Perm.swap ..).trans (List.Perm.cons _ ((List.Perm.swap ..).trans (List.Perm.cons _ ?_)))));rw [Zbk];exact List.perm_middle.symm
def frQ (n:Nat) (ps:List Nat):List Nat:=(List.range n).filter fun x => !decide (x∈ps)
theorem zsx {c:Nat} {ps:List Nat}:frQ (c+1) ps=frQ c ps++if c∈ps then [] else [c]:=by
 unfold frQ;rw [List.range_succ,List.filter_append]
 congr 1
 by_cases h:c∈ps
 ·rw [if_pos h,List.filter_cons_of_neg (by simp [h])];rfl
 ·rw [if_neg h,List.filter_cons_of_pos (by simp [h])];rfl
theorem zk6 (n:Nat) (ps:List Nat):(frQ n ps).length<=n:=by
 unfold frQ;exact Zbi (List.length_filter_le ..) (by rw [Zfd];exact Zaf _)
def SpcV (n:Nat) (fr:List Nat) (Bs:List (List Rat)) (v:AV):Prop:=∃ cb:List (List AV),cb.length=Bs.length/\(∀ a,a<Bs.length->rZ (cb.getD a []) (Bs.getD a []))/\v=.agg [.lst 1 fr.length (fr.map fun p=>I ((p:Nat):Int)),.lst 1 Bs.length (cb.map fun c=>.lst 4 n c)]
def qek (n:Nat) (lines:List (List Int)) (Q:List (List Rat)) (ps:List Nat):Prop:=(∃ O,Sv n O Q ps)/\Q.length<=min 33 lines.length/\(∀ f,Mgf n lines f->∀ q∈Q,dot q f=0)/\∀ f:List Rat,f.length=n->(∀ q∈Q,dot q f=0)->Mgf n lines f
theorem qel (n:Nat) (lines:List (List Int)) (f:List Rat):dot (aO n lines 0) f=0:=by
 unfold aO;rw [uY _ _ _ _ rfl];grind
theorem znb {n i:Nat} {lines:List (List Int)} {f:List Rat} (h:dot (aO n lines i) f=0):dot (fZ n (lines.getD i [])) f=dot (fZ n (lines.getD 0 [])) f:=by
 unfold aO at h;rw [uY _ _ _ _ (by rw [jT,jT])] at h
 grind
theorem zgu {n:Nat} {lines:List (List Int)} (hr:∀ l∈lines,∀ c∈l,0<=c/\c<(n:Int)) {i:Nat} (hi:i<lines.length):∀ c∈lines.getD i [],0<=c/\c<(n:Int):=hr _ (jY hi)
theorem znc {n:Nat} {lines:List (List Int)} (hn:n<=256) (hl:lines.length<=34) (hll:∀ l∈lines,l.length<=256) (hr:∀ l∈lines,∀ c∈l,0<=c/\c<(n:Int)):Pure Tryz.prog B 88 [.agg [I (n:Int),mg lines]] (fun v=>∃ Q ps,qek n lines Q ps/\SpcV n (frQ n ps) ((frQ n ps).map (au n Q ps)) v):=by
 refine yC fun h nx K H0 hK=>zQ zW yX 1000 fun hf => ?_;rw [F88.go,F88.t113,zA,F88.jk];refine H0.box (l:=[I (n:Int),mg lines]) rfl fun b1 h1 nx1 H1 => ?_;refine H1.alloc fun b2 h2 nx2 H2 => ?_;rw [zA,F88.ji,sFx,H2.load (k:=1) (i:=0+0) rfl rfl,zA,F88.qh,zA,F88.nU,zA,zA,F88.ny,zL];have H2:=(H2.eG 1).eG 1
 refine F88.zot (fun m x4 x5 x6 h' nx'=>∃ (i:Nat) (o4 o5:Option Pa) (rs:List Pa) (cs:List (List AV)) (Q:List (List Rat)) (ps:List Nat) (O:List (List Rat)),x4=ve o4 1 rs.length/\x5=ve o5 1 ps.length/\x6=I (i:Int)/\m+i=lines.length+1/\1<=i/\(i<=lines.length\/i=1)/\Q.length+1<=i/\SM rs cs Q/\Sv n O Q ps/\(∀ f,Mgf n lines f->∀ q∈Q,dot q f=0)/\(∀ i',i'<i->∀ f:List Rat,f.length=n->(∀ q∈Q,dot q f=0)->dot (aO n lines i') f=0)/\Hp h h' nx' (SL n o4 o5 rs cs ps [.arr b2 [.zn,.zn],.arr b1 [I (n:Int),mg lines]])) (m:=lines.length) (by omega) ⟨1,none,none,[],[],[],[],[],rfl,rfl,rfl,rfl,by omega,.inr rfl,Zaf _,⟨rfl,rfl,fun a ha=>by simp at ha⟩,Sv.nil n,by simp,fun i' hi f _ _=>by
  obtain rfl:i'=0:=by omega
  exact qel ..,H2⟩ ?_
 rintro m z4 z5 z6 z7 z8 z9 z10 z11 z17 z18 z19 z20 z21 z22 z23 z24 z25 z26 z27 h3 nx3 R ⟨i,o4,o5,rs,cs,Q,ps,O,rfl,rfl,rfl,hm,hi1,hi2,hQi,S,hS,hdot,hcv,H3⟩ hR;obtain ⟨T,hT⟩:∃ T:List Ob,T=[.arr b2 [.zn,.zn],.arr b1 [I (n:Int),mg lines]]:=⟨_,rfl⟩;rw [<- hT] at H3;have hps:=hS.len;have tl:∀ {X:List Ob} {o4 o5:Option Pa} {rs:List Pa} {cs:List (List AV)} {ps:List Nat},(List.zipWith Ob.arr rs cs).length=Q.length->(X++SL n o4 o5 rs cs ps T)[X.length+2+Q.length+1]? = some (.arr b1 [I (n:Int),mg lines]):=fun {X o4 o5 rs cs ps} hz=>by
  rw [hT,List.getElem?_append_right (by omega),show X.length+2+Q.length+1-X.length=Q.length+1+2 by omega];show (List.zipWith Ob.arr rs cs++[Ob.arr b2 [.zn,.zn],Ob.arr b1 [I (n:Int),mg lines]])[Q.length+1]? = _;rw [List.getElem?_append_right (by omega),hz,Zcy];rfl
 have l1:∀ op:AV->OP,zH (.ptr b1 (0+1)) h3 op=op (mg lines):=fun op=>H3.load (i:=0+1) (tl (X:=[]) (xJ S)) rfl;rw [F88.t63,zA,zA,F88.bV,sFx,l1,zZ,uf,zB,F88.v17];by_cases ci:i<lines.length
 case neg =>
  rw [Zab (by omega),zC,zX,yF,zA,F88.zou];have hpl:ps.length<=33:=by omega
  refine H3.alloc fun b3 h4 nx4 H4 => ?_;have H4:=(H4.eG 1).eG 1;rw [zA,zA,F88.zfa,zL];refine F88.zyn (fun m x29 h' nx'=>∃ (c:Nat) (o6 o7:Option Pa) (rb:List Pa) (cb:List (List AV)),x29=I (c:Int)/\m+c=n/\SM rb cb ((frQ c ps).map (au n Q ps))/\Hp h h' nx' (.gro o6 1 (frQ c ps).length ((frQ c ps).map fun p=>I ((p:Nat):Int))::.gro o7 1 rb.length (rb.map (rwV n))::.arr b3 [ve o6 1 (frQ c ps).length,ve o7 1 rb.length]::(List.zipWith Ob.arr rb cb++SL n o4 o5 rs cs ps T))) (m:=n) (by omega) ⟨0,none,none,[],[],rfl,by omega,⟨rfl,rfl,fun a ha=>by simp [frQ] at ha⟩,H4⟩ ?_;rintro m2 y13 y14 y15 y16 y29 y30 y31 y32 y33 y34 y35 h5 nx5 R2 ⟨c,o6,o7,rb,cb,rfl,hmc,S2,H5⟩ hR2;have hfl:=zk6 c ps;have hrb:rb.length=(frQ c ps).length:=by rw [S2.lr,Zaz]
  obtain ⟨P,hP⟩:∃ P:List Ob,P=.gro o6 1 (frQ c ps).length ((frQ c ps).map fun p=>I ((p:Nat):Int))::.gro o7 1 rb.length (rb.map (rwV n))::.arr b3 [ve o6 1 (frQ c ps).length,ve o7 1 rb.length]::List.zipWith Ob.arr rb cb:=⟨_,rfl⟩;have eP:(.gro o6 1 (frQ c ps).length ((frQ c ps).map fun p=>I ((p:Nat):Int))::.gro o7 1 rb.length (rb.map (rwV n))::.arr b3 [ve o6 1 (frQ c ps).length,ve o7 1 rb.length]::(List.zipWith Ob.arr rb cb++SL n o4 o5 rs cs ps T))=P++SL n o4 o5 rs cs ps T:=by rw [hP];rfl
  have H5p:=H5.cast eP;rw [F88.t101,zA,F88.qbc,uf,zA,zB,F88.v30];by_cases cc:c<n
  case neg =>
   obtain rfl:c=n:=by omega
   rw [Zab (by omega),zC,zX,yF,zA,F88.zyo,H5.zx (k:=2) (n:=2) rfl rfl];rw [hT] at H5p;refine H5p.jb (l2:=[ve o6 1 (frQ c ps).length,ve o7 1 rb.length]) (gpT S P) rfl rfl fun h6 H6 => ?_;simp only [zK,zR];have hb2:((P++SL c o4 o5 rs cs ps [.arr b2 [.zn,.zn],.arr b1 [I (c:Int),mg lines]]).set (P.length+(Q.length+2)) (.arr b2 [ve o6 1 (frQ c ps).length,ve o7 1 rb.length]))[P.length+(Q.length+2)]? = some (.arr b2 [ve o6 1 (frQ c ps).length,ve o7 1 rb.length]):=List.getElem?_set_self (List.getElem?_eq_some_iff.1 (gpT S P)).1;rw [F88.ret,H6.zx (n:=2) hb2 rfl];have hPl:3<=P.length:=by rw [hP];simp
   have old:∀ i,i<P.length->((P++SL c o4 o5 rs cs ps [.arr b2 [.zn,.zn],.arr b1 [I (c:Int),mg lines]]).set (P.length+(Q.length+2)) (.arr b2 [ve o6 1 (frQ c ps).length,ve o7 1 rb.length]))[i]? = P[i]? := fun i hi=>by
    rw [List.getElem?_set_ne (by omega),List.getElem?_append_left hi]
   have F6:sS h h6 (ve o6 1 (frQ c ps).length) (.lst 1 (frQ c ps).length ((frQ c ps).map fun p=>I ((p:Nat):Int))):=H6.zeb (k:=0) (by rw [old 0 (by omega),hP];rfl) fun v hv=>by
    obtain ⟨x,_,rfl⟩:=List.mem_map.1 hv;rfl
   have hcl:=S2.lc;have F7:sS h h6 (ve o7 1 rb.length) (.lst 1 rb.length (cb.map fun d=>.lst 4 c d)):=zv7 H6 (k:=1) (by rw [old 1 (by omega),hP];rfl) (by rw [Zaz,Zaz,hcl,S2.lr]) (List.all_eq_true.2 fun v hv=>by obtain ⟨x,_,rfl⟩:=List.mem_map.1 hv;rfl) fun a v v' h1 h2=>by
    rw [List.getElem?_map] at h1 h2;have ha:a<rb.length:=by
     rcases Zdr a rb.length with q | q
     ·exact q
     ·rw [List.getElem?_eq_none q] at h1;cases h1
    have hac:a<cb.length:=by rw [hcl,<- S2.lr];exact ha
    rw [List.getElem?_eq_getElem ha] at h1;rw [kK (d:=[]) hac] at h2;obtain rfl:=Option.some.inj h1;obtain rfl:=Option.some.inj h2;have hrow:=S2.row a (by rw [<- S2.lr];exact ha);refine H6.zqp (k:=3+a) ?_ (Zaf _) ?_ hrow.fix
    ·rw [old (3+a) (by rw [hP];simp only [Zbx];rw [xJ S2,<- S2.lr];omega),hP,Zda 3 a];show (List.zipWith Ob.arr rb cb)[a]? = _;rw [List.getElem?_zipWith,List.getElem?_eq_getElem ha,kK (d:=[]) hac]
    ·rw [hrow.1,Zaa,List.getElem?_map,kK (d:=0) (show a<(frQ c ps).length by omega)];show (au _ _ _ _).length*4=_;rw [zb9]
   refine hK _ _ _ _ (.agg [.lst 1 (frQ c ps).length ((frQ c ps).map fun p=>I ((p:Nat):Int)),.lst 1 rb.length (cb.map fun d=>.lst 4 c d)]) H6 (Frz.agg _ _ rfl rfl fun j v v' h1 h2 => ?_) ⟨Q,ps,⟨⟨O,hS⟩,by omega,hdot,fun f hf hk=>⟨hf,fun l hl=>by
    obtain ⟨b,hb⟩:=List.mem_iff_getElem?.1 hl;have hbl:=(List.getElem?_eq_some_iff.1 hb).1;have e:=znb (hcv b (by omega) f hf hk);rw [Zaa,hb] at e;exact e⟩⟩,cb,hcl,S2.row,by rw [S2.lr]⟩
   match j,h1,h2 with
   | 0,h1,h2=>cases h1;cases h2;exact F6
   | 1,h1,h2=>cases h1;cases h2;exact F7
   | j+2,h1,h2=>simp at h1
  rw [Zac (by omega),zE,zF,zA,zL,zA,F88.zn8,zA,zA,F88.ze7];refine zv2 H5p (gp5 P) (by omega) ?_;rw [zB,F88.v31];have hfs:=zsx (c:=c) (ps:=ps);by_cases hc:c∈ps
  ·rw [if_pos hc,Zcg] at hfs;rw [Zac hc,zE,zX,yF,F88.zwo,gu (by omega)];exact hR2 (m2-1) _ _ _ _ _ _ _ _ _ _ _ _ _ (by omega) ⟨c+1,o6,o7,rb,cb,by congr 1,by omega,by rw [hfs];exact S2,by rw [hfs];exact H5⟩
  rw [if_neg hc] at hfs;rw [Zab hc,zC,zF,zA,F88.zjk];refine zgo H5p (by omega) fun ib c0 h6 nx6 hc0 H6 => ?_;rw [zA,F88.qbe];refine f89 (by omega) _ _ _ _ ?_;rintro _ ⟨s,w,s',w',rfl,i1,i2⟩ _;rw [rat1] at i1 i2;have hc0l:=hc0.1;rw [Zba] at hc0l;rw [oN (j:=c) rfl cc];refine H6.sW (k:=0) (off:=c*4) rfl (by omega) rfl fun h7 H7 => ?_;have hc1:rZ (gL c0 (c*4) [s,w,s',w']) (wA n c):=hc0.put (by rw [Zba];exact cc) i1 i2;have H7:Hp h h7 nx6 ((.arr ib (gL c0 (c*4) [s,w,s',w'])::P)++SL n o4 o5 rs cs ps T):=H7;rw [zA,zA,F88.qbf,H7.zbr (gp5 (_::P)),zL];refine F88.qbk (fun m x34 h' nx'=>∃ (k:Nat) (c1:List AV),x34=I (k:Int)/\m+k=Q.length/\rZ c1 (oG c ((sQ Q ps).take k) (wA n c))/\Hp h h' nx' ((.arr ib c1::P)++SL n o4 o5 rs cs ps T)) (m:=Q.length) (by omega) ⟨0,_,rfl,rfl,hc1,H7⟩ ?_;rintro m3 u15 u16 u34 u35 h8 nx8 R3 ⟨k,c1,rfl,hmk,hc1,H8⟩ hR3;rw [F88.t87,zA,F88.qbg,uf,zA,zB,F88.v35];by_cases ck:k<Q.length
  ·have hpk:ps[k]? = some (ps.getD k 0):=kK (by omega);have hpn:=hS.rng _ (Zad hpk);obtain ⟨rk,hrk0,hob⟩:=S.ob (n:=n) (o4:=o4) (o5:=o5) (ps:=ps) (T:=T) ck (.arr ib c1::P);obtain ⟨id5,g5,d5⟩:=H8.zcz (j:=k) (gp5 (_::P)) (show (ps.map fun p=>I ((p:Nat):Int))[k]? = some (I ((ps.getD k 0:Nat):Int)) by rw [List.getElem?_map,hpk];rfl);obtain ⟨id4,g4,d4⟩:=H8.zcz (j:=k) (gp4 (_::P)) (show (rs.map (rwV n))[k]? = some (rwV n rk) by rw [List.getElem?_map,hrk0];rfl);have hrow:=S.row k ck;have hok:=hS.row _ (jY (d:=[]) ck);obtain ⟨cs2,e1,e2,_,fv⟩:=hrow.get (wJ (q:=Q.getD k []) (j:=c) (by rw [hok];exact cc));have hcl:=hc1.1;rw [mH,wR] at hcl;rw [Zac (by omega),zE,zF,zA,zL,zA,F88.qbh,g5,d5,F88.qbi,g4,d4,oN (j:=c) rfl cc,H8.qc hob e2 e1];refine zks fv _ _ _ _ ?_;rintro _ ⟨s2,w2,s2',w2',rfl,j1,j2⟩ _;rw [oN (j:=ps.getD k 0) rfl hpn];refine H8.sW (k:=0) (off:=ps.getD k 0*4) rfl (by omega) rfl fun h9 H9 => ?_;rw [F88.qbj,gu (by omega)];refine hR3 (m3-1) _ _ _ _ _ _ (by omega) ⟨k+1,_,by congr 1,by omega,?_,H9⟩;rw [uF hS.len ck,zde];exact hc1.put (by rw [mH,wR];exact hpn) j1 j2
  obtain rfl:k=Q.length:=by omega
  rw [Zae (by unfold sQ;rw [List.length_zip];omega)] at hc1;have H8:=H8;rw [hP] at H8;have H8:Hp h h8 nx8 (.arr ib c1::.gro o6 1 (frQ c ps).length ((frQ c ps).map fun p=>I ((p:Nat):Int))::.gro o7 1 rb.length (rb.map (rwV n))::.arr b3 [ve o6 1 (frQ c ps).length,ve o7 1 rb.length]::(List.zipWith Ob.arr rb cb++SL n o4 o5 rs cs ps T)):=H8;have l0:∀ op:AV->OP,zH (.ptr b3 (0+0)) h8 op=op (ve o6 1 (frQ c ps).length):=fun op=>H8.load (k:=3) (i:=0+0) rfl rfl;have l1:∀ op:AV->OP,zH (.ptr b3 (0+1)) h8 op=op (ve o7 1 rb.length):=fun op=>H8.load (k:=3) (i:=0+1) rfl rfl;have k1:((gY (bW 1 [(I 0)]) [(0,1,I (c:Int))]).isSome&&true)=true:=rfl;have k2:((gY (bW 1 [.zn]) [(0,1,rwV n ib)]).isSome&&true)=true:=rfl;rw [Zab (by omega),zC,zX,yF,F88.qbl];simp only [sFx,l0,l1,k1,k2,jQ];refine H8.wz (l:=[I (c:Int)]) rfl fun ta h9 nx9 H9 => ?_;have l0:∀ op:AV->OP,zH (.ptr b3 (0+0)) h9 op=op (ve o6 1 (frQ c ps).length):=fun op=>H9.load (k:=4) (i:=0+0) rfl rfl;have l1:∀ op:AV->OP,zH (.ptr b3 (0+1)) h9 op=op (ve o7 1 rb.length):=fun op=>H9.load (k:=4) (i:=0+1) rfl rfl;simp only [l0,l1,zG];refine H9.appN (k:=2) (o:=o6) (c:=1) (new:=[I (c:Int)]) rfl (ug.rd (l:=[I (c:Int)]) (n:=1) (H9.own _ (Zal ..)) rfl) rfl rfl (by decide) (by decide) (by omega) fun o6' h10 nx10 _ H10 => ?_;have l0:∀ op:AV->OP,zH (.ptr b3 (0+0)) h10 op=op (ve o6 1 (frQ c ps).length):=fun op=>H10.load (k:=4) (i:=0+0) rfl rfl;have l1:∀ op:AV->OP,zH (.ptr b3 (0+1)) h10 op=op (ve o7 1 rb.length):=fun op=>H10.load (k:=4) (i:=0+1) rfl rfl;simp only [l0,l1,zG];refine H10.wz (l:=[rwV n ib]) rfl fun tb h11 nx11 H11 => ?_;have l0:∀ op:AV->OP,zH (.ptr b3 (0+0)) h11 op=op (ve o6 1 (frQ c ps).length):=fun op=>H11.load (k:=5) (i:=0+0) rfl rfl;have l1:∀ op:AV->OP,zH (.ptr b3 (0+1)) h11 op=op (ve o7 1 rb.length):=fun op=>H11.load (k:=5) (i:=0+1) rfl rfl;simp only [l0,l1,zG];refine H11.appN (k:=4) (o:=o7) (c:=1) (new:=[rwV n ib]) rfl (ug.rd (l:=[rwV n ib]) (n:=1) (H11.own _ (Zal ..)) rfl) rfl rfl (by decide) (by decide) (by omega) fun o7' h12 nx12 _ H12 => ?_;refine H12.store (k:=5) rfl (by simp) (d8 _ _ _) fun h13 H13 => ?_;refine H13.store (k:=5) rfl (by simp) (d8 _ _ _) fun h14 H14 => ?_;have H15:Hp h h14 nx12 (.arr ib c1::.gro o6' 1 ((frQ c ps).length+1) (((frQ c ps).map fun p=>I ((p:Nat):Int))++[I (c:Int)])::.gro o7' 1 (rb.length+1) (rb.map (rwV n)++[rwV n ib])::.arr b3 [ve o6' 1 ((frQ c ps).length+1),ve o7' 1 (rb.length+1)]::(List.zipWith Ob.arr rb cb++SL n o4 o5 rs cs ps T)):=H14.drop.drop;have H16:=H15.perm zna;rw [F88.zwo,gu (by omega)];refine hR2 (m2-1) _ _ _ _ _ _ _ _ _ _ _ _ _ (by omega) ⟨c+1,o6',o7',rb++[ib],cb++[c1],by congr 1,by omega,?_,H16.cast ?_⟩
  ·rw [hfs,Zav];exact S2.add hc1
  ·rw [hfs,zkv (by rw [S2.lr,S2.lc])];simp only [Zan,Zav,Zcq,Zbt,List.map_nil]
 have hx0:lines[0]? = some (lines.getD 0 []):=kK (by omega);have hxi:lines[i]? = some (lines.getD i []):=kK ci;have hm1:=hll _ (jY (d:=[]) (show 0<lines.length by omega));have hmi:=hll _ (jY (d:=[]) ci);obtain ⟨t,ht,hd⟩:=hS.den;obtain ⟨M,hMe⟩:∃ M,M=SB Q.length:=⟨_,rfl⟩;rw [<- hMe] at ht hd;have hM1:1<=M:=by rw [hMe];exact zi5 _
 have hMS:M<=SB 33:=by rw [hMe];exact zk3 (by omega)
 obtain ⟨N,hNe⟩:∃ N,N=M+Q.length*M:=⟨_,rfl⟩;have hNS:N<=34*SB 33:=by
  have h1:=Zbc Q.length hMS;have h2:=Zai (SB 33) (show Q.length<=33 by omega);omega
 have hMN:M<=N:=by rw [hNe];exact Nat.le_add_right _ _
 have hX1:M*(N*M)<=XB:=Zbd hMS (Zbd hNS hMS);have hX2:N*M<=M*(N*M):=Nat.le_mul_of_pos_left _ hM1;have hX3:N<=N*M:=Nat.le_mul_of_pos_right _ hM1;have hN:N<=XB:=by omega
 have hMX:M<=XB:=by omega
 rw [Zac (by omega),zE,zF,zA,zL,zA,F88.sD,sFx,l1,ni (i:=i) rfl ci,ldL (getT hxi)];refine pV H3 (by omega) (by omega) (zgu hr ci) fun r cr h4 nx4 hcr H4 => ?_;have l1':∀ op:AV->OP,zH (.ptr b1 (0+1)) h4 op=op (mg lines):=fun op=>H4.load (i:=0+1) (tl (X:=[Ob.arr r cr]) (xJ S)) rfl;rw [zA,F88.ax,sFx,l1',ni (j:=0) (i:=0) rfl (by omega),ldL (getT hx0)];refine f89 (by omega) _ _ _ _ ?_;rintro v1 f1 _;rw [rat1] at f1;rw [ldL (getT hx0)];simp only [zG,l1',sFx];rw [ni (j:=0) (i:=0) rfl (by omega)];simp only [zG];refine pV H4 (by omega) (by omega) (zgu hr (by omega)) fun r0 cr0 h5 nx5 hcr0 H5 => ?_;have d01:∀ (l:List Int) (j:Nat),Qs 10 (at' (fZ n l) j):=fun l j=>Sg.q1 (by rcases zep n l j with e | e <;> rw [e];exact .inr (.inl rfl);exact .inr (.inr rfl));have q7:∀ {j:Nat} {q:Rat},Dn (t j) M q->Qs 10 q:=fun {j q} hq=>hq.qX (ht j).1 (ht j).2 hMX
 refine zeo (kr:=1) (ko:=0) (k:=10) H5 rfl rfl (by omega) hcr hcr0 (jT _ _) (jT _ _) (by omega) f1 (by omega) (Sg.q1 (.inr (.inr rfl))) (pD fun j=>d01 _ j) (pD fun j=>d01 _ j) (fun x hx=>by
  obtain ⟨j,_,rfl⟩:=at_mem hx;rw [Rat.one_mul];exact d01 _ j) fun c1 h6 nx6 hc1 H6 => ?_
 have H6:=H6.drop;rw [zA,zA,F88.nR,H6.zbr (k:=2) rfl,zL];refine F88.znk (fun m x20 h' nx'=>∃ (k:Nat) (c:List AV) (q:List Rat),x20=I (k:Int)/\m+k=Q.length/\rZ c q/\Rvq n t M Q ps (aO n lines i) k q/\Hp h h' nx' ([.arr r c]++SL n o4 o5 rs cs ps T)) (m:=Q.length) (by omega) ⟨0,c1,_,rfl,rfl,hc1,Rvq.zero (fun j=>(ht j).2) (pN ..) (bI n lines i),H6⟩ ?_;rintro m2 y8 y9 y20 y21 h7 nx7 R2 ⟨k,c,q,rfl,hmk,hcq,hrk,H7⟩ hR2;rw [F88.t20,zA,F88.fM,uf,zA,zB,F88.v21];by_cases ck:k<Q.length
 ·have hpk:ps[k]? = some (ps.getD k 0):=kK (by omega);have hpn:=hS.rng _ (Zad hpk);obtain ⟨rk,hrk0,hob⟩:=S.ob (n:=n) (o4:=o4) (o5:=o5) (ps:=ps) (T:=T) ck [.arr r c];obtain ⟨id5,g5,d5⟩:=H7.zcz (k:=2) (j:=k) rfl (show (ps.map fun p=>I ((p:Nat):Int))[k]? = some (I ((ps.getD k 0:Nat):Int)) by rw [List.getElem?_map,hpk];rfl);obtain ⟨id4,g4,d4⟩:=H7.zcz (k:=1) (j:=k) rfl (show (rs.map (rwV n))[k]? = some (rwV n rk) by rw [List.getElem?_map,hrk0];rfl);obtain ⟨cs2,e1,e2,_,fv⟩:=hcq.get (wJ (q:=q) (j:=ps.getD k 0) (by rw [hrk.len];exact hpn));have hkN:M+k*M<=N:=by rw [hNe];have:=Zai M (show k<=Q.length by omega);omega
  have hb:Sg (at' q (ps.getD k 0)):=by rw [hrk.late k (Zaf _) ck];exact bI ..
  rw [Zac (by omega),zE,zF,zA,zL,zA,F88.ng,g5,d5,F88.rq,oN (j:=ps.getD k 0) rfl hpn,H7.qc (k:=0) rfl e2 e1,g4,d4]
  refine zeo (kr:=0) (ko:=[Ob.arr r c].length+(k+2)) (k:=10) H7 rfl hob (by show 1+(k+2)≠0;omega) hcq (S.row k ck) hrk.len (hS.row _ (jY ck)) (by omega) fv (by omega) hb.q1 (pD fun j=>((hrk.den j).mono hkN).qX (ht j).1 (by have:=(ht j).2;omega) hN) (pD fun j=>q7 (hd _ (jY ck) j)) (fun x hx=>by
   obtain ⟨j,_,rfl⟩:=at_mem hx;exact q7 (hb.mul (hd _ (jY ck) j))) fun c' h8 nx8 hc' H8 => ?_
  rw [F88.rV,gu (by omega)];exact hR2 (m2-1) _ _ _ _ _ _ (by omega) ⟨k+1,c',_,by congr 1,by omega,hc',hrk.next hS hd (bI n lines i) ck,H8⟩
 obtain rfl:k=Q.length:=by omega
 rw [Zab (by omega),zC,zX,yF,zA,F88.eH,vw (by omega),zA,zL];have hq0:∀ f,Mgf n lines f->dot q f=0:=fun f hfm=>by
  rw [hrk.eq,pP (n:=n) _ _ (fun x hx => ?_) (pN ..),zso hfm ci];have hz:=Zdw (Zcz hx);exact ⟨hS.row _ hz.1,hdot f hfm _ hz.1⟩
 have hqr:∀ f:List Rat,(∀ q∈Q,dot q f=0)->dot q f=dot (aO n lines i) f:=fun f hf=>by
  rw [hrk.eq,pP (n:=n) _ _ (fun x hx => ?_) (pN ..)];have hz:=Zdw (Zcz hx);exact ⟨hS.row _ hz.1,hf _ hz.1⟩
 refine F88.znf (fun m x10 h' nx'=>∃ z:Int,x10=I z /\ -1<=z/\z<(n:Int)/\(m:Int)=z+1/\(∀ b:Nat,z<(b:Int)->at' q b=0)/\h'=h7/\nx'=nx7) (m:=n) (by omega) ⟨(n:Int)-1,rfl,by omega,by omega,by omega,fun b hb=>kH (by rw [hrk.len];omega),rfl,rfl⟩ ?_;rintro m3 w10 w22 h8 nx8 R3 ⟨z,rfl,hz1,hz2,hmz,hzb,rfl,rfl⟩ hR3;rw [F88.t30,zA,zA,F88.zcl,F88.zop,F88.ztv,bT];by_cases cz:0<=z
 case neg =>
  rw [Zab (by omega)];simp only [yM,wV,uGWf];rw [F88.zrh,F88.zjj];simp only [yM,zT];rw [zB,F88.v22,zC,zX,yF,zA,zA,F88.oU,uf,Zac (by omega),zB,F88.v23,zE,zX,yF,F88.zjh,gu (by omega)];rw [hT] at H7
  exact hR (m-1) _ _ _ _ _ _ _ _ _ _ _ _ _ _ _ _ _ _ _ _ _ (by omega) ⟨i+1,o4,o5,rs,cs,Q,ps,O,rfl,rfl,by congr 1,by omega,by omega,by omega,by omega,S,hS,hdot,fun i' hi f hf hk=>by
   by_cases e:i'=i
   ·rw [e,<- hqr f hk];exact vM _ _ fun b=>hzb b (by omega)
   ·exact hcv i' (by omega) f hf hk,H7.drop⟩
 obtain ⟨j,rfl⟩:∃ j:Nat,z=(j:Int):=⟨z.toNat,by omega⟩;have hjn:j<n:=by omega
 obtain ⟨cs2,e1,e2,_,fv⟩:=hcq.get (wJ (q:=q) (j:=j) (by rw [hrk.len];exact hjn));rw [Zac (by omega)];simp only [yT,uGWt];rw [oN (j:=j) rfl hjn,H7.qc (k:=0) rfl e2 e1];refine pX fv _ _ _ _ ?_;rintro _ rfl _;rw [F88.zrh,F88.zjj];simp only [yT,zV,dm];rw [zB,F88.v22];by_cases hv:at' q j=0
 ·rw [Zac (fV.2 (Rat.num_eq_zero.2 hv)),zE,zF,zL,F88.tC,vw (by omega)]
  exact hR3 (m3-1) _ _ _ _ (by omega) ⟨(j:Int)-1,rfl,by omega,by omega,by omega,fun b hb=>by
   by_cases e:b=j
   ·rw [e];exact hv
   ·exact hzb b (by omega),rfl,rfl⟩
 rw [Zab (fun w=>hv (Rat.num_eq_zero.1 (fV.1 w))),zC,zX,yF,zA,zA,F88.oU,uf,Zab (by omega),zB,F88.v23,zC,zF,zA,F88.ay,oN (j:=j) rfl hjn,H7.qc (k:=0) rfl e2 e1];have hrd:∀ b,Dn (t b) N (at' q b):=fun b=>by rw [hNe];exact hrk.den b
 obtain ⟨s,s1,sN,dinv,dmul⟩:=zv3 (ht j).1 hv (hrd j);have hqs:∀ b,Qs 10 (at' q b):=fun b=>(hrd b).qX (ht b).1 (Zbi (ht b).2 hMN) hN;refine zkt fv (k:=10) (by omega) (hqs j) hv _ _ _ _ ?_;rintro v2 f2 _;refine zsm (kr:=0) (k:=10) H7 rfl hcq hrk.len (by omega) f2 (by omega) ((dinv.mono (Zbi (ht j).2 hMN)).qX s1 sN hN) (pD hqs) fun c2 h9 nx9 hc2 H9 => ?_;have H9:Hp h h9 nx9 ([.arr r c2]++SL n o4 o5 rs cs ps T):=H9;have hNw:Nv n Q ps j (gM (at' q j)⁻¹ q):=by
  refine ⟨by rw [d7];exact hrk.len,by rw [vV];grind,fun b hb=>by rw [vV,hrk.done b hb hb,Zfa],hjn,fun b hb=>by rw [vV,hzb b (by omega),Zfa]⟩
 have hsd:∀ b,Dn (t b*s) (N*M) (at' (gM (at' q j)⁻¹ q) b):=fun b=>by
  rw [vV];exact (dmul (hrd b)).mono (Zbc _ (ht j).2)
 have htb:∀ b,1<=t b*s/\t b*s<=N*M:=fun b=>⟨Nat.mul_pos (ht b).1 s1,by rw [Zaq N M];exact Zbd (ht b).2 sN⟩;have hqk:∀ f:List Rat,f.length=n->(∀ q∈Q,dot q f=0)->dot (aO n lines i) f=0->dot (gM (at' q j)⁻¹ q) f=0:=fun f _ hf h0=>by
  rw [dH,hqr f hf,h0,Zcp]
 have hqb:∀ f:List Rat,(∀ q∈Q,dot q f=0)->dot (gM (at' q j)⁻¹ q) f=0->dot (aO n lines i) f=0:=fun f hf h0=>by
  rw [dH] at h0;rw [<- hqr f hf];grind
 have hq2:∀ f,Mgf n lines f->dot (gM (at' q j)⁻¹ q) f=0:=fun f hfm=>by rw [dH,hq0 f hfm,Zcp]
 obtain ⟨q2,hq2e⟩:∃ q2,q2=gM (at' q j)⁻¹ q:=⟨_,rfl⟩;rw [<- hq2e] at hc2 hNw hq2 hsd hqk hqb;have hnl:(uU Q j q2).length=Q.length:=by unfold uU;rw [Zaz]
 rw [zA,zA,F88.zaf,H9.zbr (k:=1) rfl,zL];refine F88.zos (fun m x26 h' nx'=>∃ (k:Nat) (cs':List (List AV)),x26=I (k:Int)/\m+k=Q.length/\SM rs cs' ((uU Q j q2).take k++Q.drop k)/\Hp h h' nx' ([.arr r c2]++SL n o4 o5 rs cs' ps T)) (m:=Q.length) (by omega) ⟨0,cs,rfl,rfl,by rw [Zdy,Zcs,Zdx];exact S,H9⟩ ?_;rintro m4 u11 u26 u27 h10 nx10 R4 ⟨k,cs',rfl,hmk4,S',H10⟩ hR4;have hml:((uU Q j q2).take k++Q.drop k).length=Q.length:=by rw [Zan,Zau,Zdk];omega
 have hrl:=S.lr;rw [F88.t47,zA,F88.ze0,uf,zA,zB,F88.v27];by_cases ck:k<Q.length
 ·have hQk:Q[k]? = some (Q.getD k []):=kK ck;have hmk:((uU Q j q2).take k++Q.drop k)[k]? = some (Q.getD k []):=qeh hnl hQk;have hmg:((uU Q j q2).take k++Q.drop k).getD k []=Q.getD k []:=by rw [Zaa,hmk];rfl
  have hnk:(uU Q j q2)[k]? = some (gG (at' (Q.getD k []) j) (Q.getD k []) q2):=by unfold uU;rw [List.getElem?_map,hQk];rfl
  obtain ⟨rk,hrk0,hob⟩:=S'.ob (n:=n) (o4:=o4) (o5:=o5) (ps:=ps) (T:=T) (by rw [hml];exact ck) [.arr r c2];have hrow:=S'.row k (by rw [hml];exact ck);rw [hmg] at hrow;obtain ⟨id4,g4,d4⟩:=H10.zcz (k:=1) (j:=k) rfl (show (rs.map (rwV n))[k]? = some (rwV n rk) by rw [List.getElem?_map,hrk0];rfl);have hok:=hS.row _ (jY (d:=[]) ck);obtain ⟨cs3,e3,e4,_,fo⟩:=hrow.get (wJ (q:=Q.getD k []) (j:=j) (by rw [hok];exact hjn));rw [Zac (by omega),zE,zF,zA,zL,zA,F88.qba,g4,d4,F88.qbb,oN (j:=j) rfl hjn,H10.qc hob e4 e3]
  refine zeo (kr:=[Ob.arr r c2].length+(k+2)) (ko:=0) (k:=10) H10 hob rfl (by show 0≠1+(k+2);omega) hrow hc2 hok hNw.len (by omega) fo (by omega) (q7 (hd _ (jY ck) j)) (pD fun b=>q7 (hd _ (jY ck) b)) (pD fun b=>(hsd b).qX (htb b).1 (htb b).2 (Zbi hX2 hX1)) (fun x hx=>by
   obtain ⟨b,_,rfl⟩:=at_mem hx;exact ((hd _ (jY ck) j).mul (hsd b)).qX (Nat.mul_pos (ht j).1 (htb b).1) (Zbd (ht j).2 (htb b).2) hX1) fun c' h11 nx11 hc' H11 => ?_
  obtain ⟨S2,eL⟩:=S'.put (n:=n) (o4:=o4) (o5:=o5) (ps:=ps) (T:=T) (by rw [hml];exact ck) hrk0 hc' [.arr r c2];rw [F88.zcn,gu (by omega)];exact hR4 (m4-1) _ _ _ _ _ (by omega) ⟨k+1,cs'.set k c',by congr 1,by omega,by rw [<- qaj hnl hnk];exact S2,H11.cast eL⟩
 obtain rfl:k=Q.length:=by omega
 rw [Zae (by omega),Zcf (by omega),Zcg] at S';rw [Zab (by omega),zC,zX,yF,F88.zaj];refine H10.wz (l:=[rwV n r]) rfl fun tb h11 nx11 H11 => ?_;refine H11.appN (k:=2) (o:=o4) (c:=1) (new:=[rwV n r]) rfl (ug.rd (l:=[rwV n r]) (n:=1) (H11.own _ (Zal ..)) rfl) rfl rfl (by decide) (by decide) (by omega) fun o4' h12 nx12 _ H12 => ?_;refine H12.wz (l:=[I (j:Int)]) rfl fun tb2 h13 nx13 H13 => ?_;refine H13.appN (k:=4) (o:=o5) (c:=1) (new:=[I (j:Int)]) rfl (ug.rd (l:=[I (j:Int)]) (n:=1) (H13.own _ (Zal ..)) rfl) rfl rfl (by decide) (by decide) (by omega) fun o5' h14 nx14 _ H14 => ?_;have H15:Hp h h14 nx14 (.arr r c2::.gro o4' 1 (rs.length+1) (rs.map (rwV n)++[rwV n r])::.gro o5' 1 (ps.length+1) ((ps.map fun p=>I ((p:Nat):Int))++[I (j:Int)])::(List.zipWith Ob.arr rs cs'++T)):=H14.drop.drop;have H16:=H15.perm zsn;have eL:(.gro o4' 1 (rs.length+1) (rs.map (rwV n)++[rwV n r])::.gro o5' 1 (ps.length+1) ((ps.map fun p=>I ((p:Nat):Int))++[I (j:Int)])::((List.zipWith Ob.arr rs cs'++[Ob.arr r c2])++T))=SL n o4' o5' (rs++[r]) (cs'++[c2]) (ps++[j]) T:=by
  unfold SL;rw [zkv (by rw [S'.lr,S'.lc]),Zan,Zan,Zav,Zav];rfl
 have H17:=H16.cast eL;rw [hT] at H17;rw [F88.zjh,gu (by omega)];refine hR (m-1) _ _ _ _ _ _ _ _ _ _ _ _ _ _ _ _ _ _ _ _ _ (by omega) ⟨i+1,o4',o5',rs++[r],cs'++[c2],uU Q j q2++[q2],ps++[j],O++[aO n lines i],by rw [Zan];rfl,by rw [Zan];rfl,by congr 1,by omega,by omega,by omega,by rw [Zan,hnl,Zcq];omega,S'.add hc2,hS.next hNw (pN ..) (bI n lines i) hqk,fun f hfm q' hq' => ?_,fun i' hi f hf hk => ?_,H17⟩
 ·rcases List.mem_append.1 hq' with hq' | hq'
  ·obtain ⟨o,ho,rfl⟩:=List.mem_map.1 hq';rw [uY _ _ _ _ (by rw [hS.row o ho,hNw.len]),hdot f hfm o ho,hq2 f hfm,Zcp];grind
  ·obtain rfl:=List.mem_singleton.1 hq';exact hq2 f hfm
 ·have h2:=hk q2 (by simp);have h3:∀ o∈Q,dot o f=0:=fun o ho=>by
   have:=hk _ (Zdp _ (Zeu (f:=fun o=>gG (at' o j) o q2) ho));rw [uY _ _ _ _ (by rw [hS.row o ho,hNw.len]),h2,Zcp] at this
   grind
  by_cases e:i'=i
  ·rw [e];exact hqb f h3 h2
  ·exact hcv i' (by omega) f hf h3
end Go.Ev
namespace Go.Ev
open Go Go.Proofs
theorem RkG.allV {n:Nat} {O Q:List (List Rat)} {ps:List Nat} {g:List Rat} (hS:Sv n O Q ps) (hg:g.length=n):∀ k,k<=Q.length->RkG n Q ps g k (aG ((sQ Q ps).take k) g)
 | 0,_=>⟨rfl,hg,fun c=>by rw [Zdy,aG,oO];grind,fun b _ _=>rfl,fun b h=>by omega⟩
 | k+1,hk=>by
  have h:=RkG.allV hS hg k (by omega);have hk':k<Q.length:=by omega
  have hq:=jY (d:=[]) hk';have hll:(aG ((sQ Q ps).take k) g).length=(Q.getD k []).length:=by rw [h.len,hS.row _ hq]
  have hl:=h.late k (Zaf _) hk';refine ⟨rfl,?_,fun c => ?_,fun b h1 h2 => ?_,fun b h1 h2 => ?_⟩
  ·rw [uF hS.len hk',gS,gU hll];exact h.len
  ·rw [uF hS.len hk',gS,jS hll,h.val c,vS,hl];grind
  ·rw [uF hS.len hk',gS,jS hll,hS.one k b hk' h2,if_neg (by omega),h.late b (by omega) h2];grind
  ·rw [uF hS.len hk',gS,jS hll,hS.one k b hk' h2];by_cases e:b=k
   ·subst e;rw [if_pos rfl];grind
   ·rw [if_neg (by omega),h.done b (by omega) h2];grind
theorem Sv.nodup {n:Nat} {O Q:List (List Rat)} {ps:List Nat} (hS:Sv n O Q ps):ps.Nodup:=by
 rw [Zeq,Zex];intro a b ha hb hab e;have ha':a<Q.length:=by have:=hS.len;omega
 have hb':b<Q.length:=by have:=hS.len;omega
 have h1:=hS.one a a ha' ha';have h2:=hS.one a b ha' hb';have e1:ps.getD a 0=ps[a]:=by rw [Zaa,List.getElem?_eq_getElem ha];rfl
 have e2:ps.getD b 0=ps[b]:=by rw [Zaa,List.getElem?_eq_getElem hb];rfl
 rw [if_pos rfl,e1] at h1;rw [if_neg (by omega),e2,<- e,h1] at h2;exact absurd h2 (by decide)
theorem zsy {n:Nat} {O Q:List (List Rat)} {ps:List Nat} {f g:List Rat} (hS:Sv n O Q ps) (hg:g.length=n) (hq:∀ q∈Q,dot q f=0) (hb:∀ c,c<n->c∉ps->dot (au n Q ps c) g=0):dot g f=0:=by
 have h:=RkG.allV hS hg Q.length (Zaf _);have hlz:(sQ Q ps).length=Q.length:=by unfold sQ;rw [List.length_zip,hS.len,Nat.min_self]
 rw [Zae (by omega)] at h;rw [<- pP (n:=n) (f:=f) (sQ Q ps) g (fun x hx=>⟨hS.row _ (Zdw hx).1,hq _ (Zdw hx).1⟩) hg];refine vM _ _ fun c => ?_;by_cases hc:c<n
 ·by_cases hcp:c∈ps
  ·obtain ⟨b,hb1,hb2⟩:=Zer hcp;have e:ps.getD b 0=c:=by rw [Zaa,List.getElem?_eq_getElem hb1];exact hb2
   have:=h.done b (by have:=hS.len;omega) (by have:=hS.len;omega)
   rwa [e] at this
  ·have h1:=hb c hc hcp;unfold au at h1
   have h2:=zca (c:=c) hg (sQ Q ps) (wA n c) (wR n c) (by rw [zky hS.len];exact hS.nodup) (fun x hx=>by
    have hx2:=(Zdw hx).2;exact ⟨hS.rng _ hx2,zkx fun e=>hcp (e ▸ hx2)⟩)
   have h3:=h.val c;rw [Zae (by omega)] at h3;rw [h3];rw [zgp hg hc] at h2
   grind
 ·exact kH (by rw [h.len];omega)
theorem zdg {n c i:Nat} {O Q:List (List Rat)} {ps:List Nat} (hS:Sv n O Q ps) (hi:i<Q.length):∀ k,k<=Q.length->oO c (Q.getD i []) ((sQ Q ps).take k)=if i<k then at' (Q.getD i []) c else 0
 | 0,_=>by rw [Zdy,if_neg (by omega)];rfl
 | k+1,hk=>by
  rw [uF hS.len (by omega),vS,zdg hS hi k (by omega),hS.one i k hi (by omega)];by_cases e:i=k
  ·subst e;rw [if_neg (by omega),if_pos rfl,if_pos (by omega)];grind
  ·rw [if_neg e];by_cases c:i<k
   ·rw [if_pos c,if_pos (by omega)];grind
   ·rw [if_neg c,if_neg (by omega)];grind
theorem zv8 {n c:Nat} {O Q:List (List Rat)} {ps:List Nat} (hS:Sv n O Q ps) (hc:c<n) (hcp:c∉ps):∀ q∈Q,dot q (au n Q ps c)=0:=fun q hq=>by
 obtain ⟨i,hi⟩:=List.mem_iff_getElem?.1 hq;have hil:=(List.getElem?_eq_some_iff.1 hi).1;have hqi:Q.getD i []=q:=by rw [Zaa,hi];rfl
 have hg:=hS.row q hq
 have h2:=zca (c:=c) hg (sQ Q ps) (wA n c) (wR n c) (by rw [zky hS.len];exact hS.nodup) (fun x hx=>by
  have hx2:=(Zdw hx).2;exact ⟨hS.rng _ hx2,zkx fun e=>hcp (e ▸ hx2)⟩)
 have h3:=zdg (c:=c) hS hil Q.length (Zaf _);have hlz:(sQ Q ps).length=Q.length:=by unfold sQ;rw [List.length_zip,hS.len,Nat.min_self]
 rw [Zae (by omega),hqi,if_pos hil] at h3;rw [zgp hg hc,h3] at h2;rw [j8];unfold au
 grind
theorem zsz {n:Nat} {O Q:List (List Rat)} {ps:List Nat} (hS:Sv n O Q ps) (c:Nat):∃ t,1<=t/\t<=SB Q.length/\∀ j,Dn t (SB Q.length) (at' (au n Q ps c) j):=by
 obtain ⟨t,h1,h2,h3⟩:=hS.col c;refine ⟨t,h1,h2,fun j => ?_⟩;unfold au;refine zkw (P:=Dn t (SB Q.length)) c j _ _ (fun x hx => ?_) ?_
 ·exact (h3 _ (Zdw hx).1).neg
 ·rcases zsq n c j with e | e <;> rw [e]
  ·exact Dn.zero _ _
  ·exact Sg.dn (.inr (.inr rfl)) h2
end Go.Ev
namespace Go.Ev
open Go Go.Proofs
variable {B:Nat}
set_option maxRecDepth 100000
theorem zs3 {v:AV} {z:Int} (hv:bY v z):Pure Tryz.prog B 98 [v] (fun v=>∃ (n:Int) (ok:Bool),v=.tup [I n,.bool ok]/\(ok=true->n=z)/\(ok=false->9223372036854775808<=z.natAbs)):=by
 obtain ⟨s,w,rfl,hv⟩:=hv;refine yC fun h nx K H0 hK=>zQ zW yX 100 fun hf => ?_;rw [F98.go,F98.t3,zA,F98.jk];refine H0.box (l:=[s,w]) rfl fun pa h1 nx1 H1 => ?_;rw [zA,F98.ji,sFx,H1.load (k:=0) (i:=0+0) rfl rfl,sFx,H1.load (k:=0) (i:=0+1) rfl rfl];rcases hv with ⟨rfl,rfl,_⟩ | ⟨n,rfl,rfl,_,hb⟩
 ·rw [zel];simp only [zK,zR];rw [F98.ret];exact hK _ _ _ _ _ H1 (j7 (.int _ _) (.bool _)) ⟨_,true,rfl,fun _=>rfl,fun e=>absurd e (by decide)⟩
 ·have hl:1<=(dg 18446744073709551616 z.natAbs).length:=by rw [wO (by decide) (by omega)];simp
  rw [ziy hl];simp only [zK,zR];rw [F98.ret];exact hK _ _ _ _ _ H1 (j7 (.int _ _) (.bool _)) ⟨_,false,rfl,fun e=>absurd e (by decide),fun _=>hb⟩
theorem zs4 {n:Nat} {l:List AV} {h:T Blk} {op:AV->OP} (hl:n<=l.length):zD n (.fp l) h op=op (.agg (l.take n)):=by
 show (bif Nat.ble n l.length then op (.agg (l.take n)) else .no 8)=_;rw [Zag hl];rfl
theorem Hp.zs5 {h0 h:T Blk} {nx:Pa} {L:List Ob} {k e n m off:Nat} {id:Pa} {l l2:List AV} {op:AV->OP} (H:Hp h0 h nx L) (hk:L[k]? = some (.gro (some id) e n l)) (hle:off+m<=l.length) (he:(l.drop off).take m=l2):zD m (.ptr id off) h op=op (.agg l2):=by
 obtain ⟨t,h1,h2,h3⟩:=H.own _ (Zad hk);show ku (T.get .no id h) (fun _ m' t=>bif Nat.ble (off+m) m' then op (.agg (yL t off m)) else .no 8) (.no 9)=_;rw [h1];show (bif Nat.ble (off+m) (n*e) then op (.agg (yL t off m)) else .no 8)=_;rw [Zag (by omega),cond_true,bB (l:=l) (by rw [h2];exact h3) hle,he]
def zdh (c8:List AV) (x:Rat×Rat):Prop:=∃ s w s' w' a b a' b',c8=[s,w,s',w',a,b,a',b']/\fK s w x.1.num/\fK s' w' (x.1.den:Int)/\fK a b x.2.num/\fK a' b' (x.2.den:Int)
def zdi (c:List AV) (prs:List (Rat×Rat)):Prop:=c.length=prs.length*8/\∀ j x,prs[j]? = some x->zdh ((c.drop (j*8)).take 8) x
theorem zdi.add {c c8:List AV} {prs:List (Rat×Rat)} {x:Rat×Rat} (h:zdi c prs) (h8:zdh c8 x):zdi (c++c8) (prs++[x]):=by
 have hl8:c8.length=8:=by obtain ⟨s,w,s',w',a,b,a',b',rfl,_⟩:=h8;rfl
 refine ⟨by rw [Zan,Zan,h.1,hl8,Zcq];omega,fun j y hy => ?_⟩;by_cases e:j<prs.length
 ·rw [List.getElem?_append_left e] at hy;have:=h.2 j y hy;rw [List.drop_append_of_le_length (by rw [h.1];omega),List.take_append_of_le_length (by rw [Zdk,h.1];omega)];exact this
 ·have hj:=(List.getElem?_eq_some_iff.1 hy).1;rw [Zan,Zcq] at hj;obtain rfl:j=prs.length:=by omega
  rw [List.getElem?_append_right (Zaf _),Zdq] at hy;obtain rfl:=Option.some.inj hy;rw [<- h.1,List.drop_left,Zae (by omega)];exact h8
theorem zdh.fix {c8:List AV} {x:Rat×Rat} (h:zdh c8 x):∀ v∈c8,fO v=true:=fun v hv=>by
 obtain ⟨s,w,s',w',a,b,a',b',rfl,h1,h2,h3,h4⟩:=h;have:v∈[s,w,s',w']\/v∈[a,b,a',b']:=by
  simp only [Zao,List.not_mem_nil,or_false] at hv ⊢;rcases hv with h | h | h | h | h | h | h | h <;> simp [h]
 rcases this with q | q
 ·exact h1.oD h2 v q
 ·exact h3.oD h4 v q
theorem zs6 {h0 h:T Blk} {nx p b5:Pa} {L:List Ob} {k5 k:Nat} {rc c8:List AV} {x:Rat×Rat} {ra:Rat} {K:Kw Prop} (H:Hp h0 h nx L) (hk5:L[k5]? = some (.arr b5 rc)) (hr:jU (.agg rc) ra) (h8:zdh c8 x) (hk:k<=40000) (q1:Qs k x.1) (q2:Qs k x.2) (q3:Qs k ra) (q4:Qs k (ra*x.2)) (hK:∀ h' nx',Hp h0 h' nx' L->K (.bool (!decide (x.1=ra*x.2))) h' nx'=.ok True):(CS Tryz.prog B).fn 94 p [.agg c8,.ptr b5 0] h nx K=.ok True:=by
 obtain ⟨s,w,s',w',a,b,a',b',rfl,i1,i2,i3,i4⟩:=h8;have hrl:rc.length=4:=by obtain ⟨_,_,_,_,e,_⟩:=hr;rw [AV.agg.inj e];rfl
 refine zQ zW yX 100 fun hf => ?_;rw [F94.go,F94.t3,zA,F94.jk];refine H.box (l:=[s,w,s',w',a,b,a',b']) rfl fun bx h1 nx1 H1 => ?_;have l1:∀ op:AV->OP,zD 4 (.ptr bx (0+0)) h1 op=op (.agg [s,w,s',w']):=fun op=>H1.qc (k:=0) (off:=0+0) rfl (by simp) rfl;have l2:∀ op:AV->OP,zD 4 (.ptr bx (0+4)) h1 op=op (.agg [a,b,a',b']):=fun op=>H1.qc (k:=0) (off:=0+4) rfl (by simp) rfl;have l3:∀ op:AV->OP,zD 4 (.ptr b5 0) h1 op=op (.agg rc):=fun op=>H1.zx (k:=k5+1) (n:=4) hk5 hrl;rw [zA,F94.ji];simp only [sFx,l1,l2,l3];refine zen hr ⟨_,_,_,_,rfl,i3,i4⟩ hk q3 q2 _ _ _ _ ?_;rintro v6 f6 _;simp only [l1,zG];refine zv1 ⟨_,_,_,_,rfl,i1,i2⟩ f6 hk q1 q4 _ _ _ _ ?_;rintro _ rfl _;rw [jC];simp only [zK,zR];rw [F94.ret];exact hK _ _ H1.drop
theorem sIxG {id:Pa} {e n j:Nat} {z:Int} {op:AV->OP} (hz:z=(j:Int)) (hj:j<n):zM e (.sl id 0 n none e) (I z) op=op (.ptr id (j*e)):=by
 subst hz;rw [wU hj,Zbh]
theorem qan {h0 h:T Blk} {nx p b5:Pa} {L:List Ob} {kg k5 k:Nat} {o:Option Pa} {rc c:List AV} {prs:List (Rat×Rat)} {ra:Rat} {K:Kw Prop} (H:Hp h0 h nx L) (hkg:L[kg]? = some (.gro o 8 prs.length c)) (hc:zdi c prs) (hl:prs.length<=1000) (hk5:L[k5]? = some (.arr b5 rc)) (hr:jU (.agg rc) ra) (hk:k<=40000) (q12:∀ x∈prs,Qs k x.1/\Qs k x.2/\Qs k (ra*x.2)) (q3:Qs k ra)
  (hK:∀ (z:Int) h' nx',(0<=z↔∃ x∈prs,x.1≠ra*x.2)->Hp h0 h' nx' L->K (I z) h' nx'=.ok True):(CS Tryz.prog B).fn 195 p [ve o 8 prs.length,.fn 94 (.of 94) [.ptr b5 0]] h nx K=.ok True:=by
 refine zQ zW yX 2000 fun hf => ?_;rw [jo.go,jo.t22,zA,jo.jk,zA,zA,jo.ji,H.zbr hkg,zL];refine jo.zoo (fun m x5 h' nx'=>∃ i:Nat,x5=I (i:Int)/\m+i=prs.length/\(∀ x∈prs.take i,x.1=ra*x.2)/\Hp h0 h' nx' L) (m:=prs.length) (by omega) ⟨0,rfl,rfl,by simp,H⟩ ?_;rintro m z2 z3 z5 z6 z7 h3 nx3 R ⟨i,rfl,hm,hn,H3⟩ hR;rw [jo.t15,zA,jo.qh,uf,zA,zB,jo.v6];by_cases ci:i<prs.length
 ·have hx:prs[i]? = some prs[i]:=List.getElem?_eq_getElem ci;have h8:=hc.2 i _ hx;have hcl:=hc.1;obtain ⟨q1,q2,q4⟩:=q12 _ (Zbb ci);obtain ⟨id,rfl⟩:∃ id,o=some id:=by
   cases o with
   | none=>obtain ⟨_,hz⟩:=H3.own _ (Zad hkg);omega
   | some id=>exact ⟨id,rfl⟩
  rw [Zac (by omega),zE,zF,zA,zL,zA,jo.ny,zA,jo.bV];rw [show ve (some id) 8 prs.length=.sl id 0 prs.length none 8 from rfl,sIxG (j:=i) rfl ci,H3.zs5 hkg (by omega) rfl,zbp];refine zs6 H3 hk5 hr h8 hk q1 q2 q3 q4 fun h4 nx4 H4 => ?_;rw [zB,jo.v7];by_cases e:prs[i].1=ra*prs[i].2
  ·rw [Zac e,Zaj,zC,zF,jo.nS,gu (by omega)];refine hR (m-1) _ _ _ _ _ _ _ (by omega) ⟨i+1,by congr 1,by omega,fun x hx' => ?_,H4⟩;rw [Zas,hx,Zcn,Zbf,Zbj] at hx';rcases hx' with hx' | rfl
   ·exact hn x hx'
   ·exact e
  ·rw [Zab e,Zak,zE,zA,jo.bf];simp only [zK,uC,zR];rw [jo.ret];exact hK _ _ _ ⟨fun _=>⟨_,Zbb ci,e⟩,fun _=>by omega⟩ H4
 ·rw [Zab (by omega),zC,zX,yF,zA,jo.sV];simp only [zK,zR];rw [jo.ret];rw [Zae (by omega)] at hn;exact hK _ _ _ ⟨fun q=>by omega,fun ⟨x,hx,e⟩=>absurd (hn x hx) e⟩ H3
theorem zv9 {h0 h:T Blk} {nx p b5:Pa} {L:List Ob} {kg k5 k:Nat} {o:Option Pa} {rc c:List AV} {prs:List (Rat×Rat)} {ra:Rat} {K:Kw Prop} (H:Hp h0 h nx L) (hkg:L[kg]? = some (.gro o 8 prs.length c)) (hc:zdi c prs) (hl:prs.length<=1000) (hk5:L[k5]? = some (.arr b5 rc)) (hr:jU (.agg rc) ra) (hk:k<=40000) (q12:∀ x∈prs,Qs k x.1/\Qs k x.2/\Qs k (ra*x.2)) (q3:Qs k ra)
  (hK:∀ (b:Bool) h' nx',(b=true↔∃ x∈prs,x.1≠ra*x.2)->Hp h0 h' nx' L->K (.bool b) h' nx'=.ok True):(CS Tryz.prog B).fn 93 p [ve o 8 prs.length,.fn 94 (.of 94) [.ptr b5 0]] h nx K=.ok True:=by
 refine zQ zW yX 2000 fun hf => ?_;rw [F93.go,F93.t3,zA,F93.jk,zA,F93.ji];refine qan H hkg hc hl hk5 hr hk q12 q3 fun z h1 nx1 hz H1 => ?_;rw [bT];simp only [zK,zR];rw [F93.ret];exact hK _ _ _ (by rw [decide_eq_true_eq];exact hz) H1
theorem Dn.add {t M N:Nat} {p q:Rat} (hp:Dn t M p) (hq:Dn t N q):Dn t (M+N) (p+q):=by
 have:=hp.sub hq.neg;rw [show p - -q=p+q by grind] at this;exact this
theorem qem {m:Nat} (hm:m<=1000000) {K:AV->OP}:zh .quo .int (I (m:Int)) (I 2) K=K (I ((m / 2:Nat):Int)):=by
 rw [zx4 (by omega) (by decide),Int.tdiv_eq_ediv_of_nonneg (by omega)]
 congr 2
theorem zs7 (op:KW3->OP) (h:T Blk) (nx:Pa) (k:KW3):sGW (.bool true) false op h nx k=k .u h nx:=nr rfl
theorem zyc (op:KW3->OP) (h:T Blk) (nx:Pa) (k:KW3):sGW (.bool false) false op h nx k=op k:=nr rfl
def tV (b:List Rat) (j:Nat):Rat:=(b.take j).foldl (· + ·) 0
def su (b:List Rat) (l:List Int) (j:Nat):Rat:=(l.take j).foldl (fun s c=>s+at' b c.toNat) 0
theorem vR {b:List Rat} {j:Nat} (h:j<b.length):tV b (j+1)=tV b j+at' b j:=by
 unfold tV;rw [Zas,wJ h,Zcn,Zfc];rfl
theorem qG {b:List Rat} {l:List Int} {j:Nat} (h:j<l.length):su b l (j+1)=su b l j+at' b l[j].toNat:=by
 unfold su;rw [Zas,List.getElem?_eq_getElem h,Zcn,Zfc];rfl
def prQ (l:List Int) (b:List Rat):Rat×Rat:=(tV b b.length,su b l l.length)
theorem zes {b:List Rat} {n:Nat} (hb:b.length=n):tV b b.length=dot (List.replicate n 1) b:=by
 unfold tV;rw [Zae (Zaf _),zm3,hb,j8];grind
theorem bO {b:List Rat} {n:Nat} {l:List Int} (hb:b.length=n) (hl:AscL n l):∀ j,j<=l.length->su b l j=dot (fZ n (l.take j)) b
 | 0,_=>by
  have:dot (fZ n []) b=0:=vM _ _ (zcb n);rw [Zdy,this];rfl
 | j+1,hj=>by
  have hx:l[j]? = some l[j]:=List.getElem?_eq_getElem (by omega);rw [qG (by omega),bO hb hl j (by omega),Zas,hx,Zcn];refine (zeq hb (hl.2.2 _ (Zbb (by omega))) (fun hm => ?_) fun x hx=>(hl.2.2 _ (Zcz hx)).1).symm;obtain ⟨i,hi,he⟩:=Zer hm;rw [Zau] at hi;rw [List.getElem_take] at he;have:=List.pairwise_iff_getElem.1 hl.2.1 i j (by omega) (by omega) (by omega);omega
def zyd (n:Nat) (lines:List (List Int)) (x e:Int):Prop:=(e=0\/e=7\/e=21)/\(lines≠[]->∀ (f:List Rat) (k:Int),Mgf n lines f->dot f (List.replicate n 1)=(((n*(n+1) / 2:Nat):Int):Rat)->dot f (fZ n (lines.getD 0 []))=(k:Rat)->k.natAbs<9223372036854775808->(e=0->x=k)/\e≠21)/\(lines=[]->e=7)
def CstV (n:Nat) (lines:List (List Int)) (x e:Int):Prop:=zyd n lines x e/\(lines≠[]->∀ r:Rat,r≠0->(∀ f,Mgf n lines f->dot f (List.replicate n 1)=r*dot f (fZ n (lines.getD 0 [])))->(∃ u,Mgf n lines u/\dot u (fZ n (lines.getD 0 []))≠0)->e≠7)
theorem qen {X:Nat} (h:X<=16777216*(SB 33*SB 33)):X<18446744073709551616 ^ 10:=Zeh h (by unfold SB;decide)
theorem zi8 {n:Nat} {lines:List (List Int)} (hn:n<=256) (hl:lines.length<=34) (hll:∀ l∈lines,l.length<=256) (he:jI (n:Int) lines=0):Pure Tryz.prog B 21 [.agg [I (n:Int),mg lines]] (fun v=>∃ x e:Int,v=.tup [I x,I e]/\CstV n lines x e):=by
 obtain ⟨n',hn',_,_,_,hasc⟩:=zi7 he;have en:n'=n:=by omega
 rw [en] at hasc;have hr:∀ l∈lines,∀ c∈l,0<=c/\c<(n:Int):=fun l hlm=>(hasc l hlm).2.2;refine yC fun h nx K H0 hK=>zQ zW yX 1000 fun hf => ?_;have ret:∀ {x e:Int} {h1 nx1 L},Hp h h1 nx1 L->CstV n lines x e->K (.tup [I x,I e]) h1 nx1=.ok True:=fun H hc=>hK _ _ _ _ _ H (j7 (yB rfl) (yB rfl)) ⟨_,_,rfl,hc⟩;rw [F21.go,F21.t91,zA,F21.jk];refine H0.box (l:=[I (n:Int),mg lines]) rfl fun b1 h1 nx1 H1 => ?_;rw [zA,zA,F21.ji,H1.zx (k:=0) (n:=2) rfl rfl];refine zyb (fun q hq=>by have:=hll q hq;omega) _ _ _ _ ?_;rintro _ rfl _;rw [he,zA,F21.qh,di,Zac rfl,Zaj,zB,F21.v15,zC,zF,zA,zA,F21.sD,sFx,H1.load (k:=0) (i:=0+1) rfl rfl,zZ,dm,zB,F21.v16];by_cases c0:lines.length=0
 ·rw [Zac (by omega),zE,zA,F21.ax];simp only [zK,zR];rw [F21.ret];exact ret H1 ⟨⟨.inr (.inl rfl),fun hne=>absurd (Zbu c0) hne,fun _=>rfl⟩,fun hne=>absurd (Zbu c0) hne⟩
 have hx0:lines[0]? = some (lines.getD 0 []):=kK (by omega);have hm0:=jY (l:=lines) (d:=[]) (show 0<lines.length by omega);obtain ⟨l0,hl0⟩:∃ l0,l0=lines.getD 0 []:=⟨_,rfl⟩;rw [<- hl0] at hx0 hm0;have hl16:=hll _ hm0;have hr0:=hr _ hm0;rw [Zab (by omega),zC,zF,zA,F21.ng];refine H1.alloc fun b5 h2 nx2 H2 => ?_;rw [zA,F21.rq,zA,F21.sF,zA,zA,F21.nZ,H2.zx (k:=1) (n:=2) rfl rfl];refine znc hn hl hll hr _ _ _ _ ?_;rintro _ ⟨Q,ps,⟨⟨O,hS⟩,hQ33,hdot,hcv⟩,cb,hcl,hcr,rfl⟩ _;obtain ⟨M,hMe⟩:∃ M,M=SB Q.length:=⟨_,rfl⟩;have hM:M<=SB 33:=by rw [hMe];exact zk3 (by omega)
 have hM1:1<=M:=by rw [hMe];exact zi5 _
 obtain ⟨Bs,hBs⟩:∃ Bs,Bs=(frQ n ps).map (au n Q ps):=⟨_,rfl⟩;rw [<- hBs] at hcl hcr ⊢;have hBl:Bs.length<=256:=by rw [hBs,Zaz];exact Zbi (zk6 n ps) hn
 have hBn:∀ b∈Bs,b.length=n/\Mgf n lines b/\∃ t,1<=t/\t<=M/\∀ j,Dn t M (at' b j):=fun b hb=>by
  rw [hBs] at hb;obtain ⟨c,hc,rfl⟩:=List.mem_map.1 hb;unfold frQ at hc;obtain ⟨hc1,hc2⟩:=List.mem_filter.1 hc;exact ⟨zb9 ..,hcv _ (zb9 ..) (zv8 hS (List.mem_range.1 hc1) (by simpa using hc2)),by rw [hMe];exact zsz hS c⟩
 have hMM:M*M<=SB 33*SB 33:=Zbd hM hM;have hM2:M<=M*M:=Nat.le_mul_self M;obtain ⟨Z,hZ⟩:∃ Z,Z=SB 33*SB 33:=⟨_,rfl⟩;rw [<- hZ] at hMM;have qB:∀ {t N:Nat} {q:Rat},1<=t->t<=N->N<=16777216*Z->Dn t N q->Qs 10 q:=fun h1 h2 h3 hd=>hd.qs h1 h2 (qen (by rw [<- hZ];exact h3));rw [jR,zZ,zL];have H2:=H2.eG 8;refine F21.zot (fun m x6 x7 x19 h' nx'=>∃ (a:Nat) (o:Option Pa) (gc rc:List AV) (found:Bool) (ra:Rat),x6=.bool found/\x7=ve o 8 a/\x19=I (a:Int)/\m+a=Bs.length/\zdi gc ((Bs.take a).map (prQ l0))/\rc.length=4/\(found=true->jU (.agg rc) ra/\∃ s,1<=s/\s<=256*M/\Dn s (256*M) ra/\∃ b∈Bs,su b l0 l0.length≠0/\ra=tV b b.length / su b l0 l0.length)/\(found=false->∀ b∈Bs.take a,su b l0 l0.length=0)/\Hp h h' nx' [.gro o 8 a gc,.arr b5 rc,.arr b1 [I (n:Int),mg lines]]) (m:=Bs.length) (by omega) ⟨0,none,[],_,false,0,rfl,rfl,rfl,rfl,⟨rfl,fun j x hx=>by simp at hx⟩,rfl,fun e=>absurd e (by decide),fun _ b hb=>by simp at hb,H2⟩ ?_;rintro m z6 z7 z8 z9 z10 z11 z19 z20 z21 z22 z23 z24 z25 z26 z27 z28 z29 h3 nx3 R ⟨a,o,gc,rc,found,ra,rfl,rfl,rfl,hma,hgc,hrc,hfo,hnf,H3⟩ hR;rw [F21.t63,zA,F21.rV,uf,zA,zB,F21.v20];by_cases ca:a<Bs.length
 case neg =>
  obtain rfl:a=Bs.length:=by omega
  rw [Zab (by omega),zC,zX,yF,zA,zA,F21.zou];obtain ⟨prs,hprs⟩:∃ prs,prs=Bs.map (prQ l0):=⟨_,rfl⟩;rw [Zae (Zaf _),<- hprs] at hgc;have epl:Bs.length=prs.length:=by rw [hprs,Zaz]
  have pq:∀ b∈Bs,tV b b.length=dot b (List.replicate n 1)/\su b l0 l0.length=dot b (fZ n l0):=fun b hb=>by
   have hbn:=(hBn b hb).1;have h2:=bO hbn (hasc _ hm0) l0.length (Zaf _);rw [Zae (Zaf _)] at h2;rw [zes hbn,h2];exact ⟨j8 ..,j8 ..⟩
  have zs8:∀ {h1 nx1 L},Hp h h1 nx1 L->(∀ r:Rat,r≠0->(∀ b∈Bs,tV b b.length=r*su b l0 l0.length)->(∃ b∈Bs,su b l0 l0.length≠0)->False)->K (.tup [I 0,I 7]) h1 nx1=.ok True:=fun H hno=>ret H ⟨⟨.inr (.inl rfl),fun _ _ _ _ _ _ _=>⟨fun e=>absurd e (by decide),by decide⟩,fun _=>rfl⟩,fun _ r hr0 hrf ⟨u,hu,hun⟩=>False.elim (hno r hr0 (fun b hb=>by
   obtain ⟨e1,e2⟩:=pq b hb;rw [e1,e2,hrf b (hBn b hb).2.1,hl0]) (by
   refine Classical.byContradiction fun hall=>hun ?_;rw [j8];refine zsy hS (jT _ _) (hdot u hu) fun c hc hcp => ?_;have hmb:au n Q ps c∈Bs:=by
    rw [hBs];exact Zeu (by unfold frQ;rw [Zbw];exact ⟨List.mem_range.2 hc,by simp [hcp]⟩)
   rw [<- hl0,<- (pq _ hmb).2];exact Classical.byContradiction fun q=>hall ⟨_,hmb,q⟩))⟩
  rw [F21.zov,F21.ztw,jC];cases found with
  | false =>
   simp only [Zak,jK,wV,zs7];rw [F21.zrg,F21.zjl];simp only [jK,zV,wV,zs7];rw [F21.zka,F21.zdl];simp only [zV];rw [zB,F21.v30,zE,zA,F21.zfa];simp only [zK,zR];rw [F21.ret];refine zs8 H3 fun r _ _ ⟨b,hb,hb0⟩=>hb0 (hnf rfl b ?_);rw [Zae (Zaf _)];exact hb
  | true =>
  obtain ⟨fra,s,s1,sN,hra,b0,hb0m,hb0n,qeo⟩:=hfo rfl;have isr:∀ r:Rat,(∀ b∈Bs,tV b b.length=r*su b l0 l0.length)->ra=r:=fun r hr=>by
   rw [qeo,hr b0 hb0m,Zff];grind
  have qra:Qs 10 ra:=qB s1 sN (by omega) hra;simp only [Zaj,yS,zyc];rw [H3.zx (k:=1) (n:=4) rfl hrc];refine pX fra _ _ _ _ ?_;rintro _ rfl _;rw [F21.zrg,F21.zjl];simp only [yS,zT];rw [dm];by_cases hra0:ra=0
  ·rw [Zac (fV.2 (Rat.num_eq_zero.2 hra0))];simp only [jK,wV,zs7];rw [F21.zka,F21.zdl];simp only [zV];rw [zB,F21.v30,zE,zA,F21.zfa];simp only [zK,zR];rw [F21.ret];exact zs8 H3 fun r hr0 hr _=>hr0 ((isr r hr).symm.trans hra0)
  rw [Zab (fun q=>hra0 (Rat.num_eq_zero.1 (fV.1 q)))];simp only [yS,zyc];rw [epl] at H3;rw [show ve o 8 Bs.length=ve o 8 prs.length by rw [epl]];have hprB:∀ x∈prs,∃ t,1<=t/\t<=M/\Dn t (256*M) x.1/\Dn t (256*M) x.2:=fun x hx=>by
   rw [hprs] at hx;obtain ⟨b,hb,rfl⟩:=List.mem_map.1 hx;obtain ⟨hbl,_,t,ht1,htM,hbd⟩:=hBn b hb;have d1:∀ j,j<=b.length->Dn t (j*M) (tV b j):=by
    intro j
    induction j with
    | zero=>intro _;rw [Zea];exact Dn.zero _ _
    | succ j ih=>intro hj;rw [vR (by omega),Zam,Zbs];exact (ih (by omega)).add (hbd j)
   have d2:∀ j,j<=l0.length->Dn t (j*M) (su b l0 j):=by
    intro j
    induction j with
    | zero=>intro _;rw [Zea];exact Dn.zero _ _
    | succ j ih=>intro hj;rw [qG (by omega),Zam,Zbs];exact (ih (by omega)).add (hbd _)
   exact ⟨t,ht1,htM,(d1 _ (Zaf _)).mono (Zai M (by omega)),(d2 _ (Zaf _)).mono (Zai M (by omega))⟩
  have e256:256*M*(256*M)=65536*(M*M):=by rw [Nat.mul_mul_mul_comm]
  refine zv9 (kg:=0) (k5:=1) (k:=10) H3 rfl hgc (by omega) rfl fra (by omega) (fun x hx=>by
   obtain ⟨t,ht1,htM,d1,d2⟩:=hprB x hx;refine ⟨qB ht1 (show t<=256*M by omega) (by omega) d1,qB ht1 (show t<=256*M by omega) (by omega) d2,qB (Zbd s1 ht1) (Zbd sN (show t<=256*M by omega)) (by omega) (hra.mul d2)⟩) qra fun bb h4 nx4 hbb H4 => ?_
  rw [F21.zka,F21.zdl];simp only [zT];rw [zB,F21.v30];cases bb with
  | true =>
   rw [zE,zA,F21.zfa];simp only [zK,zR];rw [F21.ret];refine zs8 H4 fun r _ hr _ => ?_;obtain ⟨x,hx,hxn⟩:=hbb.1 rfl;rw [hprs] at hx;obtain ⟨b,hb,rfl⟩:=List.mem_map.1 hx;exact hxn (by rw [isr r hr];exact hr b hb)
  | false =>
  have hall:∀ x∈prs,x.1=ra*x.2:=fun x hx=>by
   by_cases e:x.1=ra*x.2
   ·exact e
   ·exact absurd (hbb.2 ⟨x,hx,e⟩) (by decide)
  have hnn:n*(n+1)<=256*257:=Zbd hn (by omega);have a1:∀ K:AV->OP,zh .add .int (I (n:Int)) (I 1) K=K (I ((n+1:Nat):Int)):=fun K=>by rw [gu (by omega)];simp
  have m1:∀ K:AV->OP,zh .mul .int (I (n:Int)) (I ((n+1:Nat):Int)) K=K (I ((n*(n+1):Nat):Int)):=fun K=>by
   have e:(n:Int)*((n+1:Nat):Int)=((n*(n+1):Nat):Int):=by simp
   rw [rG (by rw [e];omega),e]
  have q1:∀ K:AV->OP,zh .quo .int (I ((n*(n+1):Nat):Int)) (I 2) K=K (I ((n*(n+1) / 2:Nat):Int)):=fun K=>qem (by omega);obtain ⟨X,hXe⟩:∃ X:Nat,X=n*(n+1) / 2:=⟨_,rfl⟩;have hX:X<=32896:=by omega
  have lb:∀ op:AV->OP,zH (.ptr b1 (0+0)) h4 op=op (I (n:Int)):=fun op=>H4.load (k:=2) (i:=0+0) rfl rfl;have l5:∀ op:AV->OP,zD 4 (.ptr b5 0) h4 op=op (.agg rc):=fun op=>H4.zx (k:=1) (n:=4) rfl hrc;have ck:(true&&true)=true:=rfl;rw [zC,zF,zA,F21.ze7,ck,jQ];simp only [sFx,lb,a1,m1,q1,l5];rw [<- hXe];refine f89 (by omega) _ _ _ _ ?_;rintro vx fx _;simp only [sFx,lb,a1,m1,q1,l5,zG];have qX:Qs 10 (((X:Nat):Int):Rat):=qB (t:=1) (N:=32896) (by omega) (by omega) (by omega) ⟨(X:Int),by grind,by omega⟩;refine zsj fx fra (k:=10) (by omega) (by omega) qX qra hra0 _ _ _ _ ?_;rintro _ ⟨s3,w3,s3',w3',rfl,k1,k2⟩ _;simp only [lb,l5,zG];refine H4.alloc fun b12 h5 nx5 H5 => ?_;have lb:∀ op:AV->OP,zH (.ptr b1 (0+0)) h5 op=op (I (n:Int)):=fun op=>H5.load (k:=3) (i:=0+0) rfl rfl;have l5:∀ op:AV->OP,zD 4 (.ptr b5 0) h5 op=op (.agg rc):=fun op=>H5.zx (k:=2) (n:=4) rfl hrc;simp only [lb,l5,zG];refine H5.jb (l2:=[s3,w3,s3',w3']) (k:=0) rfl rfl rfl fun h6 H6 => ?_;obtain ⟨cc,hcc⟩:∃ cc:Rat,cc=(((X:Nat):Int):Rat) / ra:=⟨_,rfl⟩;rw [<- hcc] at k1 k2;have fcc:jU (.agg [s3,w3,s3',w3']) cc:=⟨_,_,_,_,rfl,k1,k2⟩;have key:lines≠[]->∀ (f:List Rat) (k:Int),Mgf n lines f->dot f (List.replicate n 1)=(((n*(n+1) / 2:Nat):Int):Rat)->dot f (fZ n (lines.getD 0 []))=(k:Rat)->cc=(k:Rat):=fun _ f k hfm hft hfk=>by
   have hil:=jT n l0;have hol:(List.replicate n (1:Rat)).length=n:=Zba;have hz:=zsy (g:=gG ra (List.replicate n 1) (fZ n l0)) hS (by rw [gU (by rw [hol,hil])];exact hol) (hdot f hfm) fun c hc hcp=>by
    have hmb:au n Q ps c∈Bs:=by
     rw [hBs];exact Zeu (by unfold frQ;rw [Zbw];exact ⟨List.mem_range.2 hc,by simp [hcp]⟩)
    have h1:=hall (prQ l0 (au n Q ps c)) (by rw [hprs];exact Zeu hmb);have hbn:=(hBn _ hmb).1;unfold prQ at h1;have h2:=bO hbn (hasc _ hm0) l0.length (Zaf _);rw [Zae (Zaf _)] at h2;have h1:tV (au n Q ps c) (au n Q ps c).length=ra*su (au n Q ps c) l0 l0.length:=h1;rw [zes hbn,h2] at h1;rw [j8,uY _ _ _ _ (by rw [hol,hil]),h1];grind
   rw [uY _ _ _ _ (by rw [hol,hil]),j8 _ f,j8 _ f,hft,hl0,hfk,<- hXe] at hz;rw [hcc,Zff]
   grind
  rw [zA,F21.qbo,H6.zx (k:=0) (n:=4) rfl rfl];have qcc:Qs 10 cc:=by
   obtain ⟨s4,r1,r2,_,r4⟩:=zi3 s1 hra0 hra;have hd:Dn s (s*X) (((X:Nat):Int):Rat):=⟨(s:Int)*(X:Int),by rw [Zcv];grind,by rw [Zem,Zcm,Zcm];exact Zaf _⟩;have hsX:s*X<=256*M*32896:=Zbd sN hX;have:=(r4 hd).mono hsX;rw [hcc,Zff];exact qB r1 (show s4<=256*M*32896 by omega) (by omega) this
  refine zsk fcc (k:=10) (by omega) qcc _ _ _ _ ?_;rintro vi fi _;refine zs3 fi _ _ _ _ ?_;rintro _ ⟨xn,ok,rfl,hok,hnok⟩ _;rw [yJ,yH,zA,zA,F21.qbp,H6.zx (k:=0) (n:=4) rfl rfl];refine mY fcc _ _ _ _ ?_;rintro _ rfl _;rw [jC];have out:∀ {x e:Int},e≠7->zyd n lines x e->K (.tup [I x,I e]) h6 nx5=.ok True:=fun h7 hc=>ret H6 ⟨hc,fun _ _ _ _ _=>h7⟩;by_cases hw:cc.den=1
  ·rw [Zac hw];have hfl:cc.num / (cc.den:Int)=cc.num:=by rw [hw];simp
   rw [hfl] at hok hnok;simp only [Zaj,yS,jC,zT];rw [zB,F21.v31];cases ok with
   | true =>
    rw [Zaj,zC,zF,zA,F21.qbq];simp only [zK,zR];rw [F21.ret];refine out (by decide) ⟨.inl rfl,fun hne f k hfm hft hfk hks=>⟨fun _ => ?_,by decide⟩,fun e=>absurd (by rw [e];rfl) c0⟩;have:=key hne f k hfm hft hfk;rw [hok rfl,this,Zew]
   | false =>
    rw [Zak,zE,zA,F21.zjk];simp only [zK,zR];rw [F21.ret];refine out (by decide) ⟨.inr (.inr rfl),fun hne f k hfm hft hfk hks => ?_,fun e=>absurd (by rw [e];rfl) c0⟩;have:=key hne f k hfm hft hfk;have h9:=hnok rfl;rw [this,Zew] at h9;omega
  ·rw [Zab hw];simp only [Zak,jK,wV,zV];rw [zB,F21.v31,zE,zA,F21.zjk];simp only [zK,zR];rw [F21.ret];refine out (by decide) ⟨.inr (.inr rfl),fun hne f k hfm hft hfk hks => ?_,fun e=>absurd (by rw [e];rfl) c0⟩;have:=key hne f k hfm hft hfk;exact absurd (by rw [this,Rat.den_intCast]) hw
 have hb:=jY (d:=[]) ca;have hba:Bs[a]? = some (Bs.getD a []):=kK ca;have hca:cb[a]? = some (cb.getD a []):=kK (by omega);obtain ⟨hbl,_,t,ht1,htM,hbd⟩:=hBn _ hb;have hrow:=hcr a ca;obtain ⟨b,hbe⟩:∃ b,b=Bs.getD a []:=⟨_,rfl⟩;rw [<- hbe] at hba hbl hbd hrow hb;obtain ⟨c,hce⟩:∃ c,c=cb.getD a []:=⟨_,rfl⟩;rw [<- hce] at hca hrow;rw [Zac (by omega),zE,zF,zA,zL,zA,F21.sV,ni (i:=a) rfl ca,ldL (show (cb.map fun c=>AV.lst 4 n c)[a]? = some (.lst 4 n c) by rw [List.getElem?_map,hca];rfl),zA,F21.zez];refine f89 (by omega) _ _ _ _ ?_;rintro _ ⟨s,w,s',w',rfl,i1,i2⟩ _;refine f89 (by omega) _ _ _ _ ?_;rintro _ ⟨s2,w2,s2',w2',rfl,j1,j2⟩ _;rw [rat0] at i1 i2 j1 j2;rw [show ∀ K:AV->OP,gE [(I 0),.zn,(I 0),.zn,(I 0),.zn,(I 0),.zn] [(0,4,.agg [s,w,s',w']),(4,4,.agg [s2,w2,s2',w2'])] K=K (.agg [s,w,s',w',s2,w2,s2',w2']) from fun K=>nr rfl];refine H3.alloc fun b9 h4 nx4 H4 => ?_;refine H4.jb (l2:=[s,w,s',w',s2,w2,s2',w2']) (k:=0) rfl rfl rfl fun h5 H5 => ?_;rw [zA,zA,F21.sU,zZ,zL];refine F21.qbm (fun m x23 h' nx'=>∃ (j:Nat) (s w s' w':AV),x23=I (j:Int)/\m+j=n/\fK s w (tV b j).num/\fK s' w' ((tV b j).den:Int)/\Dn t (j*M) (tV b j)/\Hp h h' nx' [.arr b9 [s,w,s',w',s2,w2,s2',w2'],.gro o 8 a gc,.arr b5 rc,.arr b1 [I (n:Int),mg lines]]) (m:=n) (by omega) ⟨0,s,w,s',w',rfl,rfl,i1,i2,by rw [Zea];exact Dn.zero _ _,H5⟩ ?_;rintro m2 u10 u23 u24 h6 nx6 R2 ⟨j,s,w,s',w',rfl,hmj,i1,i2,hdj,H6⟩ hR2;rw [F21.t31,zA,F21.oP,uf,zA,zB,F21.v24];have hjM:j*M<=256*M:=Zai M (by omega);by_cases cj:j<n
 ·obtain ⟨cs2,e1,e2,_,fv⟩:=hrow.get (wJ (q:=b) (j:=j) (by omega));obtain ⟨so,wo,so',wo',e5,o1,o2⟩:=fv;obtain rfl:=AV.agg.inj e5;rw [Zac (by omega),zE,zF,zA,zL,zA,F21.eH,zx7 (j:=j) rfl cj,zs4 (by rw [Zdk];omega),e1];refine H6.alloc fun b10 h7 nx7 H7 => ?_;refine H7.jb (l2:=[so,wo,so',wo']) (k:=0) rfl rfl rfl fun h8 H8 => ?_;rw [F21.zcl];simp only [sFx];rw [H8.qc (k:=1) (off:=0+0) (n:=4) rfl (by simp) rfl,H8.zx (k:=0) (n:=4) rfl rfl];refine zi2 ⟨_,_,_,_,rfl,i1,i2⟩ ⟨_,_,_,_,rfl,o1,o2⟩ (k:=10) (by omega) (qB ht1 (show t<=256*M by omega) (by omega) (hdj.mono hjM)) (qB ht1 htM (by omega) (hbd j)) _ _ _ _ ?_;rintro _ ⟨s3,w3,s3',w3',rfl,k1,k2⟩ _;refine H8.sW (k:=1) (off:=0+0) (n:=4) rfl (by simp) rfl fun h9 H9 => ?_;rw [<- vR (by omega)] at k1 k2;rw [F21.tC,gu (by omega)];exact hR2 (m2-1) _ _ _ _ _ (by omega) ⟨j+1,s3,w3,s3',w3',by congr 1,by omega,k1,k2,by rw [vR (by omega),Zam,Zbs];exact hdj.add (hbd j),H9.drop⟩
 obtain rfl:j=n:=by omega
 rw [Zab (by omega),zC,zX,yF,zA,zA,F21.znw,sFx,H6.load (k:=3) (i:=0+1) rfl rfl,ni (j:=0) (i:=0) rfl (by omega),ldL (getT hx0),zZ,zL];refine F21.qbn (fun m x27 h' nx'=>∃ (y:Nat) (s2 w2 s2' w2':AV),x27=I (y:Int)/\m+y=l0.length/\fK s2 w2 (su b l0 y).num/\fK s2' w2' ((su b l0 y).den:Int)/\Dn t (y*M) (su b l0 y)/\Hp h h' nx' [.arr b9 [s,w,s',w',s2,w2,s2',w2'],.gro o 8 a gc,.arr b5 rc,.arr b1 [I (j:Int),mg lines]]) (m:=l0.length) (by omega) ⟨0,s2,w2,s2',w2',rfl,rfl,j1,j2,by rw [Zea];exact Dn.zero _ _,H6⟩ ?_;rintro m3 v11 v27 v28 h7 nx7 R3 ⟨y,s2,w2,s2',w2',rfl,hmy,j1,j2,hdy,H7⟩ hR3;rw [F21.t45,zA,F21.ay,uf,zA,zB,F21.v28];have hyM:y*M<=256*M:=Zai M (by omega);by_cases cy:y<l0.length
 ·have hy:l0[y]? = some l0[y]:=List.getElem?_eq_getElem cy;have hyr:=hr0 _ (Zbb cy);obtain ⟨cs2,e1,e2,_,fv⟩:=hrow.get (wJ (q:=b) (j:=l0[y].toNat) (by omega));rw [Zac (by omega),zE,zF,zA,zL,zA,F21.ze0,ni rfl cy,ldL (tJ hy),F21.ze1];simp only [sFx];rw [H7.qc (k:=0) (off:=0+4) (n:=4) rfl (by simp) rfl,zx7 (j:=l0[y].toNat) (by omega) (by omega),zs4 (by rw [Zdk];omega),e1];refine zi2 ⟨_,_,_,_,rfl,j1,j2⟩ fv (k:=10) (by omega) (qB ht1 (show t<=256*M by omega) (by omega) (hdy.mono hyM)) (qB ht1 htM (by omega) (hbd _)) _ _ _ _ ?_;rintro _ ⟨s3,w3,s3',w3',rfl,k1,k2⟩ _;refine H7.sW (k:=0) (off:=0+4) (n:=4) rfl (by simp) rfl fun h9 H9 => ?_;rw [<- qG cy] at k1 k2;rw [F21.zjf,gu (by omega)];exact hR3 (m3-1) _ _ _ _ _ (by omega) ⟨y+1,s3,w3,s3',w3',by congr 1,by omega,k1,k2,by rw [qG cy,Zam,Zbs];exact hdy.add (hbd _),H9⟩
 obtain rfl:y=l0.length:=by omega
 have h8:zdh [s,w,s',w',s2,w2,s2',w2'] (prQ l0 b):=⟨_,_,_,_,_,_,_,_,rfl,by rw [prQ,hbl];exact i1,by rw [prQ,hbl];exact i2,j1,j2⟩;have hT:Dn t (256*M) (tV b j):=hdj.mono hjM;have hC:Dn t (256*M) (su b l0 l0.length):=hdy.mono hyM;rw [Zab (by omega),zC,zX,yF,zA,zA,F21.zoe];simp only [sFx];rw [H7.qc (k:=0) (off:=0+4) (n:=4) rfl (by simp) rfl];refine pX ⟨_,_,_,_,rfl,j1,j2⟩ _ _ _ _ ?_;rintro _ rfl _;rw [di];by_cases hC0:su b l0 l0.length=0
 ·rw [Zac (fV.2 (Rat.num_eq_zero.2 hC0))];simp only [Zaj,yM,wV,zT];rw [zB,F21.v29,zC,zF];rw [F21.ze2,H7.zx (k:=0) (n:=8) rfl rfl];refine H7.wz (l:=[s,w,s',w',s2,w2,s2',w2']) rfl fun tb h10 nx10 H10 => ?_;refine H10.appN (k:=2) (o:=o) (c:=1) (new:=[s,w,s',w',s2,w2,s2',w2']) rfl (ug.rd (l:=[s,w,s',w',s2,w2,s2',w2']) (n:=1) (H10.own _ (Zal ..)) rfl) rfl (List.all_eq_true.2 fun v hv=>fO.uy (h8.fix v hv)) (by decide) (by decide) (by omega) fun o' h11 nx11 _ H11 => ?_;rw [F21.ze6,gu (by omega)];refine hR (m-1) _ _ _ _ _ _ _ _ _ _ _ _ _ _ _ _ _ _ _ (by omega) ⟨a+1,o',gc++[s,w,s',w',s2,w2,s2',w2'],rc,found,ra,rfl,rfl,by congr 1,by omega,?_,hrc,hfo,fun hf b' hb' => ?_,H11.drop.drop⟩
  ·rw [Zas,hba,Zcn,Zav];exact hgc.add h8
  ·rw [Zas,hba,Zcn] at hb';rcases List.mem_append.1 hb' with q | q
   ·exact hnf hf b' q
   ·rw [List.mem_singleton.1 q];exact hC0
 rw [Zab (fun q=>hC0 (Rat.num_eq_zero.1 (fV.1 q)))];simp only [Zak,yT,jC,zV];rw [zB,F21.v29];cases found with
 | true =>
  rw [Zaj,zC,zF];rw [F21.ze2,H7.zx (k:=0) (n:=8) rfl rfl];refine H7.wz (l:=[s,w,s',w',s2,w2,s2',w2']) rfl fun tb h10 nx10 H10 => ?_;refine H10.appN (k:=2) (o:=o) (c:=1) (new:=[s,w,s',w',s2,w2,s2',w2']) rfl (ug.rd (l:=[s,w,s',w',s2,w2,s2',w2']) (n:=1) (H10.own _ (Zal ..)) rfl) rfl (List.all_eq_true.2 fun v hv=>fO.uy (h8.fix v hv)) (by decide) (by decide) (by omega) fun o' h11 nx11 _ H11 => ?_;rw [F21.ze6,gu (by omega)];refine hR (m-1) _ _ _ _ _ _ _ _ _ _ _ _ _ _ _ _ _ _ _ (by omega) ⟨a+1,o',gc++[s,w,s',w',s2,w2,s2',w2'],rc,true,ra,rfl,rfl,by congr 1,by omega,?_,hrc,hfo,fun e=>absurd e (by decide),H11.drop.drop⟩;rw [Zas,hba,Zcn,Zav];exact hgc.add h8
 | false =>
  rw [Zak,zE,F21.ze5];simp only [sFx];rw [H7.qc (k:=0) (off:=0+0) (n:=4) rfl (by simp) rfl,H7.qc (k:=0) (off:=0+4) (n:=4) rfl (by simp) rfl];refine zsj ⟨_,_,_,_,rfl,i1,i2⟩ ⟨_,_,_,_,rfl,j1,j2⟩ (k:=10) (by omega) (by omega) (qB ht1 (show t<=256*M by omega) (by omega) hT) (qB ht1 (show t<=256*M by omega) (by omega) hC) hC0 _ _ _ _ ?_;rintro _ ⟨s5,w5,s5',w5',rfl,k1,k2⟩ _;refine H7.jb (l2:=[s5,w5,s5',w5']) (k:=2) rfl hrc rfl fun h9 H9 => ?_;obtain ⟨sr,sr1,srN,_,dmul⟩:=zi3 ht1 hC0 hC;have hdr:=dmul hT;rw [<- Zff] at hdr;rw [F21.ze2,H9.zx (k:=0) (n:=8) rfl rfl];refine H9.wz (l:=[s,w,s',w',s2,w2,s2',w2']) rfl fun tb h10 nx10 H10 => ?_;refine H10.appN (k:=2) (o:=o) (c:=1) (new:=[s,w,s',w',s2,w2,s2',w2']) rfl (ug.rd (l:=[s,w,s',w',s2,w2,s2',w2']) (n:=1) (H10.own _ (Zal ..)) rfl) rfl (List.all_eq_true.2 fun v hv=>fO.uy (h8.fix v hv)) (by decide) (by decide) (by omega) fun o' h11 nx11 _ H11 => ?_;rw [F21.ze6,gu (by omega)];refine hR (m-1) _ _ _ _ _ _ _ _ _ _ _ _ _ _ _ _ _ _ _ (by omega) ⟨a+1,o',gc++[s,w,s',w',s2,w2,s2',w2'],[s5,w5,s5',w5'],true,tV b j / su b l0 l0.length,rfl,rfl,by congr 1,by omega,?_,rfl,fun _=>⟨⟨_,_,_,_,rfl,k1,k2⟩,sr,sr1,srN,hdr,b,hb,hC0,by rw [hbl]⟩,fun e=>absurd e (by decide),H11.drop.drop⟩;rw [Zas,hba,Zcn,Zav];exact hgc.add h8
end Go.Ev
namespace Go.Ev
open Go Go.Proofs
def rwSq (n i:Nat):List Int:=(List.range n).map fun j=>((i*n+j:Nat):Int)
theorem zgv (n i:Nat):(rwSq n i).length=n:=by unfold rwSq;rw [Zaz,Zfd]
theorem zs9 {n i j:Nat} (h:j<(rwSq n i).length):(rwSq n i)[j]=((i*n+j:Nat):Int):=by
 simp only [rwSq,List.getElem_map,List.getElem_range]
theorem zk7 {n i:Nat} {b:List Rat} (hb:b.length=n*n) (hi:i<n):∀ j,j<=n->tV b (i*n+j)=tV b (i*n)+su b (rwSq n i) j
 | 0,_=>by
  have:su b (rwSq n i) 0=0:=rfl;rw [this,Zcc];grind
 | j+1,hj=>by
  have hm:=Zai n (show i+1<=n by omega);rw [Zam,Zbs] at hm;have hjl:j<(rwSq n i).length:=by rw [zgv];omega
  rw [<- Zde,vR (by omega),zk7 hb hi j (by omega),qG hjl,zs9 hjl,Zei];grind
theorem zgw {n:Nat} {l:List Int} {f:List Rat} (hf:f.length=n) (hl:AscL n l):su f l l.length=dot f (fZ n l):=by
 have h:=bO hf hl l.length (Zaf _);rw [Zae (Zaf _)] at h;rw [h,j8]
theorem zwa {n:Nat} {lines:List (List Int)} {f:List Rat} (h:Mgf n lines f) {i:Nat} {l:List Int} (hl:lines[i]? = some l):dot f (fZ n l)=dot f (fZ n (lines.getD 0 [])):=by
 rw [j8,h.2 l (Zad hl),j8]
theorem zta {n:Nat} {lines:List (List Int)} {f:List Rat} (hrows:∀ i,i<n->lines[i]? = some (rwSq n i)) (hasc:∀ l∈lines,AscL (n*n) l) (h:Mgf (n*n) lines f):dot f (List.replicate (n*n) 1)=(((n:Nat):Int):Rat)*dot f (fZ (n*n) (lines.getD 0 [])):=by
 have key:∀ i,i<=n->tV f (i*n)=(((i:Nat):Int):Rat)*dot f (fZ (n*n) (lines.getD 0 [])):=by
  intro i
  induction i with
  | zero=>intro _;rw [Zea];show (0:Rat)=_;rw [show (((0:Nat):Int):Rat)=0 from rfl];grind
  | succ i ih =>
   intro hi;have h1:=zk7 h.1 (show i<n by omega) n (Zaf _);have h2:=zgw h.1 (hasc _ (Zad (hrows i (by omega))));rw [zgv] at h2;rw [Zam,Zbs,h1,ih (by omega),h2,zwa h (hrows i (by omega)),show ((i+1:Nat):Int)=(i:Int)+1 by omega,Zfr,show ((1:Int):Rat)=1 from rfl];grind
 have:=key n (Zaf _);have h3:=zes h.1;rw [h.1] at h3;rw [j8,<- h3,this]
theorem zk8 {n:Nat} {c:Rat} {l:List Int} (hr:∀ x∈l,0<=x/\x<(n:Int)):∀ j,j<=l.length->su (List.replicate n c) l j=((j:Int):Rat)*c
 | 0,_=>by show (0:Rat)=_;rw [show (((0:Nat):Int):Rat)=0 from rfl];grind
 | j+1,hj=>by
  have hx:=hr _ (Zbb (show j<l.length by omega));have e:at' (List.replicate n c) (l[j]'(by omega)).toNat=c:=by
   rw [at',Zaa,List.getElem?_replicate,if_pos (by omega)];rfl
  rw [qG (by omega),zk8 hr j (by omega),e,show ((j+1:Nat):Int)=(j:Int)+1 by omega,Zfr,show ((1:Int):Rat)=1 from rfl];grind
theorem bJ {n:Nat} {c:Rat} {l:List Int} (hl:AscL n l):dot (List.replicate n c) (fZ n l)=((l.length:Int):Rat)*c:=by
 rw [<- zgw Zba hl];exact zk8 (fun x hx=>hl.2.2 x hx) _ (Zaf _)
theorem zk9 {n m:Nat} {lines:List (List Int)} (c:Rat) (hlen:∀ l∈lines,l.length=m) (hasc:∀ l∈lines,AscL n l) (hne:lines≠[]):Mgf n lines (List.replicate n c):=by
 refine ⟨Zba,fun l hl => ?_⟩;have h0:lines.getD 0 []∈lines:=jY (by cases lines with | nil=>exact absurd rfl hne | cons a b=>simp);rw [j8,j8 (fZ n (lines.getD 0 [])),bJ (hasc l hl),bJ (hasc _ h0),hlen l hl,hlen _ h0]
theorem ztb (m:Nat):m*(m+1)=2*(m*(m+1) / 2):=by
 have:m*(m+1)%2=0:=by
  rw [Nat.mul_mod,Nat.add_mod];rcases Nat.mod_two_eq_zero_or_one m with e | e <;> rw [e]
 omega
theorem zwb (n:Nat):n*(n*n+1)=2*(n*(n*n+1) / 2):=by
 have:n*(n*n+1)%2=0:=by
  rw [Nat.mul_mod,Nat.add_mod,Nat.mul_mod n n];rcases Nat.mod_two_eq_zero_or_one n with e | e <;> rw [e]
 omega
theorem natR {a b:Nat} (h:a=b):(((a:Nat):Int):Rat)=(((b:Nat):Int):Rat):=by rw [h]
theorem ztc {n:Nat} {lines:List (List Int)} {x e:Int} (hn:1<=n) (hn16:n<=16) (hne:lines≠[]) (hrows:∀ i,i<n->lines[i]? = some (rwSq n i)) (hlen:∀ l∈lines,l.length=n) (hasc:∀ l∈lines,AscL (n*n) l) (h:CstV (n*n) lines x e):e=0/\x=((n*(n*n+1) / 2:Nat):Int):=by
 obtain ⟨⟨h1,h2,_⟩,h4⟩:=h;have h0:lines.getD 0 []∈lines:=jY (by cases lines with | nil=>exact absurd rfl hne | cons a b=>simp);have hnR:(((n:Nat):Int):Rat)≠0:=zb8 (by omega);have e7:=h4 hne (((n:Nat):Int):Rat) hnR (fun f hf=>zta hrows hasc hf) ⟨List.replicate (n*n) 1,zk9 1 hlen hasc hne,by rw [bJ (hasc _ h0),hlen _ h0,Rat.mul_one];exact hnR⟩;obtain ⟨c,hc⟩:∃ c:Rat,c=(((n*n+1:Nat):Int):Rat) / 2:=⟨_,rfl⟩;have hc2:c*2=(((n*n+1:Nat):Int):Rat):=by rw [hc,Zff];grind
 have hm:=zk9 (n:=n*n) c hlen hasc hne;have hk:(((n:Nat):Int):Rat)*c=(((n*(n*n+1) / 2:Nat):Int):Rat):=by
  have e1:=natR (zwb n);rw [Zcr,Zcv,Zcr 2,Zcv,show (((2:Nat):Int):Rat)=2 from rfl] at e1
  grind
 have hd:dot (List.replicate (n*n) c) (fZ (n*n) (lines.getD 0 []))=(((n*(n*n+1) / 2:Nat):Int):Rat):=by
  rw [bJ (hasc _ h0),hlen _ h0,hk]
 have hb:n*(n*n+1)<=16*(16*16+1):=Zbd hn16 (by have:=Zbd hn16 hn16;omega)
 obtain ⟨h5,h6⟩:=h2 hne (List.replicate (n*n) c) ((n*(n*n+1) / 2:Nat):Int) hm (by
  rw [zta hrows hasc hm,hd];have e1:=natR (ztb (n*n));rw [Zcr,Zcv,Zcr 2,Zcv,show (((2:Nat):Int):Rat)=2 from rfl,Zcr n n,Zcv] at e1;rw [<- hk]
  grind) hd (by omega)
 have e0:e=0:=by
  rcases h1 with q | q | q
  ·exact q
  ·exact absurd q e7
  ·exact absurd q h6
 exact ⟨e0,h5 e0⟩
end Go.Ev
namespace Go.Ev
theorem zgx:∀ (l r:List Int),l.Nodup->(∀ x∈l,x∈r)->∃ s,r.Perm (l++s)
 | [],r,_,_=>⟨r,.refl _⟩
 | a::l,r,hn,hs=>by
  obtain ⟨h1,h2⟩:=List.nodup_cons.1 hn;have ha:=hs a (by simp);obtain ⟨s,hp⟩:=zgx l (r.erase a) h2 fun x hx=>(List.mem_erase_of_ne (by rintro rfl;exact h1 hx)).2 (hs x (by simp [hx]));exact ⟨s,(List.perm_cons_erase ha).trans (.cons a hp)⟩
abbrev upTo (n:Nat):List Int:=(List.range n).map fun (i:Nat)=>(i:Int)+1
def Rv (l cur:List Int) (i:Nat):Prop:=cur.length=l.length/\∀ t,t<l.length->cur[t]? = if t<i\/l.length<=t+i then l[l.length-1-t]? else l[t]?
theorem Rv.done {l cur:List Int} {i:Nat} (h:Rv l cur i) (hi:l.length<=2*i+1):cur=l.reverse:=by
 refine Zck fun t => ?_;by_cases ht:t<l.length
 ·rw [h.2 t ht,List.getElem?_reverse ht];by_cases c:t<i\/l.length<=t+i
  ·rw [if_pos c]
  ·rw [if_neg c,show l.length-1-t=t by omega]
 ·rw [List.getElem?_eq_none (by rw [h.1];omega),List.getElem?_eq_none (by simp;omega)]
theorem Rv.step {l cur:List Int} {i j:Nat} {a b:Int} (h:Rv l cur i) (hij:i<j) (hs:i+j+1=l.length) (ha:cur[i]? = some a) (hb:cur[j]? = some b):Rv l ((cur.set i b).set j a) (i+1):=by
 obtain ⟨hl,hg⟩:=h;refine ⟨by simp [hl],fun t ht => ?_⟩;have e1:=hg i (by omega);have e2:=hg j (by omega);rw [if_neg (by omega),ha] at e1;rw [if_neg (by omega),hb] at e2;rw [List.getElem?_set,List.getElem?_set,Zbp];by_cases c1:j=t
 ·subst c1;rw [if_pos rfl,if_pos (by omega),if_pos (by omega),show l.length-1-j=i by omega];exact e1
 ·rw [if_neg c1];by_cases c2:i=t
  ·subst c2;rw [if_pos rfl,if_pos (by omega),if_pos (by omega),show l.length-1-i=j by omega];exact e2
  ·rw [if_neg c2,hg t ht];by_cases c3:t<i\/l.length<=t+i
   ·rw [if_pos c3,if_pos (by omega)]
   ·rw [if_neg c3,if_neg (by omega)]
section
variable {σ α:Type}
end
end Go.Ev
namespace Go.Ev
def SpOK (M:Int) (q:List (Int×Int)):Prop:=q.Pairwise (fun a b=>a.1<b.1)/\∀ p∈q,0<=p.1/\p.1<=M
theorem SpOK.len {q:List (Int×Int)} (h:SpOK 9000 q):q.length<=9001:=by
 obtain ⟨t,ht⟩:=zgx (q.map (·.1)) ((List.range 9001).map fun (i:Nat)=>(i:Int)) (by
  rw [Zeq,List.pairwise_map];exact h.1.imp fun {a b} q e=>by omega) fun x hx=>by
  obtain ⟨p,hp,rfl⟩:=List.mem_map.1 hx;have:=h.2 p hp;exact List.mem_map.2 ⟨p.1.toNat,List.mem_range.2 (by omega),by omega⟩
 have:=ht.length_eq;rw [Zaz,Zfd,Zan,Zaz] at this;omega
end Go.Ev
namespace Go.Ev
open Go Go.Proofs
variable {B:Nat}
set_option maxRecDepth 100000
theorem zgy (l:List Int):(srt l).length=l.length:=(pL l).length_eq
theorem zgf {f:List Int} (hj:∀ B,JOk Tryz.prog B pW) (hl:f.length<=100000):Pure Tryz.prog B 147 [encI f] (· = .bool (decide (srt f=upTo f.length))):=by
 intro p h nx K hK;refine zQ zW fP 10000000 fun hf => ?_;rw [qx.go];refine zm8 _ _ _ _ ?_;rintro _ rfl _;refine zm9 hj hl _ _ _ _ ?_;rintro _ rfl _;have hlen:=zgy f;simp only [zZ];refine qx.L1 (fun m z6 h' nx'=>∃ i:Nat,z6=I i/\f.length-i=m/\i<=f.length/\h'=h/\nx'=nx/\(srt f).take i=(upTo f.length).take i) (m:=f.length) (by omega) ⟨0,rfl,rfl,by omega,rfl,rfl,rfl⟩ ?_;rintro m z1 z2 z3 z6 z7 z8 _ _ R ⟨i,rfl,rfl,hi,rfl,rfl,htk⟩ hR;simp only [uf];by_cases hlt:i<f.length
 ·simp only [show (i:Int)<((srt f).length:Int) by omega,decide_true,zE];have hx:(srt f)[i]? = some (srt f)[i]:=List.getElem?_eq_getElem (by omega);have hu:(upTo f.length)[i]? = some ((i:Int)+1):=by simp [List.getElem?_map,hlt]
  rw [ni rfl (by omega),ldL (tJ hx),gu (by omega)];simp only [di];by_cases c:(srt f)[i]=(i:Int)+1
  ·simp only [c,decide_true,Zaj,zC];rw [gu (by omega)];refine hR _ _ _ _ _ _ _ _ _ (by omega) ⟨i+1,rfl,rfl,by omega,rfl,rfl,?_⟩;rw [Zas,Zas,htk,hx,hu,c]
  ·simp only [c,decide_false,Zak,zE];refine hK _ ?_ hf;rw [Zab];intro q;have h9:(srt f)[i]? = some ((i:Int)+1):=by rw [q];exact hu
   rw [hx] at h9;exact c (Option.some.inj h9)
 ·simp only [show ¬ (i:Int)<((srt f).length:Int) by omega,decide_false,zC];rw [qx.k8];rw [Zae (by omega),Zae (by simp;omega)] at htk;exact hK _ (by rw [Zac htk]) hf
abbrev farL (x:Int):Bool:=decide (x < -999999999)||decide (999999999<x)
theorem zi9 {f:List Int} (hl:f.length<=100000):Pure Tryz.prog B 166 [encI f] (· = I (if f.any farL then 3 else 0)):=by
 intro p h nx K hK;refine zQ zW fP 1000 fun hf => ?_;rw [aX.go];refine zk5 (by omega) _ _ _ _ ?_;rintro _ rfl _;exact hK _ rfl hf
def xA (l f:List Int):Int:=l.foldl (fun s c=>s+f.getD c.toNat 0) 0
structure zdj (l f:List Int):Prop where
 len:l.length<=1000
 rng:∀ c∈l,0<=c/\c<(f.length:Int)
 bd:∀ x∈f, -1000000000<=x/\x<=1000000000
theorem zdj.get {l f:List Int} (h:zdj l f) {c:Int} (hc:c∈l):f[c.toNat]? = some (f.getD c.toNat 0) /\ -1000000000<=f.getD c.toNat 0/\f.getD c.toNat 0<=1000000000:=by
 have:=h.rng c hc;have hx:f[c.toNat]? = some (f.getD c.toNat 0):=by rw [Zaa,List.getElem?_eq_getElem (by omega)];rfl
 exact ⟨hx,h.bd _ (Zad hx)⟩
theorem zcf {l f:List Int} {i:Nat} (h:i<l.length):xA (l.take (i+1)) f=xA (l.take i) f+f.getD l[i].toNat 0:=by
 rw [xA,Zas,List.getElem?_eq_getElem h,Zfc];rfl
theorem zgz {l f:List Int} (h:zdj l f):∀ i,i<=l.length -> -(1000000000*(i:Int))<=xA (l.take i) f/\xA (l.take i) f<=1000000000*(i:Int)
 | 0,_=>by simp [xA]
 | i+1,hi=>by
  have ih:=zgz h i (by omega);have:=(h.get (Zbb (show i<l.length by omega))).2;rw [zcf (by omega)];omega
theorem qao {l f:List Int} (h0:zdj l f):Pure Tryz.prog B 198 [encI l,encI f] (· = I (xA l f)):=by
 intro p h nx K hK;have hl:=h0.len;refine zQ zW fP 10000 fun hf => ?_;rw [wu.go];simp only [zZ];refine wu.L1 (fun m x3 x7 h' nx'=>∃ i:Nat,x7=I i/\x3=I (xA (l.take i) f)/\l.length-i=m/\i<=l.length/\h'=h/\nx'=nx) (m:=l.length) (by omega) ⟨0,rfl,rfl,rfl,by omega,rfl,rfl⟩ ?_;rintro m z3 z4 z7 z8 h nx R ⟨i,rfl,rfl,rfl,hi,rfl,rfl⟩ hR;simp only [uf];by_cases hlt:i<l.length
 case neg =>
  simp only [show ¬ (i:Int)<(l.length:Int) by omega,decide_false,zC];rw [wu.k8,Zae (by omega)];exact hK _ rfl hf
 simp only [show (i:Int)<(l.length:Int) by omega,decide_true,zE];have hx:l[i]? = some l[i]:=List.getElem?_eq_getElem hlt;have hr:=h0.rng _ (Zbb hlt);obtain ⟨hg,hb⟩:=h0.get (Zbb hlt);have hbd:=zgz h0 i (by omega);rw [ni rfl hlt,ldL (tJ hx),ni (i:=l[i].toNat) (by omega) (by omega),ldL (tJ hg),gu (by omega),gu (by omega)];exact hR _ _ _ _ _ _ _ (by omega) ⟨i+1,rfl,by rw [zcf hlt],rfl,by omega,rfl,rfl⟩
def wS (lines:List (List Int)) (f:List Int):List Int:=lines.map fun l=>xA l f
theorem zcg {lines:List (List Int)} {f:List Int} {i:Nat} (h:i<lines.length):wS (lines.take (i+1)) f=wS (lines.take i) f++[xA lines[i] f]:=by
 rw [wS,Zas,List.getElem?_eq_getElem h,Zav];rfl
theorem znd (lines:List (List Int)) (f:List Int):(wS lines f).length=lines.length:=by simp [wS]
theorem zwc {cells:Int} {lines:List (List Int)} {f:List Int} (hn:lines.length<=1000) (h0:∀ l∈lines,zdj l f):Pure Tryz.prog B 100 [.agg [I cells,mg lines],encI f] (· = encI (wS lines f)):=by
 refine yC fun h nx K H0 hK=>zQ zW fP 10000 fun hf => ?_;rw [qy.go];refine H0.box (l:=[I cells,mg lines]) rfl fun bx h1 nx1 H1 => ?_;rw [sFx,H1.load (k:=0) (i:=0+1) rfl rfl];simp only [zZ];refine qy.L1 (fun m x4 x8 h' nx'=>∃ (i:Nat) (o:Option Pa),x8=I i/\x4=ve o 1 (wS (lines.take i) f).length/\lines.length-i=m/\i<=lines.length/\Hp h h' nx' [.gro o 1 (wS (lines.take i) f).length ((wS (lines.take i) f).map I),.arr bx [I cells,mg lines]]) (m:=lines.length) (by omega) ⟨0,none,rfl,rfl,rfl,by omega,H1.eG 1⟩ ?_;rintro m z4 z5 z8 z9 h2 nx2 R ⟨i,o,rfl,rfl,rfl,hi,H2⟩ hR;simp only [uf];by_cases hlt:i<lines.length
 case neg =>
  simp only [show ¬ (i:Int)<(lines.length:Int) by omega,decide_false,zC];rw [Zae (by omega)] at H2 ⊢;rw [qy.k8];exact hK _ _ _ _ _ H2 (H2.zeb (k:=0) rfl fun v hv=>by obtain ⟨x,_,rfl⟩:=List.mem_map.1 hv;rfl) rfl
 simp only [show (i:Int)<(lines.length:Int) by omega,decide_true,zE];have hx:lines[i]? = some lines[i]:=List.getElem?_eq_getElem hlt;have hlen:(wS (lines.take i) f).length=i:=by rw [znd,Zau];omega
 rw [ni rfl hlt,ldL (getT hx)];refine qao (h0 _ (Zbb hlt)) _ _ _ _ ?_;rintro _ rfl _;refine H2.wz (l:=[I (xA lines[i] f)]) rfl fun tb h4 nx4 H4 => ?_;refine H4.appN (k:=1) (o:=o) (c:=1) (new:=[I (xA lines[i] f)]) rfl (ug.rd (l:=[I (xA lines[i] f)]) (n:=1) (H4.own _ (Zal ..)) rfl) rfl rfl (by decide) (by decide) (by omega) fun o' h5 nx5 _ H5 => ?_;rw [gu (by omega)];refine hR _ _ _ _ _ _ _ (by omega) ⟨i+1,o',rfl,by rw [zcg hlt,Zan];rfl,rfl,by omega,?_⟩;rw [zcg hlt,Zan,Zav];exact H5.drop
def wP (cells:Int) (lines:List (List Int)) (f:List Int):Int:=if jI cells lines≠0 then jI cells lines else if (f.length:Int)≠cells then 2 else if f.any farL then 3 else 0
theorem zwd {cells:Int} {lines:List (List Int)} {f:List Int} (hw:∀ q∈lines,q.length<=1000000) (hl:f.length<=100000):Pure Tryz.prog B 67 [.agg [I cells,mg lines],encI f] (· = I (wP cells lines f)):=by
 refine yC fun h nx K H0 hK=>zQ zW fP 1000 fun hf => ?_;rw [F67.go];refine H0.box (l:=[I cells,mg lines]) rfl fun bx h1 nx1 H1 => ?_;rw [H1.zx (k:=0) (n:=2) rfl rfl];simp only [zZ];rw [sFx,H1.load (k:=0) (i:=0+0) rfl rfl];simp only [di];refine zyb hw _ _ _ _ ?_;rintro _ rfl _;simp only [zG];rw [H1.load (k:=0) (i:=0+0) rfl rfl];simp only [zG];rw [sFx];simp only [zG];refine vQ _ _ _ _ _ _ ?_;rintro _ rfl _;refine zi9 hl _ _ _ _ ?_;rintro _ rfl _;refine H1.wz (l:=[I (jI cells lines),I (if (!decide ((f.length:Int)=cells))=true then 2 else 0),I (if f.any farL=true then 3 else 0)]) rfl fun tb h2 nx2 H2 => ?_;refine mU (l:=[jI cells lines,if (!decide ((f.length:Int)=cells))=true then 2 else 0,if f.any farL=true then 3 else 0]) H2 (k:=0) rfl (fun B=>zce (by simp)) (fun v hv=>by rw [hv];exact .int _ _) ?_;rintro _ rfl;have e:kD [jI cells lines,if (!decide ((f.length:Int)=cells))=true then 2 else 0,if f.any farL=true then 3 else 0]=wP cells lines f:=by
  simp only [kD,wP];by_cases c1:jI cells lines=0
  ·by_cases c2:(f.length:Int)=cells
   ·by_cases c3:f.any farL=true
    ·simp [c1,c2,c3]
    ·simp [c1,c2,c3]
   ·simp [c1,c2]
  ·simp [c1]
 rw [e];exact hK _ _ _ _ _ H2 (yB rfl) rfl
theorem qap {cells:Int} {lines:List (List Int)} {f:List Int} (h:wP cells lines f=0):jI cells lines=0/\lines.length<=128/\f.length<=256/\∀ l∈lines,l.length<=1000->zdj l f:=by
 rw [wP] at h;by_cases c1:jI cells lines=0
 case neg=>rw [if_pos c1] at h;exact absurd h c1
 rw [if_neg (fun q=>q c1)] at h;by_cases c2:(f.length:Int)=cells
 case neg=>rw [if_pos c2] at h;cases h
 rw [if_neg (fun q=>q c2)] at h;have c3:f.any farL=false:=by cases q:f.any farL with
  | false=>rfl
  | true=>rw [q] at h;cases h
 obtain ⟨n,rfl,n1,n2,n3,n4⟩:=zi7 c1;refine ⟨c1,n3,by omega,fun l hl hlen=>⟨hlen,fun c hc => ?_,fun x hx => ?_⟩⟩
 ·have:=(n4 l hl).2.2 c hc;omega
 ·have:=List.any_eq_false.1 c3 x hx;simp at this;omega
section
variable {cells:Int} {lines:List (List Int)} {f:List Int}
theorem qaq (hw:∀ q∈lines,q.length<=1000) (hl:f.length<=100000):Pure Tryz.prog B 22 [.agg [I cells,mg lines],encI f] (· = if wP cells lines f≠0 then .tup [.zn,I (wP cells lines f)] else .tup [encI (wS lines f),I 0]):=by
 refine yC fun h nx K H0 hK=>zQ zW fP 1000 fun hf => ?_;rw [F22.go];refine H0.box (l:=[I cells,mg lines]) rfl fun bx h1 nx1 H1 => ?_;rw [H1.zx (k:=0) (n:=2) rfl rfl];refine zwd (fun q hq=>by have:=hw q hq;omega) hl _ _ _ _ ?_;rintro _ rfl _;simp only [di];by_cases c:wP cells lines f=0
 ·rw [if_neg (fun q=>q c)] at hK;obtain ⟨_,n1,n2,n3⟩:=qap c;simp only [c,decide_true,Zaj,zC];rw [H1.zx (k:=0) (n:=2) rfl rfl];refine zwc (by omega) (fun l hl=>n3 l hl (hw l hl)) _ _ _ _ ?_;rintro _ rfl _;exact hK _ _ _ _ _ H1 (j7 (yB (dF _)) (yB rfl)) rfl
 ·rw [if_pos c] at hK;simp only [c,decide_false,Zak,zE];exact hK _ _ _ _ _ H1 (j7 (yB rfl) (yB rfl)) rfl
end
end Go.Ev
namespace Go.Ev
open Go Go.Proofs
variable {B:Nat}
set_option maxRecDepth 100000
def norT:List UInt8:=[110,111,114,109,97,108]
def mpS:List UInt8:=[109,111,115,116,45,112,101,114,102,101,99,116]
def assS:List UInt8:=[97,115,115,111,99,105,97,116,105,118,101]
def conN (n:Nat):Nat:=n*(n*n+1) / 2
noncomputable def gV (n:Nat) (l:List Int):AV:=.agg [I (n:Int),I (n:Int),encI l]
structure zrn (n:Nat) (g p:List Int) (pe:Int):Prop where
 gl:g.length=n*n
 m17:∀ {B},Pure Tryz.prog B 17 [I (n:Int)] (· = .tup [gV n g,I 0])
 m18:∀ {B},Pure Tryz.prog B 18 [I (n:Int)] (· = .tup [if pe=0 then gV n p else .agg [I 0,I 0,.zn],I pe])
 k1:pe=0->∀ {B},Pure Tryz.prog B 16 [gV n p,.lst 1 2 [.str norT,.str (rQ 2)]] (· = .bool true)
 k2:pe=0->n%4=0->∀ {B},Pure Tryz.prog B 16 [gV n p,.lst 1 1 [.str mpS]] (· = .bool true)
 k3:∀ {B},Pure Tryz.prog B 16 [gV n g,.lst 1 3 [.str norT,.str (rQ 0),.str (rQ 1)]] (· = .bool true)
 k4:n%4≠2->∀ {B},Pure Tryz.prog B 16 [gV n g,.lst 1 1 [.str assS]] (· = .bool true)
 s12:∀ {B},Pure Tryz.prog B 12 [.str (rQ 1),I (n:Int)] (· = .tup [sqV 1 n,I 0])
 c23:∀ {B},Pure Tryz.prog B 23 [I (n:Int)] (· = I (conN n:Int))
 sys:jI ((n*n:Nat):Int) (sqI 1 n)=0
 ne:sqI 1 n≠[]
 rows:∀ i,i<n->(sqI 1 n)[i]? = some (rwSq n i)
 len:∀ l∈sqI 1 n,l.length=n
 num:(sqI 1 n).length<=34
 far:g.any farL=false
 sums:wS (sqI 1 n) g=List.replicate (sqI 1 n).length (conN n:Int)
theorem zwe {n:Nat} {g:List Int} {N:Pa->Prop} {O:AV->Prop} {hh:T Blk}:Frz True N O hh (gV n g) (gV n g):=rU fun v hv=>by
 simp only [Zao,List.not_mem_nil,or_false] at hv;rcases hv with rfl | rfl | rfl
 ·rfl
 ·rfl
 ·exact dF _
theorem hasC {h0 h:T Blk} {nx ts:Pa} {L:List Ob} {l:List AV} {n m:Nat} {g:List Int} {K:Kw Prop} (H:Hp h0 h nx (.arr ts l::L)) (hl:l.length=m) (hf:∀ v∈l,fO v=true) (hp:∀ {B},Pure Tryz.prog B 16 [gV n g,.lst 1 m l] (· = .bool true)) (hK:∀ h',Hp h0 h' nx L->K (.bool true) h' nx=.ok True):(CS Tryz.prog B).fn 16 (.of 16) [gV n g,.sl ts 0 m (some m) 1] h nx K=.ok True:=by
 refine xZ (h':=T.set .no .no ts h) pE (.cons zwe (.cons (ug.frz (H.own _ (Zal ..)) (T.get_set_same _ _ _ _) (Zaf _) (by omega) hf) .nil)) ?_;refine hp _ _ _ _ ?_;rintro _ rfl _;exact hK _ H.zr7
theorem uGWn (w:Bool) (op:KW3->OP) (h:T Blk) (nx:Pa) (k:KW3):sGW .u w op h nx k=k .u h nx:=by cases w <;> exact nr rfl
theorem zet (op:KW3->OP) (h:T Blk) (nx:Pa) (k:KW3):sGW (.bool false) false op h nx k=op k:=nr rfl
theorem vT {l:List (List UInt8)}:∀ v∈l.map AV.str,fO v=true:=fun v hv=>by obtain ⟨x,_,rfl⟩:=List.mem_map.1 hv;rfl
theorem zve {a:Nat} (ha:a<256) (hO:∀ n,1<=n->n<=16->n≠2->∃ g p pe,zrn n g p pe) (h17:∀ {B},Pure Tryz.prog B 17 [I 2] (· = .tup [.agg [I 0,I 0,.zn],I 7])) (h18:∀ {B},Pure Tryz.prog B 18 [I 2] (· = .tup [.agg [I 0,I 0,.zn],I 7])) (haw:∀ {B},Pure Tryz.prog B 19 [] (· = .bool true)):Pure Tryz.prog B 4 [.int .u8 (a:Int)] (· = .bool true):=by
 refine yC fun h nx K H0 hK=>zQ zW yX 100 fun hf => ?_;have awk:∀ (h:T Blk) (nx:Pa) (Z:Kw Prop),Z (.bool true) h nx=.ok True->(CS Tryz.prog B).fn 19 (.of 19) [] h nx Z=.ok True:=fun h nx Z hz=>haw _ _ _ _ (fun v hv _=>by rw [hv];exact hz);have ret:∀ {h1 nx1 L},Hp h h1 nx1 L->K (.bool true) h1 nx1=.ok True:=fun H=>hK _ _ _ _ _ H (yB rfl) rfl;have hn1:1<=1+a%16/\1+a%16<=16:=by omega
 rw [F4.go,F4.t64,zA,F4.jk,zA,F4.ji,mP (by omega),zkq (by omega),show (a:Int).tmod 16=((a%16:Nat):Int) from rfl,gu (by omega),show (1:Int)+((a%16:Nat):Int)=((1+a%16:Nat):Int) by omega]
 generalize 1+a%16=n at *
 by_cases h2:n=2
 ·subst h2;rw [zA,F4.qh];refine h17 _ _ _ _ ?_;rintro _ rfl _;rw [yJ,yH];refine H0.alloc fun p3 h1 nx1 H1 => ?_;refine H1.jb (l2:=[I 0,I 0,.zn]) (k:=0) rfl rfl rfl fun h2 H2 => ?_;rw [zA,zA,F4.nU];refine h18 _ _ _ _ ?_;rintro _ rfl _;rw [yJ,yH];refine H2.alloc fun p5 h3 nx3 H3 => ?_;refine H3.jb (l2:=[I 0,I 0,.zn]) (k:=0) rfl rfl rfl fun h4 H4 => ?_;rw [zA,F4.ny,F4.r4_0,F4.zg1,dm,Zab (show ¬ (7:Int)=0 by decide)];simp only [yM,uGWf];rw [F4.r4_1,F4.zg2];simp only [uGWf];rw [F4.r4_2,F4.zg3];simp only [yM,wV,uGWn];rw [F4.r4_3,F4.zdm];simp only [uGWn];rw [F4.r4_4,F4.zdn];simp only [yM,wV,zT];rw [F4.t7,zB,F4.v14,zC,zF,F4.t60,zA,zA,F4.nR,dm,Zac (show ((2:Nat):Int)=2 from rfl),zB,F4.v15,zE,zA,F4.fM,dm,Zac (show (7:Int)=7 from rfl),uGWt];refine awk _ _ _ ?_;rw [zV];simp only [zK,zR];rw [F4.ret];exact ret H4
 obtain ⟨g,p,pe,O⟩:=hO n hn1.1 hn1.2 h2;rw [zA,F4.qh];refine O.m17 _ _ _ _ ?_;rintro _ rfl _;rw [yJ,yH];refine H0.alloc fun p3 h1 nx1 H1 => ?_;refine H1.jb (l2:=[I (n:Int),I (n:Int),encI g]) (k:=0) rfl rfl rfl fun h2 H2 => ?_;rw [zA,zA,F4.nU];refine O.m18 _ _ _ _ ?_;rintro _ rfl _;rw [yJ,yH];refine H2.alloc fun p5 h3 nx3 H3 => ?_;have hn4:((n:Nat):Int).tmod 4=((n%4:Nat):Int):=rfl;have zye:∀ {h4:T Blk} {nx4:Pa} {X:List AV} (x5 x6 x7 x8 x9 x10 x11 x12 x13 x14 x15 x17 x18 x19 x20 x21 x22 x23:AV),Hp h h4 nx4 [.arr p5 X,.arr p3 [I (n:Int),I (n:Int),encI g]]->F4.t18.run (CS Tryz.prog B) 100 (fnO F4.res K) (F4.t58.run (CS Tryz.prog B) 100 (fnO F4.res K) (yu F4.res K)) (F4.fr (.int .u8 (a:Int)) (.bool false) (I (n:Int)) (.ptr p3 0) (I 0) x5 x6 x7 x8 x9 x10 x11 x12 x13 x14 x15 (.bool false) x17 x18 x19 x20 x21 x22 x23) h4 nx4=.ok True:=by
  intro h4 nx4 X x5 x6 x7 x8 x9 x10 x11 x12 x13 x14 x15 x17 x18 x19 x20 x21 x22 x23 H4;have hnn:n*n<=256:=Zbd hn1.2 hn1.2;have hll:∀ l∈sqI 1 n,l.length<=16:=fun l hl=>by rw [O.len l hl];exact hn1.2
  rw [F4.t18,zB,F4.v16,zC,zF,F4.t58,zA,F4.zez];refine O.s12 _ _ _ _ ?_;rintro _ rfl _;rw [yJ,yH];refine H4.alloc fun p7 h5 nx5 H5 => ?_;refine H5.jb (l2:=[I ((n*n:Nat):Int),mg (sqI 1 n)]) (k:=0) rfl rfl rfl fun h6 H6 => ?_;rw [zA,zA,F4.sU,di,Zac (show (0:Int)=0 from rfl),Zaj];simp only [yS];rw [H6.zx (k:=0) (n:=2) rfl rfl,zet];refine zsu (fun q hq=>by have:=hll q hq;omega) _ _ _ _ ?_;rintro _ rfl _;rw [O.sys]
  try simp only [yS]
  rw [di,Zac (show (0:Int)=0 from rfl),Zaj];simp only [zT];rw [zB,F4.v17,zC,zF,zA,F4.zjd,H6.zx (k:=0) (n:=2) rfl rfl];refine zi8 (n:=n*n) hnn O.num (fun l hl=>by have:=hll l hl;omega) O.sys _ _ _ _ ?_;rintro _ ⟨x,e,rfl,hc⟩ _;obtain ⟨n',hn',_,_,_,hasc⟩:=zi7 O.sys;have en:n'=n*n:=by omega
  rw [en] at hasc;obtain ⟨rfl,rfl⟩:=ztc hn1.1 hn1.2 O.ne O.rows O.len hasc hc;have hchk:wP ((n*n:Nat):Int) (sqI 1 n) g=0:=by
   unfold wP;rw [if_neg (fun q=>q O.sys),if_neg (fun q=>q (by rw [O.gl])),O.far,if_neg (by decide)]
  rw [yJ,yH,zA,F4.zcm,H6.zx (k:=0) (n:=2) rfl rfl,sFx,H6.load (k:=2) (i:=0+2) rfl rfl];refine qaq (fun q hq=>by have:=hll q hq;omega) (by rw [O.gl];omega) _ _ _ _ ?_;rintro _ rfl _;rw [if_neg (fun q=>q hchk),yJ,yH,O.sums,zA,zA,F4.tC,F4.zo2,F4.ztx,di,Zac (show (0:Int)=0 from rfl),Zaj];simp only [yS];rw [di,Zac (show (0:Int)=0 from rfl),Zaj];simp only [zT,yS];rw [F4.zxm,F4.zty];simp only [yS,zet];refine O.c23 _ _ _ _ ?_;rintro _ rfl _;rw [F4.zxl,F4.ztz];simp only [yS];rw [di,Zac (show ((n*(n*n+1) / 2:Nat):Int)=(conN n:Int) from rfl),Zaj]
  try simp only [zT,yS,zZ,sFx]
  rw [H6.load (k:=0) (i:=0+1) rfl rfl,zZ,F4.zxk,F4.zt0];simp only [yS];rw [di,Zac (by rw [Zba]),Zaj];simp only [zT];rw [zB,F4.v18,zC,zF,zA,zA,F4.oU,zZ,Zba,zL];refine F4.zos (fun k x21 h' nx'=>∃ i:Nat,x21=I (i:Int)/\k+i=(sqI 1 n).length/\h'=h6/\nx'=nx5) (m:=(sqI 1 n).length) (by have:=O.num;omega) ⟨0,rfl,rfl,rfl,rfl⟩ ?_;rintro k z1 z13 z21 z22 z23 h7 nx7 R ⟨i,rfl,hk,rfl,rfl⟩ hR;have hnum:=O.num;rw [F4.t47,zA,F4.zac,uf,zA,zB,F4.v22];by_cases ci:i<(sqI 1 n).length
  ·have hx:(List.replicate (sqI 1 n).length (conN n:Int))[i]? = some (conN n:Int):=by rw [List.getElem?_replicate,if_pos ci]
   rw [Zac (show (i:Int)<((sqI 1 n).length:Int) by omega),zE,zF,zA,zL,zA,F4.ay,ni (i:=i) rfl (by rw [Zba];exact ci),ldL (tJ hx),zA,F4.zaf,di,Zac (show (conN n:Int)=((n*(n*n+1) / 2:Nat):Int) from rfl),Zaj,zB,F4.v23,zC,zF,F4.zcn,gu (by omega)];exact hR (k-1) _ _ _ _ _ _ _ (by omega) ⟨i+1,by congr 1,by omega,rfl,rfl⟩
  ·rw [Zab (show ¬ (i:Int)<((sqI 1 n).length:Int) by omega),zC,zX,yF,zA,F4.zaj];refine awk _ _ _ ?_;simp only [zK,zR];rw [F4.ret];exact ret H6
 have main:∀ {h4:T Blk} {nx4:Pa} {X:List AV} (x5 x6 x7 x8 x9 x10 x11 x12 x13 x15 x16 x17 x18 x19 x20 x21 x22 x23:AV),Hp h h4 nx4 [.arr p5 X,.arr p3 [I (n:Int),I (n:Int),encI g]]->F4.t7.run (CS Tryz.prog B) 100 (fnO F4.res K) (F4.t60.run (CS Tryz.prog B) 100 (fnO F4.res K) (yu F4.res K)) (F4.fr (.int .u8 (a:Int)) (.bool false) (I (n:Int)) (.ptr p3 0) (I 0) x5 x6 x7 x8 x9 x10 x11 x12 x13 (.bool false) x15 x16 x17 x18 x19 x20 x21 x22 x23) h4 nx4=.ok True:=by
  intro h4 nx4 X x5 x6 x7 x8 x9 x10 x11 x12 x13 x15 x16 x17 x18 x19 x20 x21 x22 x23 H4;rw [F4.t7,zB,F4.v14,zC,zF,F4.t60,zA,zA,F4.nR,dm,Zab (show ¬ ((n:Nat):Int)=2 by omega),zB,F4.v15,zC,zF,zA,zA,F4.sF,F4.r8_0,F4.zyp,di,Zac (show (0:Int)=0 from rfl),Zaj];simp only [yS];rw [H4.zx (k:=1) (n:=3) rfl rfl,zet];refine H4.wz (l:=[.str norT,.str (rQ 0),.str (rQ 1)]) rfl fun ts h5 nx5 H5 => ?_;rw [F4.r8_1,F4.zyq,zet];refine hasC H5 rfl (vT (l:=[norT,rQ 0,rQ 1])) O.k3 fun h6 H6 => ?_;rw [F4.r8_2,F4.zyr];simp only [yS,jC,Zaj,zT];rw [zkq (by decide),hn4,di];by_cases c:n%4=2
  ·rw [Zac (show ((n%4:Nat):Int)=2 by omega),Zaj];simp only [yM];rw [F4.r8_3,F4.zoz];simp only [uGWf];rw [F4.r8_4,F4.zo0];simp only [uGWf];rw [F4.r8_5,F4.zo1];simp only [yM,wV,yS,zT];exact zye (h4:=h6) (nx4:=nx5) (X:=X) _ _ _ _ _ _ _ _ _ _ _ _ _ _ _ _ _ _ H6
  ·rw [Zab (show ¬ ((n%4:Nat):Int)=2 by omega),Zak];simp only [yT];rw [H6.zx (k:=1) (n:=3) rfl rfl,F4.r8_3,F4.zoz,uGWt];refine H6.wz (l:=[.str assS]) rfl fun ts2 h7 nx7 H7 => ?_;rw [F4.r8_4,F4.zo0,uGWt];refine hasC H7 rfl (vT (l:=[assS])) (O.k4 c) fun h8 H8 => ?_;rw [F4.r8_5,F4.zo1];simp only [yT,jC,Zaj,yS,zV,zT];exact zye (h4:=h8) (nx4:=nx7) (X:=X) _ _ _ _ _ _ _ _ _ _ _ _ _ _ _ _ _ _ H8
 by_cases hp:pe=0
 ·subst hp;rw [if_pos rfl];refine H3.jb (l2:=[I (n:Int),I (n:Int),encI p]) (k:=0) rfl rfl rfl fun h4 H4 => ?_;rw [zA,F4.ny,F4.r4_0,F4.zg1,dm,Zac (show (0:Int)=0 from rfl)];simp only [yT];rw [H4.zx (k:=0) (n:=3) rfl rfl,uGWt];refine H4.wz (l:=[.str norT,.str (rQ 2)]) rfl fun ts h5 nx5 H5 => ?_;rw [F4.r4_1,F4.zg2,uGWt];refine hasC H5 rfl (vT (l:=[norT,rQ 2])) (O.k1 rfl) fun h6 H6 => ?_;rw [F4.r4_2,F4.zg3];simp only [yT,jC,Zaj,yS];rw [zkq (by decide),hn4,dm];by_cases c:n%4=0
  ·rw [Zac (show ((n%4:Nat):Int)=0 by omega)];simp only [yT];rw [H6.zx (k:=0) (n:=3) rfl rfl,uGWt];refine H6.wz (l:=[.str mpS]) rfl fun ts2 h7 nx7 H7 => ?_;rw [F4.r4_3,F4.zdm,uGWt];refine hasC H7 rfl (vT (l:=[mpS])) (O.k2 rfl c) fun h8 H8 => ?_;rw [F4.r4_4,F4.zdn];simp only [yT,jC,Zaj,yS,zV,zT];exact main (h4:=h8) (nx4:=nx7) (X:=[I (n:Int),I (n:Int),encI p]) _ _ _ _ _ _ _ _ _ _ _ _ _ _ _ _ _ _ H8
  ·rw [Zab (show ¬ ((n%4:Nat):Int)=0 by omega)];simp only [yM,uGWf];rw [F4.r4_3,F4.zdm];simp only [uGWf];rw [F4.r4_4,F4.zdn];simp only [yM,wV,yT,yS,zV,zT];exact main (h4:=h6) (nx4:=nx5) (X:=[I (n:Int),I (n:Int),encI p]) _ _ _ _ _ _ _ _ _ _ _ _ _ _ _ _ _ _ H6
 ·rw [if_neg hp];refine H3.jb (l2:=[I 0,I 0,.zn]) (k:=0) rfl rfl rfl fun h4 H4 => ?_;rw [zA,F4.ny,F4.r4_0,F4.zg1,dm,Zab hp];simp only [yM,uGWf];rw [F4.r4_1,F4.zg2];simp only [uGWf];rw [F4.r4_2,F4.zg3];simp only [yM,wV,uGWn];rw [F4.r4_3,F4.zdm];simp only [uGWn];rw [F4.r4_4,F4.zdn];simp only [yM,wV,zT];exact main (h4:=h4) (nx4:=nx3) (X:=[I 0,I 0,.zn]) _ _ _ _ _ _ _ _ _ _ _ _ _ _ _ _ _ _ H4
end Go.Ev
