import Derived.Test.YtbghckepkajplabGreatDoorEvP
import Derived.RangeFuncRecord
import Derived.Laws.AppendOwn
import Derived.Maps.RangeRun
import Derived.RangeFuncLeaves
import Derived.RangeFuncIn
set_option linter.unusedSimpArgs false
set_option linter.unusedVariables false
namespace Go.Ev
open Go
theorem HR.of_heap {P:Program} {B:Nat} {E:Env} {h:T Blk} {nx:Pa} {w w':World} (H:HR P B E h nx w) (e:w'.heap=w.heap):HR P B E h nx w':={
 blk id hid:=by obtain ⟨b,n,o,h1,h2,h3⟩:=H.blk id hid;exact ⟨b,n,o,h1,by rw [e];exact h2,h3⟩
 inj:=H.inj
 fresh:=H.fresh
 lt id b n hid:=by rw [e];exact H.lt id b n hid
 base:=by rw [e];exact H.base
 frz b i v h:=by rw [e];exact H.frz b i v h }
theorem Ex.of_heap {E:Env} {w w':World} (e:w'.heap=w.heap) (h1:w'.os=w.os) (h2:w'.tape=w.tape) (h3:w'.output=w.output):Ex E E w w':={
 le:=.refl _
 os:=h1
 tape:=h2
 output:=h3
 size:=by rw [e];exact Zaf _
 keep b _ _:=by rw [e]
 new id b n h:=.inr ⟨id,n,h⟩
 fzn b i v h:=.inr (.inl ⟨v,h⟩)
 loop b L h:=⟨L,by rw [e];exact h,.refl _⟩ }
theorem Ex.drew (E:Env) (w:World):Ex E E w w.drew:=Ex.of_heap rfl rfl rfl rfl
def Env.put (E:Env) (id:Pa) (x:Nat×Nat):Env:=⟨λj=>if j.toNat=id.toNat then some x else E j,E.fz,E.lay⟩
theorem Env.ja (E:Env) (id:Pa) (x:Nat×Nat):E.put id x id=some x:=by simp [Env.put]
theorem Env.vo (E:Env) {id j:Pa} (x:Nat×Nat) (h:j≠id):E.put id x j=E j:=by
 show (if j.toNat=id.toNat then some x else E j)=_;rw [if_neg λe=>h (Pa.toNat_inj e)]
theorem Env.tY {E:Env} {id:Pa} (x:Nat×Nat) (h:E id=none):E.le (E.put id x):=⟨by
 intro j y hj;rw [Env.vo E x (by rintro rfl;rw [h] at hj;cases hj)];exact hj,λ_ _ _ h=>h⟩
section
variable {P:Program} {B:Nat} {E:Env} {h:T Blk} {nx:Pa} {w:World}
theorem gA (o:Obj) {b:Nat} (hb:b<w.heap.size):(w.alloc o).heap[b]? = w.heap[b]? := by
 show (w.heap.push o)[b]? = _;rw [Zht,if_neg (by omega)]
theorem wN (o:Obj):(w.alloc o).heap[w.heap.size]? = some o:=by
 show (w.heap.push o)[w.heap.size]? = _;simp
theorem jS (o:Obj):(w.alloc o).heap.size=w.heap.size+1:=by show (w.heap.push o).size=_;simp
theorem uK {b:Nat} (o:Obj) (hb:b<w.heap.size):(w.putObj b o).heap[b]? = some o:=World.putObj_heap_same hb
theorem yP {b k:Nat} (o:Obj) (hne:k≠b):(w.putObj b o).heap[k]? = w.heap[k]? := World.putObj_heap_other hne
theorem Ex.alloc (H:HR P B E h nx w) (o:Obj) (n:Nat):Ex E (E.put nx (w.heap.size,n)) w (w.alloc o):={
 le:=Env.tY _ (H.fresh _ (Zaf _))
 os:=rfl
 tape:=rfl
 output:=rfl
 size:=by rw [jS];omega
 keep b hb _:=gA o hb
 new id b m hid:=by
  by_cases e:id=nx
  .subst e;rw [Env.ja] at hid;cases hid;exact .inl (Zaf _)
  .rw [Env.vo _ _ e] at hid;exact .inr ⟨id,m,hid⟩
 fzn b i v h:=.inr (.inl ⟨v,h⟩)
 loop b L hb:=⟨L,by
  have hlt:b<w.heap.size:=(Zgy.1 hb).1;rw [gA o hlt];exact hb,.refl _⟩ }
theorem HR.alloc (H:HR P B E h nx w) {o:Obj} {n:Nat} {b:Blk} (hbr:BR P (E.put nx (w.heap.size,n)) n b o):HR P B (E.put nx (w.heap.size,n)) (T.set .no b nx h) nx.succ (w.alloc o):={
 blk id hid:=by
  by_cases e:id=nx
  .subst e;rw [T.get_set_same];exact ⟨_,_,o,Env.ja _ _ _,wN o,hbr⟩
  .rw [T.zk _ _ _ _ _ e] at hid ⊢;obtain ⟨b',n',o',h1,h2,h3⟩:=H.blk id hid;exact ⟨b',n',o',by rw [Env.vo _ _ e];exact h1,by rw [gA o (H.lt _ _ _ h1).2];exact h2,h3.mono (Env.tY _ (H.fresh _ (Zaf _)))⟩
 inj id id' b' n' n'' h1 h2 h3 h4:=by
  by_cases e:id=nx
  .by_cases e':id'=nx
   .rw [e,e']
   .subst e;rw [Env.ja] at h3;rw [Env.vo _ _ e'] at h4;cases h3
    exact absurd (H.lt _ _ _ h4).2 (Zct _)
  .by_cases e':id'=nx
   .subst e';rw [Env.ja] at h4;rw [Env.vo _ _ e] at h3;cases h4
    exact absurd (H.lt _ _ _ h3).2 (Zct _)
   .rw [T.zk _ _ _ _ _ e] at h1;rw [T.zk _ _ _ _ _ e'] at h2;rw [Env.vo _ _ e] at h3;rw [Env.vo _ _ e'] at h4;exact H.inj id id' b' n' n'' h1 h2 h3 h4
 fresh id hid:=by
  rw [Pa.aj] at hid;rw [Env.vo _ _ (by rintro rfl;omega)];exact H.fresh id (by omega)
 lt id b' n' hid:=by
  rw [jS];by_cases e:id=nx
  .subst e;rw [Env.ja] at hid;cases hid;exact ⟨H.base,by omega⟩
  .rw [Env.vo _ _ e] at hid;have:=H.lt _ _ _ hid;exact ⟨this.1,by omega⟩
 base:=by rw [jS];have:=H.base;omega
 frz b' i v hf:=by
  obtain ⟨⟨c,ty,fr,h1,h2⟩,h3⟩:=H.frz b' i v hf;have hlt:b'<w.heap.size:=(Zgy.1 h1).1;refine ⟨⟨c,ty,fr,by rw [gA o hlt];exact h1,h2⟩,λid m hid => ?_⟩;by_cases e:id=nx
  .subst e;rw [Env.ja] at hid;cases hid;exact absurd hlt (Zct _)
  .rw [Env.vo _ _ e] at hid;rw [T.zk _ _ _ _ _ e];exact h3 id m hid }
theorem HR.zjl (H:HR P B E h nx w) {id:Pa} (hid:T.get .no id h≠.no) {b n:Nat} (hE:E id=some (b,n)) {b' i:Nat} {v:Value} (hf:E.fz b' i=some v):b'≠b:=by
 rintro rfl;exact hid ((H.frz _ _ _ hf).2 id n hE)
theorem Ex.put {id:Pa} {b n:Nat} (hE:E id=some (b,n)) {o o':Obj} (ho:w.heap[b]? = some o) (hlp:∀ L:Loop,o=.loop L->∃ L':Loop,o'=.loop L'/\r9 L' L):Ex E E w (w.putObj b o'):={
 le:=.refl _
 os:=rfl
 tape:=rfl
 output:=rfl
 size:=by rw [World.putObj_size];exact Zaf _
 keep k _ hn:=yP _ (by rintro rfl;exact hn id n hE)
 new id b n h:=.inr ⟨id,n,h⟩
 fzn b i v h:=.inr (.inl ⟨v,h⟩)
 loop k L hk:=by
  by_cases e:k=b
  .subst e;rw [ho] at hk;obtain ⟨L',h1,h2⟩:=hlp L (Option.some.inj hk);exact ⟨L',by rw [uK _ (Zgy.1 ho).1,h1],h2⟩
  .exact ⟨L,by rw [yP _ e];exact hk,.refl _⟩ }
theorem HR.put (H:HR P B E h nx w) {id:Pa} (hid:T.get .no id h≠.no) {b n:Nat} (hE:E id=some (b,n)) {o':Obj} {x:Blk} (hbr:BR P E n x o'):HR P B E (T.set .no x id h) nx (w.putObj b o'):={
 blk j hj:=by
  have hb:=(H.lt _ _ _ hE).2;by_cases e:j=id
  .subst e;rw [T.get_set_same];exact ⟨b,n,o',hE,uK _ hb,hbr⟩
  .rw [T.zk _ _ _ _ _ e] at hj ⊢;obtain ⟨b',n',o,h1,h2,h3⟩:=H.blk j hj;exact ⟨b',n',o,h1,by rw [yP _ (by rintro rfl;exact e (H.inj j id _ _ _ hj hid h1 hE))];exact h2,h3⟩
 inj j j' b' n' n'' h1 h2 h3 h4:=by
  refine H.inj j j' b' n' n'' ?_ ?_ h3 h4
  .by_cases e:j=id
   .rw [e];exact hid
   .rw [T.zk _ _ _ _ _ e] at h1;exact h1
  .by_cases e:j'=id
   .rw [e];exact hid
   .rw [T.zk _ _ _ _ _ e] at h2;exact h2
 fresh:=H.fresh
 lt j b' n' hj:=by rw [World.putObj_size];exact H.lt j b' n' hj
 base:=by rw [World.putObj_size];exact H.base
 frz b' i v hf:=by
  have hne:=H.zjl hid hE hf;obtain ⟨⟨c,ty,fr,h1,h2⟩,h3⟩:=H.frz b' i v hf;refine ⟨⟨c,ty,fr,by rw [yP _ hne];exact h1,h2⟩,λj m hj => ?_⟩;by_cases e:j=id
  .subst e;rw [hE] at hj;cases hj;exact absurd rfl hne
  .rw [T.zk _ _ _ _ _ e];exact h3 j m hj }
theorem HR.drop (H:HR P B E h nx w) (id:Pa):HR P B E (T.set .no .no id h) nx w:={
 blk j hj:=by
  by_cases e:j=id
  .subst e;rw [T.get_set_same] at hj;exact absurd rfl hj
  .rw [T.zk _ _ _ _ _ e] at hj ⊢;exact H.blk j hj
 inj j j' b' n' n'' h1 h2 h3 h4:=by
  refine H.inj j j' b' n' n'' ?_ ?_ h3 h4
  .by_cases e:j=id
   .subst e;rw [T.get_set_same] at h1;exact absurd rfl h1
   .rw [T.zk _ _ _ _ _ e] at h1;exact h1
  .by_cases e:j'=id
   .subst e;rw [T.get_set_same] at h2;exact absurd rfl h2
   .rw [T.zk _ _ _ _ _ e] at h2;exact h2
 fresh:=H.fresh
 lt:=H.lt
 base:=H.base
 frz b' i v hf:=by
  obtain ⟨h1,h3⟩:=H.frz b' i v hf;refine ⟨h1,λj m hj => ?_⟩;by_cases e:j=id
  .subst e;rw [T.get_set_same]
  .rw [T.zk _ _ _ _ _ e];exact h3 j m hj }
theorem HR.rename (H:HR P B E h nx w) {id:Pa} (hid:T.get .no id h≠.no) {b n:Nat} (hE:E id=some (b,n)) {o':Obj} {x:Blk} (hbr:BR P (E.put nx (b,n)) n x o') :
  HR P B (E.put nx (b,n)) (T.set .no x nx (T.set .no .no id h)) nx.succ (w.putObj b o')/\Ex E (E.put nx (b,n)) w w:=by
 have hfr:=H.fresh nx (Zaf _);have hne:id≠nx:=by rintro rfl;rw [hfr] at hE;cases hE
 have hle:E.le (E.put nx (b,n)):=Env.tY _ hfr;refine ⟨⟨?_,?_,?_,?_,by rw [World.putObj_size];exact H.base,?_⟩,⟨hle,rfl,rfl,rfl,Zaf _,λ_ _ _=>rfl,?_,λ_ _ v h=>.inr (.inl ⟨v,h⟩),λ_ L hb=>⟨L,hb,.refl _⟩⟩⟩
 .intro j hj;have hb:=(H.lt _ _ _ hE).2;by_cases e:j=nx
  .subst e;rw [T.get_set_same];exact ⟨b,n,o',Env.ja _ _ _,uK _ hb,hbr⟩
  .rw [T.zk _ _ _ _ _ e] at hj ⊢;by_cases e2:j=id
   .subst e2;rw [T.get_set_same] at hj;exact absurd rfl hj
   .rw [T.zk _ _ _ _ _ e2] at hj ⊢;obtain ⟨b',n',o,h1,h2,h3⟩:=H.blk j hj;exact ⟨b',n',o,by rw [Env.vo _ _ e];exact h1,by rw [yP _ (by rintro rfl;exact e2 (H.inj j id _ _ _ hj hid h1 hE))];exact h2,h3.mono hle⟩
 .intro j j' b' n' n'' h1 h2 h3 h4;have key:∀ j b' n',j≠nx->T.get .no j (T.set .no x nx (T.set .no .no id h))≠.no->E.put nx (b,n) j=some (b',n')->T.get .no j h≠.no/\E j=some (b',n')/\b'≠b:=by
   intro j b'' m'' e k1 k3;rw [T.zk _ _ _ _ _ e] at k1;rw [Env.vo _ _ e] at k3;by_cases e2:j=id
   .subst e2;rw [T.get_set_same] at k1;exact absurd rfl k1
   .rw [T.zk _ _ _ _ _ e2] at k1;exact ⟨k1,k3,λeb=>e2 (H.inj j id _ _ _ k1 hid (eb ▸ k3) hE)⟩
  by_cases e:j=nx
  .by_cases e':j'=nx
   .rw [e,e']
   .obtain ⟨_,_,q⟩:=key j' b' n'' e' h2 h4;subst e;rw [Env.ja] at h3;cases h3;exact absurd rfl q
  .by_cases e':j'=nx
   .obtain ⟨_,_,q⟩:=key j b' n' e h1 h3;subst e';rw [Env.ja] at h4;cases h4;exact absurd rfl q
   .obtain ⟨q1,q2,_⟩:=key j b' n' e h1 h3;obtain ⟨q3,q4,_⟩:=key j' b' n'' e' h2 h4;exact H.inj j j' b' n' n'' q1 q3 q2 q4
 .intro j hj;rw [Pa.aj] at hj;rw [Env.vo _ _ (by rintro rfl;omega)];exact H.fresh j (by omega)
 .intro j b' n' hj;rw [World.putObj_size];by_cases e:j=nx
  .subst e;rw [Env.ja] at hj;cases hj;exact H.lt _ _ _ hE
  .rw [Env.vo _ _ e] at hj;exact H.lt _ _ _ hj
 .intro b' i v hf;have hne':=H.zjl hid hE hf;obtain ⟨⟨c,ty,fr,h1,h2⟩,h3⟩:=H.frz b' i v hf;refine ⟨⟨c,ty,fr,by rw [yP _ hne'];exact h1,h2⟩,λj m hj => ?_⟩;by_cases e:j=nx
  .subst e;rw [Env.ja] at hj;cases hj;exact absurd rfl hne'
  .rw [Env.vo _ _ e] at hj;rw [T.zk _ _ _ _ _ e];by_cases e2:j=id
   .subst e2;rw [T.get_set_same]
   .rw [T.zk _ _ _ _ _ e2];exact h3 j m hj
 .intro j b' n' hj;by_cases e:j=nx
  .subst e;rw [Env.ja] at hj;cases hj;exact .inr ⟨id,_,hE⟩
  .rw [Env.vo _ _ e] at hj;exact .inr ⟨j,_,hj⟩
theorem zgv {g o:Nat} {v:Value} {cur:Array Value} {ty:TypeId} {fr:Nat×Nat} (hg:w.heap[g]? = some (.cells cur ty fr)):w.setCell ⟨g,o,none⟩ v=w.putObj g (.cells (cur.setIfInBounds o v) ty fr):=by
 unfold World.setCell World.putObj
 congr 1
 apply Array.ext_getElem?;intro i;rw [Zhp,Zhi];obtain ⟨hlt,hgi⟩:=Zgy.1 hg;by_cases e:g=i
 .subst e;simp [hlt,hgi]
 .rw [if_neg e,if_neg e]
theorem zcu {g:Nat} {o o':Obj}:(w.putObj g o).putObj g o'=w.putObj g o':=by
 unfold World.putObj;simp
theorem zgw {g:Nat} {o:Obj} (hg:w.heap[g]? = some o):w.putObj g o=w:=by
 unfold World.putObj
 congr 1
 apply Array.ext_getElem?;intro i;rw [Zhi];obtain ⟨hlt,hgi⟩:=Zgy.1 hg;by_cases e:g=i
 .subst e;simp [hlt,hgi]
 .rw [if_neg e]
theorem tZ (g o:Nat) (ty:TypeId) (fr:Nat×Nat):∀ (vs:List Value) (i:Nat) (cur:Array Value) (w:World),w.heap[g]? = some (.cells cur ty fr)->vE fr cur.size->o+i+vs.length<=cur.size->(∀ v∈vs,v.oneCell'=true) ->
  (storeCells ⟨g,o,none⟩ vs i).run P w=.ok () (w.putObj g (.cells (cur.toList.take (o+i)++vs++cur.toList.drop (o+i+vs.length)).toArray ty fr))
 | [],i,cur,w,hg,_,_,_=>by
  simp only [storeCells,Zbh,Zey,Zee,Zfw,Zcj];rw [zgw hg];rfl
 | v::rest,i,cur,w,hg,hfz,hl,h1=>by
  have hi:o+i<cur.size:=by simp at hl;omega
  have hcell:w.cell? ⟨g,o+i,none⟩=some cur[o+i]:=by simp [World.cell?,hg,hi]
  have hfro:w.frozen? ⟨g,o+i,none⟩=false:=by
   have:=hfz (o+i) hi;obtain ⟨lo,hi'⟩:=fr;simp only [World.frozen?,hg];rw [Zdx];intro e;simp only [Zap,decide_eq_true_eq] at e;exact this e
  have hst:(store ((⟨g,o,none⟩:Addr).add i) v).run P w=.ok () (w.putObj g (.cells (cur.setIfInBounds (o+i) v) ty fr)):=by
   rw [jU,run_store _ _ _ _ _ (h1 v (by simp)),hcell];simp only [hfro,Zds,if_false];rw [zgv hg]
  have hlt:=(Zgy.1 hg).1;have ih:=tZ g o ty fr rest (i+1) (cur.setIfInBounds (o+i) v) (w.putObj g (.cells (cur.setIfInBounds (o+i) v) ty fr)) (uK _ hlt) (by simpa using hfz) (by simp at hl ⊢;omega) (λu hu=>h1 u (by simp [hu]));simp only [storeCells,Sem.run_bind,hst,Result.andThen_ok,ih,zcu]
  congr 4
  apply Zbp;intro j;have hl':cur.toList.length=cur.size:=by simp
  simp only [Array.toList_setIfInBounds,Zhj,Zag,Zaj,Zat,Zhl,Zhe,Zhm,hl',Zbc];have e1:min (o+(i+1)) cur.size=o+i+1:=by omega
  have e2:min (o+i) cur.size=o+i:=by omega
  simp only [e1,e2];by_cases h1:j<o+i
  .rw [if_pos (by omega),if_pos (by omega),if_pos (by omega),if_neg (by omega),if_pos (by omega),if_pos h1,if_pos h1]
  .by_cases h2:j=o+i
   .subst h2;rw [if_pos (by omega),if_pos (by omega),if_pos (by omega),if_pos rfl,if_pos (by omega),if_pos (by omega),if_neg (by omega)];simp
   .by_cases h3:j<o+i+1+rest.length
    .rw [if_pos (by omega),if_neg (by omega),if_pos (by omega),if_neg (by omega)];obtain ⟨q,rfl⟩:∃ q,j=o+i+1+q:=⟨j-(o+i+1),by omega⟩;rw [show o+i+1+q-(o+i+1)=q by omega,show o+i+1+q-(o+i)=q+1 by omega];simp
    .rw [if_neg (by omega),if_neg (by omega),if_neg (by omega)]
     congr 1
     omega
theorem BR.write {n:Nat} {op:Bool} {m m':Nat} {t:T AV} {c:Array Value} {ty:TypeId} {fr:Nat×Nat} (hfz:vE fr c.size) (hn:c.size=n) (hm:m<=n) (hop:op=false->m'=n)
  (hall:∀ i,i<m->gy (T.get .u (.of i) t)=true/\∃ v,c[i]? = some v/\VR E (T.get .u (.of i) t) v) {l:List AV} {vs:List Value} (hl:VRL E l vs) (hs:l.all gy=true) {off:Nat} (hoff:off+l.length<=n)
  (hm':m'<=n) (hmm:m'<=m\/(off<=m/\m'<=off+l.length)) :
  BR P E n (.cells op m' (jN l t off)) (.cells (c.toList.take off++vs++c.toList.drop (off+vs.length)).toArray ty fr):=by
 have hlen:=hl.length;have hsz:(c.toList.take off++vs++c.toList.drop (off+vs.length)).toArray.size=c.size:=by simp;omega
 refine ⟨_,ty,fr,rfl,by rw [hsz];exact hfz,by rw [hsz];exact hn,hm',hop,λi hi => ?_⟩;rw [uB];have hcl:c.toList.length=c.size:=by simp
 have he:(c.toList.take off++vs++c.toList.drop (off+vs.length)).toArray[i]? = if i<off then c[i]? else if i<off+l.length then vs[i-off]? else c[i]? := by
  rw [Zho];simp only [Zhj,Zag,Zaj,Zhl,Zhe,hcl,hlen];rw [show min off c.size=off by omega];by_cases h1:i<off
  .rw [if_pos (by omega),if_pos h1,if_pos h1,if_pos h1];simp
  .rw [if_neg h1];by_cases h2:i<off+l.length
   .rw [if_pos h2,if_neg h1,if_pos h2]
   .rw [if_neg h2,if_neg h2,show off+l.length+(i-(off+l.length))=i by omega];simp
 rw [he];by_cases h1:off<=i/\i<off+l.length
 .rw [if_pos h1,if_neg (by omega),if_pos h1.2];have hlt:i-off<l.length:=by omega
  have hg:l[i-off]? = some l[i-off]:=by simp [hlt]
  obtain ⟨v,q1,q2⟩:=hl.get hg;rw [Zaa,hg];refine ⟨?_,v,q1,q2⟩;rw [Zaw] at hs;exact hs _ (Zas hlt)
 .rw [if_neg h1];by_cases h2:i<off
  .rw [if_pos h2];exact hall i (by omega)
  .rw [if_neg h2,if_neg (by omega)];exact hall i (by omega)
theorem BR.fresh {l:List AV} {vs:List Value} (hl:VRL E l vs) (hs:l.all gy=true) (ty:TypeId) (op:Bool) (rest:List Value) (hr:op=false->rest=[]) :
  BR P E (l.length+rest.length) (.cells op l.length (jN l .e 0)) (.cells (vs++rest).toArray ty (0,0)):=by
 have hlen:=hl.length;refine ⟨_,ty,(0,0),rfl,λi _=>by simp,by simp [hlen],by omega,λho=>by simp [hr ho],λi hi => ?_⟩;rw [uB,if_pos ⟨Zdl _,by simpa using hi⟩];have hg:l[i]? = some l[i]:=by simp [hi]
 obtain ⟨v,q1,q2⟩:=hl.get hg;rw [Nat.sub_zero,Zaa,hg];refine ⟨by rw [Zaw] at hs;exact hs _ (Zas hi),v,?_,q2⟩;rw [Zho,Zhj,if_pos (by omega)];exact q1
end
end Go.Ev
namespace Go.Ev
open Go
section
variable {β:Type} {P:Program} {E:Env} {loc st:List Nat} {tm:Tm} {a:Act} {B:Nat} {h:T Blk} {nx:Pa} {w:World}
variable {K:Kw β} {r:β} {C:Calls β}
def nX (P:Program) (B:Nat) (E:Env) (w:World) (K:Kw β) (r:β) (s:Sem Next):Prop :=
 ∃ av v h' nx' E' w',K av h' nx'=.ok r/\VR E' av v/\HR P B E' h' nx' w'/\Ex E E' w w'/\(s.run P w=.ok (.value v) w'\/(s.run P w=.ok .skip w'/\v=undef))
theorem nX.of_run {s s':Sem Next} (hg:nX P B E w K r s) (he:s'.run P w=s.run P w):nX P B E w K r s':=by
 obtain ⟨av,v,h',nx',E',w',q1,q2,q3,q4,q5⟩:=hg;exact ⟨av,v,h',nx',E',w',q1,q2,q3,q4,by rw [he];exact q5⟩
theorem good_row (H:HR P B E h nx w) {l:List AV} {vs:List Value} (hl:VRL E l vs) (hs:l.all gy=true) (ty:TypeId) (op:Bool) (rest:List Value) (hr:op=false->rest=[]) {w₀:World} (hx:Ex E E w w₀) (hw:w₀.heap=w.heap) :
  HR P B (E.put nx (w.heap.size,l.length+rest.length)) (T.set .no (.cells op l.length (jN l .e 0)) nx h) nx.succ (w₀.alloc (.cells (vs++rest).toArray ty (0,0))) /\
  Ex E (E.put nx (w.heap.size,l.length+rest.length)) w (w₀.alloc (.cells (vs++rest).toArray ty (0,0))):=by
 have H0:=H.of_heap hw;have hle:E.le (E.put nx (w.heap.size,l.length+rest.length)):=Env.tY _ (H.fresh _ (Zaf _));have hb:=BR.fresh (P:=P) (hl.mono hle) hs ty op rest hr;have h1:=H0.alloc (n:=l.length+rest.length) (b:=.cells op l.length (jN l .e 0)) (o:=.cells (vs++rest).toArray ty (0,0)) (by rw [hw];exact hb);have h2:=Ex.alloc H0 (.cells (vs++rest).toArray ty (0,0)) (l.length+rest.length);rw [hw] at h1 h2;exact ⟨h1,hx.trans h2⟩
theorem ze5 {id:Pa} {off b n:Nat} (hE:E id=some (b,n)):VR E (.ptr id off) (.pointer (some ⟨b,off,none⟩)):=by simp only [VR];exact ⟨b,n,hE,rfl⟩
theorem kB:VR E .u undef:=by unfold AV.u undef;exact dJ VRL.nil
theorem ze6:Array.range 0 = #[]:=rfl
theorem gD (ty:TypeId) (cs:Array Value) (w:World):(newRow ty cs).run P w=.ok ⟨w.heap.size,0,none⟩ (w.alloc (.cells cs ty (0,0))):=by
 simp only [newRow,Sem.run_bind];rfl
theorem vS (ty:TypeId) (v:Value) (w:World):(newVar ty v).run P w=.ok ⟨w.heap.size,0,none⟩ (w.alloc (.cells v.cells ty (0,0))):=gD ty _ w
theorem zy3 (F:FR E loc st tm a) (H:HR P B E h nx w) {t:TypeId} {x:Operand} {y:Arg} (hx:zx loc st x=some y) (hk:(WO.box y).ev C tm h nx K=.ok r) :
  nX P B E w K r (do pure (.value (<- Instr.box t (a.eval x)))):=by
 have hk:(match (y.ev tm).cells with
  | some l=>jA false l h nx λid h' nx'=>K (.ptr id 0) h' nx'
  | none=>.no 39)=.ok r:=hk
 cases hc:(y.ev tm).cells with
 | none=>simp [hc] at hk
 | some l =>
  simp only [hc,yW] at hk;obtain ⟨q1,q2⟩:=(zP F hx).cells hc;obtain ⟨g1,g2⟩:=good_row H q1 q2 t false [] (λ_=>rfl) (.refl _ _) rfl;refine ⟨_,_,_,_,_,_,hk,ze5 (Env.ja _ _ _),g1,g2,.inl ?_⟩;simp [Instr.box,vS]
theorem zpz (H:HR P B E h nx w) {t:TypeId} {z:AV} {zl:List AV} (hz:gR P t=some z) (hzl:z.cells=some zl) (hk:(WO.alloc zl).ev C tm h nx K=.ok r) :
  nX P B E w K r (do pure (.value (<- Instr.alloc t true (.tuple #[])))):=by
 have hk:jA false zl h nx (λid h' nx'=>K (.ptr id 0) h' nx')=.ok r:=hk;rw [yW] at hk;obtain ⟨v,hv,hr⟩:=kM (w:=w) (E:=E) hz;obtain ⟨q1,q2⟩:=hr.cells hzl;obtain ⟨g1,g2⟩:=good_row H q1 q2 t false [] (λ_=>rfl) (.refl _ _) rfl;refine ⟨_,_,_,_,_,_,hk,ze5 (Env.ja _ _ _),g1,g2,.inl ?_⟩;simp [Instr.alloc,hv,vS]
theorem qH (n:Nat) (z:List AV):(fe n z).length=n*z.length:=by
 induction n with
 | zero=>simp [show fe 0 z=[] from rfl]
 | succ n ih=>show (z++fe n z).length=_;rw [Zag,ih];rw [Nat.succ_mul];omega
theorem zp0 (n:Nat) (z:List AV) (i:Nat) (hi:i<n*z.length):(fe n z)[i]? = z[i%z.length]? := by
 induction n generalizing i with
 | zero=>omega
 | succ n ih =>
  show (z++fe n z)[i]? = _;rw [Zhj];by_cases h1:i<z.length
  .rw [if_pos h1,Zbx h1]
  .rw [if_neg h1,ih _ (by rw [Nat.succ_mul] at hi;omega),<- Nat.mod_eq_sub_mod (by omega)]
theorem xV (n:Nat) (z:List AV) (hz:z.all gy=true):(fe n z).all gy=true:=by
 induction n with
 | zero=>rfl
 | succ n ih=>show (z++fe n z).all gy=true;rw [Zez,hz,ih];rfl
theorem pM {z:List AV} {vs:Array Value} (hz:VRL E z vs.toList) (n k:Nat) (hk:k=n*z.length):VRL E (fe n z) ((Array.range k).map (vs[· % vs.size]!)).toList:=by
  have hlen:vs.size=z.length:=by have:=hz.length;simpa using this
  refine VRL.sO (by simp [qH,hk]) λi x hi => ?_;have hlt:i<n*z.length:=by
    rw [<- qH];exact (Zgv.1 hi).1
  rw [zp0 _ _ _ hlt] at hi;obtain ⟨v,h1,h2⟩:=hz.get hi;refine ⟨v,?_,h2⟩;rw [Zhq] at h1;have hm:i%z.length<vs.size:=by
    rw [hlen];exact Zdr _ (Zfd λh0=>by rw [h0] at hlt;omega)
  simp only [Array.toList_map,Zgw,Array.toList_range,Zhr (show i<k by omega),Zcy,hlen];rw [getElem!_pos vs _ hm];rw [getElem?_pos vs _ hm] at h1;exact h1
theorem zm0 (F:FR E loc st tm a) (H:HR P B E h nx w) {t e:TypeId} {n s:Nat} {parts:Array (Nat×Operand)} {z:AV} {zl:List AV} {ps:List (Nat×Nat×Arg)} (hu:P.underlying t=some (.slice e)) (hs:rA P e=some s) (hz:gR P e=some z)
  (hzl:z.cells=some zl) (hzs:zl.length=s) (hsz:n*s<=16777216) (hp:gX loc st (λi=>some (i*s,s)) parts.toList=some ps) (hk:(WO.qw s n zl ps).ev C tm h nx K=.ok r) :
  nX P B E w K r (do pure (.value (<- Instr.buildSlice t n (parts.map λ(i,x)=>(i,a.eval x))))):=by
 have hk:(match gL (fe n zl) (j8 ps tm) with
  | some l=>jA false l h nx λid h' nx'=>K (.sl id 0 n (some n) s) h' nx'
  | none=>.no 40)=.ok r:=hk
 cases hf:gL (fe n zl) (j8 ps tm) with
 | none=>simp [hf] at hk
 | some l =>
  simp only [hf,yW] at hk;obtain ⟨v,hv,hr⟩:=kM (w:=w) (E:=E) hz;obtain ⟨q1,q2⟩:=hr.cells hzl;have hvs:v.cells.size=s:=by have:=q1.length;simp at this;omega
  have hrep:=pM q1 n (n*s) (by rw [hzs]);obtain ⟨cs,p1,p2,p3,p4⟩:=wQ F hp hrep (xV _ _ q2) hf;obtain ⟨g1,g2⟩:=good_row H p2 p3 e false [] (λ_=>rfl) (.refl _ _) rfl;have hlen:l.length=n*s:=by rw [p4,qH,hzs]
  refine ⟨_,_,_,_,_,_,hk,kZ (Env.ja _ _ _) (c:=n) rfl,g1,g2,.inl ?_⟩;have hsz':¬ (n*s>2 ^ 24):=by omega
  have hpm:(parts.map λp=>(p.1,a.eval p.2)).toList=parts.toList.map λp=>(p.1,a.eval p.2):=by simp
  simp only [Instr.buildSlice,Sem.run_bind,run_underlying hu,Result.andThen_ok,jX hs];rw [if_neg hsz'];simp only [Sem.run_bind,Sem.run_pure,Result.andThen_ok];by_cases h0:n*s=0
  .have e0:Array.map (λx=>(#[]:Array Value)[x%(#[]:Array Value).size]!) (Array.range (n*s))=Array.map (λx=>v.cells[x%v.cells.size]!) (Array.range (n*s)):=by rw [h0,ze6];simp
   simp only [if_pos h0,Sem.run_bind,Sem.run_pure,Result.andThen_ok,e0,hpm,p1,gD,Zbh,Zcj]
  .simp only [if_neg h0,hv,Sem.run_bind,Sem.run_pure,Result.andThen_ok,hpm,p1,gD,Zbh,Zcj]
theorem zjm (F:FR E loc st tm a) (H:HR P B E h nx w) {t e:TypeId} {i:TypeInfo} {l c:Operand} {l' c':Arg} {z:AV} {zl:List AV} (hu:P.underlying t=some (.slice e)) (hi:P.info? e=some i) (hz:gR P e=some z)
  (hzl:z.cells=some zl) (hzs:zl.length=i.size) (hl:zx loc st l=some l') (hc:zx loc st c=some c') (hk:(WO.tV i.size i.bytes zl l' c').ev C tm h nx K=.ok r) :
  nX P B E w K r (do pure (.value (<- Instr.makeSlice t (a.eval l) (a.eval c)))):=by
 obtain ⟨k1,n1,e1,hk⟩:=uI hk;obtain ⟨k2,n2,e2,hk⟩:=uI hk;have v1:=zP F hl;have v2:=zP F hc;rw [e1] at v1;rw [e2] at v2;rw [v1.xw,v2.xw];cases n1 with
 | negSucc n1=>cases hk
 | ofNat n1 =>
  cases n2 with
  | negSucc n2=>cases hk
  | ofNat n2 =>
   obtain ⟨hb,hk⟩:=jD hk;simp only [Zap] at hb;obtain ⟨⟨b1,b2⟩,b3⟩:=hb;have b1:=yG b1;have b2:=yG b2;have b3:=yG b3;rw [yW] at hk;obtain ⟨v,hv,hr⟩:=kM (w:=w) (E:=E) hz;obtain ⟨q1,q2⟩:=hr.cells hzl;have hvs:v.cells.size=i.size:=by have:=q1.length;simp at this;omega
   have hrep:=pM q1 n2 (n2*i.size) (by rw [hzs]);obtain ⟨g1,g2⟩:=good_row H hrep (xV _ _ q2) e false [] (λ_=>rfl) (.refl _ _) rfl;refine ⟨_,_,_,_,_,_,hk,kZ (Env.ja _ _ _) (c:=n2) rfl,g1,g2,.inl ?_⟩;have w1:IntKind.i64.wrap (Int.ofNat n1)=n1:=IntWalk.i64_in _ (by simp only [Zeb];omega);have w2:IntKind.i64.wrap (Int.ofNat n2)=n2:=IntWalk.i64_in _ (by simp only [Zeb];omega);have hb3:¬ ((i.bytes:Int)*(Int.ofNat n2)>2 ^ 48):=by
    have h3:((i.bytes*n2:Nat):Int)<=281474976710656:=Int.ofNat_le.2 b3;rw [Int.natCast_mul] at h3;have e48:(2:Int) ^ 48=281474976710656:=by decide
    rw [e48];exact Zfz.2 h3
   have hso:(sizeOf e).run P w=.ok i.size w:=jX (by simp [rA,hi]) w;have hti:(typeInfo e).run P w=.ok i w:=by simp [typeInfo,hi]
   have hcond:¬ (((decide ((n2:Int)<0)||decide ((i.bytes:Int)*(n2:Int)>2 ^ 48))||decide ((n1:Int)<0)||decide ((n1:Int)>(n2:Int)))=true):=by
    simp only [Zdm,decide_eq_true_eq];rintro (((h | h) | h) | h)
    .omega
    .exact hb3 h
    .omega
    .omega
   simp only [Instr.makeSlice,Sem.run_bind,run_underlying hu,Result.andThen_ok,Go.asInt,asIntOf,Sem.run_pure,hti];rw [w1,w2,if_neg hcond];simp only [Sem.run_bind,run_askRoom,Result.andThen_ok,hso,Zgq];by_cases h0:n2*i.size=0
   .simp only [h0,if_true,Sem.run_bind,Sem.run_pure,Result.andThen_ok,gD,Zbh,Zcj];simp [h0,ze6]
   .simp only [if_neg h0,hv,Sem.run_bind,Sem.run_pure,Result.andThen_ok,gD,Zbh,Zcj]
theorem zp1 (H:HR P B E h nx w) {t:TypeId} (hk:WO.eX.ev C tm h nx K=.ok r):nX P B E w K r (do pure (.value (<- Instr.makeMap t none))):=by
 have hk:T.fq .no (.map 0 []) nx h (λh'=>K (.map nx) h' nx.succ)=.ok r:=hk;rw [T.jo] at hk;have g1:=H.alloc (n:=0) (b:=.map 0 []) (o:=.map #[] 0) ⟨#[],rfl,rfl,rfl,by simp⟩;have g2:=Ex.alloc H (.map #[] 0) 0;refine ⟨_,.map (some w.heap.size),_,_,_,_,hk,by simp only [VR];exact ⟨_,_,Env.ja _ _ _,rfl⟩,g1,g2,.inl ?_⟩;simp [Instr.makeMap]
theorem zp2 (F:FR E loc st tm a) (H:HR P B E h nx w) {t:TypeId} {s:Nat} {x y:Operand} {x' y':Arg} (hs:rA P t=some s) (hx:zx loc st x=some x') (hy:zx loc st y=some y') (hk:(WO.store s x' y').ev C tm h nx K=.ok r) :
  nX P B E w K r (do Instr.storeAt t (a.eval x) (a.eval y);pure .skip):=by
 rcases qO hk with ⟨id,off,hp,hk⟩ | ⟨_,_,hk⟩
 case inr=>cases hk
 obtain ⟨op,m,tt,hb,hk⟩:=uF hk;cases hc:(y'.ev tm).cells with
 | none=>simp [hc] at hk
 | some l =>
  simp only [hc] at hk;obtain ⟨hle,hk⟩:=jD hk;simp only [Zap] at hle;have hl1:=yM hle.1;have hl2:=yG hle.2;rw [jQ,T.jo] at hk;have v1:=zP F hx;rw [hp] at v1;obtain ⟨b,n,hE,he⟩:=v1.tX;obtain ⟨q1,q2⟩:=(zP F hy).cells hc;obtain ⟨b',n',c,ty,fr,h1,h2,h3,h4,h5,h6,h7⟩:=H.cells hb;obtain ⟨rfl,rfl⟩:b=b'/\n=n':=by rw [hE] at h1;cases h1;exact ⟨rfl,rfl⟩
  have hlen:(a.eval y).cells.size=l.length:=by have:=q1.length;simpa using this
  have hone:∀ v∈(a.eval y).cells.toList,v.oneCell'=true:=by
   intro v hv;obtain ⟨i,hi⟩:=Zhk hv;have hil:i<l.length:=by rw [<- q1.length];exact (Zgv.1 hi).1
   obtain ⟨u,hu,hur⟩:=q1.get (show l[i]? = some l[i] by simp [hil]);rw [hi] at hu;cases hu;refine hur.oneCell ?_;rw [Zaw] at q2;exact q2 _ (Zas hil)
  have hrun:=tZ (P:=P) b off ty fr (a.eval y).cells.toList 0 c w h2 h3 (by simp;omega) hone;have hbr:=BR.write (P:=P) h3 h4 h5 (λho=>h6 ho) h7 q1 q2 (off:=off) (by omega) h5 (.inl (Zaf _)) (ty:=ty);have g1:=H.put (by rw [hb];intro e;cases e) hE hbr;have g2:Ex E E w _:=Ex.put hE h2 (o':=.cells (c.toList.take off++(a.eval y).cells.toList++c.toList.drop (off+(a.eval y).cells.toList.length)).toArray ty fr) (by intro L hL;cases hL);refine ⟨_,undef,_,_,_,_,hk,kB,g1,g2,.inr ⟨?_,rfl⟩⟩;rw [he];simp only [Zee] at hrun;simp [Instr.storeAt,Instr.sureAddr,storeVar,jX hs,hlen,hl1,hrun]
end
end Go.Ev
namespace Go.Ev
open Go
section
variable {β:Type} {P:Program} {E:Env} {loc st:List Nat} {tm:Tm} {a:Act} {B:Nat} {h:T Blk} {nx:Pa} {w:World}
variable {K:Kw β} {r:β} {C:Calls β}
theorem zav:∀ {l l':List AV} {xs ys:List Value},kY l l'=some true->VRL E l xs->VRL E l' ys->xs=ys/\∀ v∈xs,∃ k n,v=.int k n
 | [],[],xs,ys,_,h1,h2=>by
  simp only [VRL] at h1 h2;subst h1;subst h2;exact ⟨rfl,by simp⟩
 | [],_::_,_,_,h,_,_=>by simp [kY] at h
 | x::_,[],_,_,h,_,_=>by cases x <;> simp [kY] at h
 | x::l,y::l',xs,ys,h,h1,h2=>by
  cases x <;> first | (simp [kY] at h;done) | skip
  cases y <;> first | (simp [kY] at h;done) | skip
  rename_i k m k' n;simp only [kY] at h;simp only [VRL] at h1 h2;obtain ⟨u,us,rfl,q1,s1⟩:=h1;obtain ⟨v,vs,rfl,q2,s2⟩:=h2;cases hq:vB k k' with
  | false=>simp [hq] at h
  | true =>
   obtain rfl:=wL hq;simp only [hq,cond_true] at h;rw [xM] at h;cases hmn:(m==n) with
   | false=>simp [hmn] at h
   | true =>
    simp only [hmn,cond_true] at h;obtain rfl:=eq_of_beq hmn;obtain ⟨rfl,hall⟩:=zav h s1 s2;rw [q1.xw,q2.xw];exact ⟨rfl,by intro v hv;rcases Zaq.1 hv with rfl | hv;exact ⟨_,_,rfl⟩;exact hall v hv⟩
theorem zcv (n:Nat) {xs:List Value} (h:∀ v∈xs,∃ k m,v=.int k m):(xs.zip xs).all (λ(x,y)=>Instr.sameBits (n+1) x y)=true:=by
 induction xs with
 | nil=>rfl
 | cons v xs ih =>
  obtain ⟨k,m,rfl⟩:=h v (by simp);simp only [List.zip_cons_cons,Zev,Zap];exact ⟨by simp [Instr.sameBits],ih λv hv=>h v (by simp [hv])⟩
theorem stays {kk:KK} {x p:AV} {u q:Value} (hb:u6 kk x p=some true) (hx:VR E x u) (hp:VR E p q):q=u/\(Instr.keyThatStays u u).run P w=.ok u w:=by
 cases kk <;> cases x <;> first | (simp [u6] at hb;done) | skip
 all_goals cases p <;> first | (simp [u6] at hb;done) | skip
 rotate_left 3
 .simp only [u6] at hb;obtain ⟨_,xs,e1,s1⟩:=hx.ak;obtain ⟨_,ys,e2,s2⟩:=hp.ak;obtain ⟨he,hall⟩:=zav hb s1 s2;subst e1 e2;obtain rfl:=Array.toList_inj.1 he;refine ⟨rfl,?_⟩;have:=zcv 9998 hall;simp [Instr.keyThatStays,Instr.sameBits,this]
 all_goals simp only [VR] at hx hp
 all_goals subst hx
 all_goals subst hp
 .rename_i k1 m k2 n;simp only [u6] at hb;cases hq:vB k1 k2 with
  | false=>simp [hq] at hb
  | true =>
   obtain rfl:=wL hq;simp [hq] at hb;subst hb;refine ⟨rfl,?_⟩;simp [Instr.keyThatStays,Instr.sameBits]
 .rename_i s s';simp only [u6,Option.some.injEq] at hb;obtain rfl:=xh.1 hb;refine ⟨rfl,?_⟩;have e:((⟨s.toArray⟩:ByteArray)==(⟨s.toArray⟩:ByteArray))=true:=by rw [beq_toListBytes];simp
  simp [Instr.keyThatStays,Instr.sameBits,e]
 .simp [u6] at hb;subst hb;refine ⟨rfl,?_⟩;simp [Instr.keyThatStays,Instr.sameBits]
theorem zjn {l:List (AV×AV)} {es:Array MapEntry} (h1:es.size=l.length) (h:∀ (i:Nat) (a b:AV),l[i]? = some (a,b)->∃ e,es[i]? = some e/\e.born=i/\VR E a e.key/\VR E b e.val) (j:Nat) {v:AV} {x:Value}
  (hv:VR E v x) (f:MapEntry->MapEntry) (hf:∀ e,es[j]? = some e->(f e).born=e.born/\(f e).key=e.key/\(f e).val=x) :
  ∀ (i:Nat) (a b:AV),(l.modify j λe=>(e.1,v))[i]? = some (a,b)->∃ e,(es.modify j f)[i]? = some e/\e.born=i/\VR E a e.key/\VR E b e.val:=by
 intro i a b hi;rw [List.getElem?_modify] at hi;rw [Zhp];by_cases e:j=i
 .subst e;rw [if_pos rfl];cases hl:l[j]? with
  | none=>simp [hl] at hi
  | some p =>
   obtain ⟨p1,p2⟩:=p;simp [hl] at hi;obtain ⟨rfl,rfl⟩:=hi;obtain ⟨e',q1,q2,q3,q4⟩:=h j _ _ hl;obtain ⟨f1,f2,f3⟩:=hf e' q1;exact ⟨f e',by simp [q1],by rw [f1,q2],by rw [f2];exact q3,by rw [f3];exact hv⟩
 .rw [if_neg e];simp only [if_neg e] at hi;obtain ⟨e',q1,q2⟩:=h i a b (by simpa using hi);exact ⟨e',q1,q2⟩
theorem map_push {l:List (AV×AV)} {es:Array MapEntry} {n:Nat} (h0:l.length=n) (h1:es.size=n) (h:∀ (i:Nat) (a b:AV),l[i]? = some (a,b)->∃ e,es[i]? = some e/\e.born=i/\VR E a e.key/\VR E b e.val) {k v:AV} {y x:Value}
  (hk:VR E k y) (hv:VR E v x) :
  ∀ (i:Nat) (a b:AV),(l++[(k,v)])[i]? = some (a,b)->∃ e,(es.push { key:=y,val:=x,born:=n })[i]? = some e/\e.born=i/\VR E a e.key/\VR E b e.val:=by
 intro i a b hi;rw [Zhj] at hi;rw [Zht];by_cases hlt:i<l.length
 .rw [if_pos hlt] at hi;rw [if_neg (by omega)];exact h i a b hi
 .rw [if_neg hlt] at hi;have hi0:i-l.length=0:=by
   have:=(Zgv.1 hi).1;simp at this;omega
  rw [hi0] at hi;simp at hi;obtain ⟨rfl,rfl⟩:=hi;rw [if_pos (by omega)];exact ⟨_,rfl,by show n=i;omega,hk,hv⟩
theorem zaw {b:Nat} {es:Array MapEntry} {n:Nat} (h:w.heap[b]? = some (.map es n)):(getObj b).run P w=.ok (.map es n) w:=by simp [getObj,Sem.run,h]
theorem zax {b:Nat} {es:Array MapEntry} {n:Nat} (h:w.heap[b]? = some (.map es n)) (o:Obj):(setObj b o).run P w=.ok () (w.putObj b o):=by
 simp [setObj,Sem.run,h,World.putObj]
theorem zgx (F:FR E loc st tm a) (H:HR P B E h nx w) {t kt e:TypeId} {kk:KK} {m k x:Operand} {m' k' x':Arg} (hu:P.underlying t=some (.map kt e)) (hkk:wM P kt=some kk)
  (hm:zx loc st m=some m') (hkey:zx loc st k=some k') (hx:zx loc st x=some x') (hk:(WO.zpi kk m' k' x').ev C tm h nx K=.ok r) :
  nX P B E w K r (do Instr.mapUpdate t (a.eval m) (a.eval k) (a.eval x);pure .skip):=by
 have v1:=zP F hm;have v2:=zP F hkey;have v3:=zP F hx;rcases cB hk with ⟨id,hy,hk⟩ | ⟨hy,hk⟩
 .obtain ⟨n,l,hb,hk⟩:=wD hk;rw [hy] at v1;obtain ⟨b,nn,hE,he⟩:=v1.zab;obtain ⟨b',n',es,h1,h2,h3,h4,h5⟩:=H.map hb;obtain ⟨rfl,rfl⟩:b=b'/\nn=n':=by rw [hE] at h1;cases h1;exact ⟨rfl,rfl⟩
  rw [he];cases hf:kQ kk (k'.ev tm) l with
  | none=>simp [hf] at hk
  | some res =>
   have hno:T.get .no id h≠.no:=by rw [hb];intro e;cases e
   rcases fN (P:=P) (w:=w) hkk v2 (es:=es) (by omega) (λj p q hj=>let ⟨e,q1,_,q2,q3⟩:=h5 j p q hj;⟨e,q1,q2,q3⟩) hf with ⟨rfl,r2⟩ | ⟨j,v,w',rfl,r2,r3,r4,p,r5,r6⟩
   .simp only [hf,y4,T.jo] at hk
    have hbr:BR P E nn (.map (n+1) (l++[(k'.ev tm,x'.ev tm)])) (.map (es.push { key:=a.eval k,val:=a.eval x,born:=n }) (n+1)) :=
     ⟨_,rfl,by simp [h3],by simp [h4],map_push h3 h4 h5 v2 v3⟩
    refine ⟨_,undef,_,_,_,_,hk,kB,H.put hno hE hbr,Ex.put hE h2 (o':=.map (es.push { key:=a.eval k,val:=a.eval x,born:=n }) (n+1)) (by intro L hL;cases hL),.inr ⟨?_,rfl⟩⟩;simp [Instr.mapUpdate,run_underlying hu,zaw h2,kT hkk v2 (wP hf) _,r2,zax h2]
   .simp only [hf,T.jo] at hk;obtain ⟨e',q1,q2,q3,q4⟩:=h5 j p v r5;obtain ⟨s1,s2⟩:=stays (P:=P) (w:=w) r6 v2 q3
    have hbr:BR P E nn (.map n (l.modify j λe=>(e.1,x'.ev tm))) (.map (es.modify j λe=>{ e with key:=a.eval k,val:=a.eval x }) n) :=
     ⟨_,rfl,by simp [h3],by simp [h4],zjn (by omega) h5 j v3 _ (by intro e he2;rw [q1] at he2;cases he2;exact ⟨rfl,s1.symm,rfl⟩)⟩
    refine ⟨_,undef,_,_,_,_,hk,kB,H.put hno hE hbr,Ex.put hE h2 (o':=.map (es.modify j λe=>{ e with key:=a.eval k,val:=a.eval x }) n) (by intro L hL;cases hL),.inr ⟨?_,rfl⟩⟩;simp [Instr.mapUpdate,run_underlying hu,zaw h2,kT hkk v2 (wP hf) _,r2,zax h2,q1,s1,s2]
 .cases hk
def PkOk (C:Calls β):Prop:=∀ (L:List Nat) (f:Nat->Out β) (r:β),C.pk L f=.ok r->∀ i∈L,f i=.ok r
theorem zp3 (F:FR E loc st tm a) (H:HR P B E h nx w) {t kt e:TypeId} {x:Operand} {x':Arg} (hu:P.underlying t=some (.map kt e)) (hx:zx loc st x=some x') (hk:(WO.range x').ev C tm h nx K=.ok r) :
  nX P B E w K r (do pure (.value (<- Instr.range t (a.eval x)))):=by
 have v1:=zP F hx;rcases cB hk with ⟨id,hy,hk⟩ | ⟨hy,hk⟩
 case inr=>cases hk
 obtain ⟨n,l,hb,hk⟩:=wD hk;rw [T.jo] at hk;rw [hy] at v1;obtain ⟨b,nn,hE,he⟩:=v1.zab;obtain ⟨b',n',es,h1,h2,h3,h4,h5⟩:=H.map hb;obtain ⟨rfl,rfl⟩:b=b'/\nn=n':=by rw [hE] at h1;cases h1;exact ⟨rfl,rfl⟩
 have hne:id≠nx:=by
  rintro rfl;rw [H.fresh _ (Zaf _)] at hE;cases hE
 have g1:=H.alloc (n:=0) (b:=.iter id n [] n) (o:=.mapIter (some b) n #[] n) ⟨b,nn,(Env.vo _ _ hne).trans hE,rfl,Zaf _⟩;have g2:=Ex.alloc H (.mapIter (some b) n #[] n) 0;refine ⟨_,.pointer (some ⟨w.heap.size,0,none⟩),_,_,_,_,hk,by simp only [VR];exact ⟨_,_,Env.ja _ _ _,rfl⟩,g1,g2,.inl ?_⟩;rw [he];simp [run_range_map w t kt e b es n hu h2]
theorem zug (hp:PkOk C) (F:FR E loc st tm a) (H:HR P B E h nx w) {ty:TypeId} {x:Operand} {x':Arg} (hx:zx loc st x=some x') (hk:(WO.next x').ev C tm h nx K=.ok r) :
  nX P B E w K r (do pure (.value (<- Instr.next (a.eval x) false ty))):=by
 have v1:=zP F hx;rcases qO hk with ⟨id,off,hy,hk⟩ | ⟨_,_,hk⟩
 case inr=>cases hk
 obtain ⟨ho,hk⟩:=jD hk;obtain rfl:=yM ho;obtain ⟨mid,n,seen,c,hb,hk⟩:=zc8 hk;obtain ⟨k,l,hm,hk⟩:=wD hk;obtain ⟨hkn,hk⟩:=jD hk;have hkn:=yM hkn;rw [hy] at v1;obtain ⟨b,m,hE,he⟩:=v1.tX;obtain ⟨b',n',bm,nm,g1,g2,g3,g4⟩:=H.iter hb;obtain ⟨rfl,rfl⟩:b=b'/\m=n':=by rw [hE] at g1;cases g1;exact ⟨rfl,rfl⟩
 obtain ⟨bm',nm',es,h1,h2,h3,h4,h5⟩:=H.map hm;obtain ⟨rfl,rfl⟩:bm=bm'/\nm=nm':=by rw [g2] at h1;cases h1;exact ⟨rfl,rfl⟩
 have hborn:∀ (j:Nat) (hj:j<es.size),es[j].born=j:=by
  intro j hj;have hjl:j<l.length:=by omega
  obtain ⟨e2,q1,q2,_⟩:=h5 j l[j].1 l[j].2 (by rw [Zgu hjl]);rw [Zhd hj] at q1;cases q1;exact q2
 have hold:∀ x∈es.toList,x.born<n:=by
  intro x hx;obtain ⟨j,hj,rfl⟩:=Zeg hx;have hj':j<es.size:=by simpa using hj
  have:=hborn j hj';simp only [Array.getElem_toList,this];omega
 have hleft:∀ j (hj:j<es.size),es[j]∈(leftOf es seen.reverse.toArray).toList↔j∈u5 k seen:=by
  intro j hj;have:=hborn j hj;simp only [leftOf,u5,Array.toList_filter,Zbr,Array.mem_toList_iff,Array.getElem_mem,true_and,Zay,this];constructor
  .intro q;exact ⟨by omega,by simpa using q⟩
  .intro q;simpa using q.2
 rw [he];rcases run_next_at (P:=P) w ty b bm n c seen.reverse.toArray es k g3 h2 hold g4 with ⟨q1,q2⟩ | ⟨e,q1,w1,q2,q3⟩
 .have hnil:u5 k seen=[]:=by
   cases hL:u5 k seen with
   | nil=>rfl
   | cons i is =>
    have hi:i∈u5 k seen:=by rw [hL];simp
    have hik:i<es.size:=by simp only [u5,Zbr,Zay] at hi;omega
    have:=(hleft i hik).2 hi;have hz:(leftOf es seen.reverse.toArray).toList=[]:=by
     apply Zcm;simpa using q1
    rw [hz] at this;cases this
  rw [hnil] at hk;refine ⟨_,.tuple #[.bool false],_,_,_,_,hk,dJ (VRL.cons u4 VRL.nil),H,.refl _ _,.inl ?_⟩;simp [q2]
 .have he1:e∈es.toList:=by
   have:=q1;simp only [leftOf,Array.toList_filter,Zbr] at this;exact this.1
  obtain ⟨j,hj,rfl⟩:=Zeg he1;have hj':j<es.size:=by simpa using hj
  have hje:es.toList[j]=es[j]:=by simp
  rw [hje] at q1 q3;have hjb:=hborn j hj';have hjL:=(hleft j hj').1 q1;have hjl:j<l.length:=by omega
  have hkj:(match l[j]? with
    | some (a,b)=>T.fq (β:=Out β) Blk.no (.iter mid n (j::seen) k) id h λh'=>K (.tup [.bool true,a,b]) h' nx
    | none=>Out.no 56)=Out.ok r:=by
   cases hL:u5 k seen with
   | nil=>rw [hL] at hjL;cases hjL
   | cons i is =>
    rw [hL] at hk hjL;exact hp _ _ _ hk j hjL
  obtain ⟨e2,s1,s2,s3,s4⟩:=h5 j l[j].1 l[j].2 (by rw [Zgu hjl]);rw [Zhd hj'] at s1;cases s1
  rw [Zgu hjl] at hkj;simp only [T.jo] at hkj;have hno:T.get .no id h≠.no:=by rw [hb];intro e;cases e
  have hH:HR P B E h nx w1/\Ex E E w w1/\w1.heap=w.heap:=by
   rcases q2 with rfl | rfl
   .exact ⟨H,.refl _ _,rfl⟩
   .exact ⟨H.of_heap rfl,Ex.drew _ _,rfl⟩
  obtain ⟨H1,X1,hw1⟩:=hH;have hbr:BR P E m (.iter mid n (j::seen) k) (.mapIter (some bm) n ((seen.reverse.toArray).push es[j].born) k):=by
   refine ⟨bm,nm,g2,?_,?_⟩
   .rw [hjb];simp
   .omega
  refine ⟨_,.tuple #[.bool true,es[j].key,es[j].val],_,_,_,_,hkj,dJ (VRL.cons u4 (VRL.cons s3 (VRL.cons s4 VRL.nil))),H1.put hno hE hbr,X1.trans (Ex.put hE (o:=.mapIter (some bm) n seen.reverse.toArray c) (by rw [hw1];exact g3) (by intro L hL;cases hL)),.inl ?_⟩;simp only [Sem.run_bind,q3,Result.andThen_ok,Sem.run_pure]
  rfl
end
end Go.Ev
namespace Go.Ev
open Go
section
variable {β:Type} {P:Program} {E:Env} {loc st:List Nat} {tm:Tm} {a:Act} {B:Nat} {h:T Blk} {nx:Pa} {w:World}
variable {K:Kw β} {r:β} {C:Calls β}
theorem VRL.oneCell {l:List AV} {vs:List Value} (hl:VRL E l vs) (hs:l.all gy=true):∀ v∈vs,v.oneCell'=true:=by
 intro v hv;obtain ⟨j,hj⟩:=Zhk hv;have hjl:j<l.length:=by rw [<- hl.length];exact (Zgv.1 hj).1
 obtain ⟨u,hu,hur⟩:=hl.get (Zgu hjl);rw [hj] at hu;cases hu;refine hur.oneCell ?_;rw [Zaw] at hs;exact hs _ (Zas hjl)
theorem zgy (t:T AV) (off n k:Nat) (h:k<=n):(yR t off n).take k=yR t off k:=by
 apply Zbp;intro i;rw [Zhl];by_cases hi:i<k
 .rw [if_pos hi,yF _ _ _ _ (by omega),yF _ _ _ _ hi]
 .rw [if_neg hi,Zgz (by simp;omega)]
theorem vU {β':Type} (H:HR P B E h nx w) {x:AV} {v:Value} (hx:VR E x v) {m:Nat} {Kf:List AV->Nat->Out β'} {r:β'} (hk:dR x h (.no m) Kf=.ok r) :
  ∃ new n,Kf new n=.ok r/\(∀ w':World,(Builtin.lenOf v).run P w'=.ok n w') /\
   (∀ esz (w':World),(Builtin.firstCells esz 0 v).run P w'=.ok #[] w') /\
   ∀ esz q,new.length=n*esz->q<=n->∃ news:List Value,VRL E (new.take (q*esz)) news/\∀ w':World,w'.heap=w.heap->(Builtin.firstCells esz q v).run P w'=.ok news.toArray w':=by
 rcases kX hk with ⟨id,off,ln,cap,e',rfl,hk⟩ | ⟨rfl,hk⟩ | ⟨rfl,hk⟩ | ⟨s,rfl,hk⟩ | ⟨e',n,l,rfl,hk⟩
 case inr.inr.inr.inr =>
  obtain ⟨hsc,hlen,p,c,rfl,hp⟩:=hx.aP;have h0:∀ esz (w':World),(Builtin.firstCells esz 0 (.slice p n c)).run P w'=.ok #[] w':=λesz w'=>by
   cases p with
   | none=>simp [Builtin.firstCells]
   | some b =>
    have:=run_loadCells_list (P:=P) w' b [] (by simp);simpa [Builtin.firstCells] using this
  refine ⟨_,_,hk,λ_=>rfl,h0,λesz q hl hq => ?_⟩;by_cases hq0:q=0
  .subst hq0;exact ⟨[],by simpa using VRL.nil,λw' _=>h0 esz w'⟩
  .obtain ⟨b,off,rfl,hnc,hf⟩:=hp.resolve_left (by omega);obtain ⟨vs,h1,h2,h3⟩:=H.zjo (hf.take (q*esz));refine ⟨vs,h3,λw' hw => ?_⟩;have hvl:vs.length=q*esz:=by rw [h1,Zaj,hl];exact Zbv (Zbk _ hq)
   exact run_firstCells_some (P:=P) w' esz q ⟨b,off,none⟩ n c vs hvl λj u hj=>by rw [World.cell?_of_block (w:=w) (by rw [hw])];exact h2 j u hj
 .obtain ⟨op,k,t,hb,hk⟩:=uF hk;obtain ⟨hle,hk⟩:=jD hk;have hle:=yG hle;obtain ⟨b,n,c,hE,rfl,hc⟩:=hx.si;refine ⟨_,_,hk,λ_=>rfl,λesz w' => ?_,λesz q hl hq => ?_⟩
  .have:=run_loadCells_list (P:=P) w' ⟨b,off,none⟩ [] (by simp);simpa [Builtin.firstCells] using this
  .rw [gO] at hl;have hqe:q*esz<=ln*e':=by rw [hl];exact Zbk _ hq
   obtain ⟨vs,h2,h3,h4,h5⟩:=H.range hb hE (off:=off) (s:=q*esz) (by omega);refine ⟨vs,by rw [zgy _ _ _ _ hqe];exact h4,λw' hw => ?_⟩;exact run_firstCells_some (P:=P) w' esz q ⟨b,off,none⟩ ln c vs h2 λj u hj=>by rw [World.cell?_of_block (w:=w) (by rw [hw])];exact h3 j u hj
 .have e:v=.slice none 0 0:=by simpa only [VR] using hx
  subst e;refine ⟨_,_,hk,λ_=>rfl,λesz w'=>by simp [Builtin.firstCells],λesz q hl hq=>⟨[],by simpa using VRL.nil,λw' _=>by simp [Builtin.firstCells]⟩⟩
 .obtain ⟨b,c,rfl⟩:∃ a c,v=.slice (some a) 0 c:=by simpa only [VR] using hx
  have h0:∀ esz (w':World),(Builtin.firstCells esz 0 (.slice (some b) 0 c)).run P w'=.ok #[] w':=λesz w'=>by
   have:=run_loadCells_list (P:=P) w' b [] (by simp);simpa [Builtin.firstCells] using this
  refine ⟨_,_,hk,λ_=>rfl,h0,λesz q hl hq => ?_⟩;obtain rfl:q=0:=by omega
  exact ⟨[],by simpa using VRL.nil,λw' _=>h0 esz w'⟩
 .have e:v=.string ⟨s.toArray⟩:=by simpa only [VR] using hx
  subst e;have hsz:(⟨s.toArray⟩:ByteArray).size=s.length:=by simp [ByteArray.size]
  have hf:∀ esz q (w':World),(Builtin.firstCells esz q (.string ⟨s.toArray⟩)).run P w'=.ok ((s.take q).map λb=>Value.int .u8 b.toNat).toArray w':=by
   intro esz q w';simp only [Builtin.firstCells,Sem.run_pure]
   congr 1
   apply Array.ext';simp [ByteArray.data_extract]
  refine ⟨_,_,hk,λw'=>by simp [Builtin.lenOf,hsz],λesz w'=>by simpa using hf esz 0 w',λesz q hl hq=>⟨(s.take q).map λb=>Value.int .u8 b.toNat,?_,λw' _=>hf esz q w'⟩⟩;have hq2:(s.map λb=>AV.int .u8 b.toNat).take (q*esz)=(s.take q).map λb=>AV.int .u8 b.toNat:=by
   by_cases h0:s.length=0
   .have:s=[]:=Zcm h0;subst this;simp
   .have h1:esz=1:=by
     rw [Zae] at hl;exact Nat.eq_of_mul_eq_mul_left (n:=s.length) (by omega) (by rw [Zcn];exact hl.symm)
    subst h1;rw [Zcn,Zfr]
  rw [hq2];refine VRL.sO (by simp) λi a hi => ?_;rw [Zgw] at hi ⊢;cases hs:(s.take q)[i]? with
  | none=>rw [hs] at hi;cases hi
  | some b=>rw [hs] at hi;cases hi;exact ⟨_,rfl,uN⟩
theorem rO {g o:Nat} {ty:TypeId} {fr:Nat×Nat} {cur:Array Value} {vs:List Value} (hg:w.heap[g]? = some (.cells cur ty fr)) (hf:vE fr cur.size) (hl:o+vs.length<=cur.size) (h1:∀ v∈vs,v.oneCell'=true) :
  (storeCells ⟨g,o,none⟩ vs).run P w=.ok () (w.putObj g (.cells (cur.toList.take o++vs++cur.toList.drop (o+vs.length)).toArray ty fr)):=by
 have:=tZ (P:=P) g o ty fr vs 0 cur w hg hf (by omega) h1;simpa using this
theorem qS {ts:Array TypeId} {t u ty e:TypeId} {i:TypeInfo} {d:TypeDesc} (h0t:ts[0]? = some t) (h1t:ts[1]? = some u) (ht:P.underlying t=some (.slice e)) (hu:P.underlying u=some d) (hd:∀ k,d≠.int k) (hi:P.info? e=some i) {x:Value} {n:Nat} {news:List Value}
  (hlen:∀ w':World,(Builtin.lenOf x).run P w'=.ok n w') (hf:∀ w':World,w'.heap=w.heap->(Builtin.firstCells i.size n x).run P w'=.ok news.toArray w')
  {g off sLen sCap:Nat} {cur:Array Value} {te:TypeId} {fr:Nat×Nat} (hg:w.heap[g]? = some (.cells cur te fr)) (hfz:vE fr cur.size) (h1:∀ v∈news,v.oneCell'=true) (hroom:sLen+n<=sCap) (hfit:off+sLen*i.size+news.length<=cur.size) :
  (Builtin.append_ ts ty #[.slice (some ⟨g,off,none⟩) sLen sCap,x]).run P w =
   .ok (.slice (some ⟨g,off,none⟩) (sLen+n) sCap) (w.putObj g (.cells (cur.toList.take (off+sLen*i.size)++news++cur.toList.drop (off+sLen*i.size+news.length)).toArray te fr)):=by
 have hst:=rO (P:=P) (o:=off+sLen*i.size) hg hfz (by omega) h1;have hz:((d matches .int _):Bool)=false:=by cases d <;> first | rfl | exact absurd rfl (hd _)
 simp [Builtin.append_,h0t,h1t,run_underlying ht,run_underlying hu,hz,sizeOf,typeInfo,hi,hlen,hroom,hf w rfl,jU,hst]
theorem m6 {ts:Array TypeId} {t u ty e:TypeId} {i:TypeInfo} {z:Value} {d:TypeDesc} (h0t:ts[0]? = some t) (h1t:ts[1]? = some u) (ht:P.underlying t=some (.slice e)) (hu:P.underlying u=some d) (hd:∀ k,d≠.int k) (hi:P.info? e=some i) (hz:i.zero=some z) {x:Value} {n:Nat} {news:List Value}
  (hlen:∀ w':World,(Builtin.lenOf x).run P w'=.ok n w') (hf:∀ w':World,w'.heap=w.heap->(Builtin.firstCells i.size n x).run P w'=.ok news.toArray w')
  {s:Option Addr} {sLen sCap:Nat} {olds:List Value} (ho:∀ w':World,w'.heap=w.heap->(Builtin.firstCells i.size sLen (.slice s sLen sCap)).run P w'=.ok olds.toArray w')
  (hg:sCap<sLen+n) (h6:sLen+n<=1000000) (hb:i.bytes*1000000<=70368744177664) :
  (Builtin.append_ ts ty #[.slice s sLen sCap,x]).run P w =
   .ok (.slice (some ⟨w.heap.size,0,none⟩) (sLen+n) (grownCap w (sLen+n) sCap e)) (w.drew.alloc (.cells (olds++news++(Builtin.zeroCells z.cells (grownCap w (sLen+n) sCap e-(sLen+n))).toList).toArray e (0,0))):=by
 have hn:¬ (sLen+n<=sCap):=by omega
 have h63':¬ (9223372036854775807<((sLen:Int)+(n:Int))):=by omega
 have hfit:Builtin.nextslicecap (sLen+n) sCap*i.bytes<=281474976710656:=by
  refine growslice_fits hg ?_;have:(sLen+n)*i.bytes<=1000000*i.bytes:=Zbk _ h6;rw [Zdb 1000000] at this;omega
 have h48':¬ (281474976710656<Builtin.nextslicecap (sLen+n) sCap*i.bytes):=by omega
 have hzz:((d matches .int _):Bool)=false:=by cases d <;> first | rfl | exact absurd rfl (hd _)
 simp [Builtin.append_,h0t,h1t,run_underlying ht,run_underlying hu,hzz,sizeOf,typeInfo,zeroValue,hi,hz,hlen,hn,h63',h48',Question.forced,hf w.drew rfl,ho w.drew rfl,gD];refine ⟨rfl,?_⟩
 congr 2
 apply Array.ext';simp [grownCap]
theorem qC (z:Array Value) (n:Nat):(Builtin.zeroCells z n).toList.length=n*z.size:=by simp [Builtin.zeroCells]
theorem HR.swap {id:Pa} {op:Bool} {m:Nat} {t t':T AV} (H:HR P B E (T.set .no (.cells op m t) id h) nx w) (ht:∀ i,i<m->T.get .u (.of i) t'=T.get .u (.of i) t):HR P B E (T.set .no (.cells op m t') id h) nx w:={
 blk j hj:=by
  by_cases e:j=id
  .subst e;obtain ⟨b,n,o,h1,h2,h3⟩:=H.blk j (by rw [T.get_set_same];intro e;cases e);rw [T.get_set_same] at h3 ⊢;obtain ⟨c,ty,fr,rfl,h4,h5,h6,h7,h8⟩:=h3;exact ⟨b,n,_,h1,h2,c,ty,fr,rfl,h4,h5,h6,h7,λi hi=>by rw [ht i hi];exact h8 i hi⟩
  .have:=H.blk j;rw [T.zk _ _ _ _ _ e] at hj ⊢;rw [T.zk _ _ _ _ _ e] at this;exact this hj
 inj i j b n n' h1 h2 h3 h4:=by
  refine H.inj i j b n n' ?_ ?_ h3 h4
  .by_cases e:i=id
   .subst e;rw [T.get_set_same];intro e;cases e
   .rw [T.zk _ _ _ _ _ e] at h1 ⊢;exact h1
  .by_cases e:j=id
   .subst e;rw [T.get_set_same];intro e;cases e
   .rw [T.zk _ _ _ _ _ e] at h2 ⊢;exact h2
 fresh:=H.fresh
 lt:=H.lt
 base:=H.base
 frz b' i v hf:=by
  obtain ⟨h1,h3⟩:=H.frz b' i v hf;refine ⟨h1,λj m hj => ?_⟩;have:=h3 j m hj;by_cases e:j=id
  .subst e;rw [T.get_set_same] at this;cases this
  .rw [T.zk _ _ _ _ _ e] at this ⊢;exact this }
theorem zay (F:FR E loc st tm a) (H:HR P B E h nx w) {ts:Array TypeId} {t u ty e:TypeId} {i:TypeInfo} {d:TypeDesc} {z:AV} {zl:List AV} {s x:Operand} {s' x':Arg} (h0t:ts[0]? = some t) (h1t:ts[1]? = some u) (ht:P.underlying t=some (.slice e)) (hu:P.underlying u=some d) (hd:∀ k,d≠.int k)
  (hi:P.info? e=some i) (hz:gR P e=some z) (hzl:z.cells=some zl) (hzs:zl.length=i.size) (hs:zx loc st s=some s') (hx:zx loc st x=some x') (hk:(WO.app i.size i.bytes s' x').ev C tm h nx K=.ok r) :
  nX P B E w K r (do pure (.value (<- Builtin.append_ ts ty #[a.eval s,a.eval x]))):=by
 have v1:=zP F hs;have v2:=zP F hx;have hk:appA i.size i.bytes (s'.ev tm) (x'.ev tm) h nx K=.ok r:=hk;unfold appA at hk;obtain ⟨new,n,hk,hlen,h0,hf⟩:=vU H v2 hk;obtain ⟨hb,hk⟩:=jD hk;simp only [Zap] at hb;obtain ⟨⟨⟨b1,b2⟩,b3⟩,b4⟩:=hb;have b1:=yG b1;have b2:=yM b2;have b3:=yG b3;obtain ⟨zv,hzr,hzv⟩:=kM (w:=w) (E:=E) hz;obtain ⟨zq,_⟩:=hzv.cells hzl;obtain ⟨iz,hiz,hie⟩:∃ iz,i.zero=some iz/\iz=zv:=by
  cases hq:i.zero with
  | none=>simp [gR,hi,hq] at hz
  | some iz =>
   refine ⟨iz,rfl,?_⟩;simpa [zeroValue,typeInfo,hi,hq] using hzr
 subst hie;have hizs:iz.cells.size=i.size:=by have:=zq.length;simp at this;omega
 obtain ⟨news,q1,q2⟩:=hf i.size n b2 (Zaf _);rw [Zan (by omega)] at q1;have hnl:news.length=n*i.size:=by rw [q1.length,b2]
 have hone:=q1.oneCell b4
 have grow:∀ {sa:Option Addr} {sLen sCap:Nat} {old:List AV} {olds:List Value} {h₁:T Blk} (t':T AV),HR P B E h₁ nx w->(∀ i,i<(old++new).length->T.get .u (.of i) t'=T.get .u (.of i) (jN (old++new) .e 0))->VRL E old olds->old.all gy=true->old.length=sLen*i.size->a.eval s=.slice sa sLen sCap ->
   (∀ w':World,w'.heap=w.heap->(Builtin.firstCells i.size sLen (.slice sa sLen sCap)).run P w'=.ok olds.toArray w')->sCap<sLen+n->sLen+n<=1000000 ->
   K (.sl nx 0 (sLen+n) none i.size) (T.set .no (.cells true (old++new).length t') nx h₁) nx.succ=.ok r ->
   nX P B E w K r (do pure (.value (<- Builtin.append_ ts ty #[a.eval s,a.eval x]))):=by
  intro sa sLen sCap old olds h₁ t' H₁ ht' ho1 ho2 ho3 hes ho4 hg h6 hk;have hr:=m6 (P:=P) (w:=w) (ty:=ty) h0t h1t ht hu hd hi hiz hlen q2 ho4 hg h6 b1;have hge:=grownCap_ge w (sLen+n) sCap e;obtain ⟨g1,g2⟩:=good_row H₁ (ho1.append q1) (by rw [Zez,ho2,b4];rfl) e true (Builtin.zeroCells iz.cells (grownCap w (sLen+n) sCap e-(sLen+n))).toList (by intro q;cases q) (Ex.drew E w) rfl;refine ⟨_,_,_,_,_,_,hk,kZ (Env.ja _ _ _) (c:=grownCap w (sLen+n) sCap e) ⟨hge,?_⟩,g1.swap ht',g2,.inl ?_⟩
  .rw [qC,hizs,Zag,ho3,b2,Zbd,<- Zbu,<- Zbu]
   congr 1;omega
  .rw [hes];simp [hr]
 rcases kX hk with ⟨id,off,ln,cap,e',hy,hk⟩ | ⟨hy,hk⟩ | ⟨_,hk⟩ | ⟨_,_,hk⟩ | ⟨_,_,_,_,hk⟩
 case inr.inr.inr.inr=>cases hk
 .rw [hy] at v1;obtain ⟨hb5,hk5⟩:=jD hk
  clear hk
  simp only [Zap] at hb5;obtain ⟨b5,b6⟩:=hb5;have b5:=yM b5;subst b5;have b6:=yG b6;obtain ⟨op,m,tt,hbl,hk6⟩:=uF hk5
  clear hk5
  obtain ⟨b7,hk⟩:=jD hk6
  clear hk6
  have b7:=yG b7;obtain ⟨b,nn,c,hE,he,hcap⟩:=v1.si;obtain ⟨b',n',cc,tc,fr,h1,h2,h3,h4,h5,h6,h7⟩:=H.cells hbl;obtain ⟨rfl,rfl⟩:b=b'/\nn=n':=by rw [hE] at h1;cases h1;exact ⟨rfl,rfl⟩
  have hno:T.get .no id h≠.no:=by rw [hbl];intro e;cases e
  obtain ⟨olds,o2,o3,o4,o5⟩:=H.range hbl hE (off:=off) (s:=ln*i.size) b7;have ho:∀ w':World,w'.heap=w.heap->(Builtin.firstCells i.size ln (.slice (some ⟨b,off,none⟩) ln c)).run P w'=.ok olds.toArray w':=λw' hw =>
   run_firstCells_some (P:=P) w' i.size ln ⟨b,off,none⟩ ln c olds o2 λj u hj=>by rw [World.cell?_of_block (w:=w) (by rw [hw])];exact o3 j u hj
  have hins:∀ {cp:Option Nat},zgz nn off (ln+n) i.size c cp->ln+n<=c->off+(ln+n)*i.size<=m->vN id off ln cp i.size op m tt new n h nx K=.ok r ->
    nX P B E w K r (do pure (.value (<- Builtin.append_ ts ty #[a.eval s,a.eval x]))):=by
   intro cp hcp hroom hfit hk;unfold vN at hk;rw [jQ,T.jo,y4] at hk;have zaz:off+ln*i.size+news.length<=cc.size:=by rw [hnl,Zcu,<- Zbu];omega
   have hr:=qS (P:=P) (ty:=ty) h0t h1t ht hu hd hi hlen q2 h2 h3 hone hroom zaz;have hbr:=BR.write (P:=P) h3 h4 h5 (λho=>h6 ho) h7 q1 b4 (off:=off+ln*i.size) (by rw [b2,Zcu,<- Zbu];omega) h5 (.inl (Zaf _)) (ty:=tc);have g2:Ex E E w _:=Ex.put hE h2 (o':=.cells (cc.toList.take (off+ln*i.size)++news++cc.toList.drop (off+ln*i.size+news.length)).toArray tc fr) (by intro L hL;cases hL);refine ⟨_,_,_,_,_,_,hk,kZ hE hcp,H.put hno hE hbr,g2,.inl ?_⟩;rw [he];simp [hr]
  have hnew:∀ {c0:Nat},c0=c->c<ln+n->xQ off ln i.size tt new n h nx K=.ok r->nX P B E w K r (do pure (.value (<- Builtin.append_ ts ty #[a.eval s,a.eval x]))):=by
   intro c0 _ hlt hk;unfold xQ at hk;rw [yW,y4] at hk;exact grow _ H (λ_ _=>rfl) o4 o5 (by simp) he ho hlt b6 hk
  cases cap with
  | some c0 =>
   have hc0:c=c0:=hcap;subst hc0;cases au:Nat.ble (ln+n) c with
   | true =>
    simp only [au,cond_true] at hk;obtain ⟨b8,hk⟩:=jD hk;exact hins (cp:=some c) rfl (yG au) (yG b8) hk
   | false =>
    simp only [au,cond_false] at hk;exact hnew rfl (Nat.lt_of_not_le λq=>by have q:=Zak q;rw [q] at au;cases au) hk
  | none =>
   obtain ⟨c1,c2⟩:ln<=c/\off+c*i.size=nn:=hcap;cases au:Nat.ble (off+(ln+n)*i.size) m with
   | true =>
    simp only [au,cond_true] at hk;have hfit:=yG au;have hroom:ln+n<=c:=by
     have:(ln+n)*i.size<=c*i.size:=by omega
     exact Nat.le_of_mul_le_mul_right this b3
    exact hins (cp:=none) ⟨hroom,c2⟩ hroom hfit hk
   | false =>
    simp only [au,cond_false] at hk;obtain ⟨b8,hk9⟩:=jD hk
    clear hk
    simp only [Zap] at b8;obtain ⟨⟨b8,b9⟩,b10⟩:=b8;subst b8;have b9:=yM b9;have b10:=yM b10;subst b10;have hk:=hk9
    clear hk9
    unfold nE at hk;rw [jQ,y4,T.jo,T.jo,y4] at hk;by_cases hroom:ln+n<=c
    .have zaz:0+ln*i.size+news.length<=cc.size:=by
      have:(ln+n)*i.size<=c*i.size:=Zbk _ hroom;rw [hnl,Zbd,<- Zbu];omega
     have hr:=qS (P:=P) (ty:=ty) h0t h1t ht hu hd hi hlen q2 h2 h3 hone hroom zaz;have hle:E.le (E.put nx (b,nn)):=Env.tY _ (H.fresh _ (Zaf _));have qcp:∀ i,i<m->gy (T.get .u (.of i) tt)=true/\∃ v,cc[i]? = some v/\VR (E.put nx (b,nn)) (T.get .u (.of i) tt) v:=λi hi=>let ⟨p,v,q,s⟩:=h7 i hi;⟨p,v,q,VR.mono hle _ s⟩;have hbr:=BR.write (P:=P) (m':=m+n*i.size) (op:=true) h3 h4 h5 (by intro q;cases q) qcp (q1.mono hle) b4 (off:=m) (by omega) (by omega) (.inr ⟨Zaf _,by omega⟩) (ty:=tc);obtain ⟨g1,g2⟩:=H.rename hno hE hbr;have g3:Ex (E.put nx (b,nn)) (E.put nx (b,nn)) w _:=Ex.put (Env.ja _ _ _) h2 (o':=.cells (cc.toList.take m++news++cc.toList.drop (m+news.length)).toArray tc fr) (by intro L hL;cases hL);refine ⟨_,_,_,_,_,_,hk,kZ (Env.ja _ _ _) (c:=c) (cap:=none) ⟨hroom,c2⟩,g1,g2.trans g3,.inl ?_⟩;rw [he,<- b9];simp [hr]
    .have hlm:m=ln*i.size:=by omega
     have hlen':(yR tt 0 (ln*i.size)++new).length=m+n*i.size:=by rw [Zag,gO,b2,hlm]
     refine grow (jN new tt m) (H.drop id) (λj hj => ?_) o4 o5 (by simp) he ho (by omega) b6 (by rw [hlen'];exact hk);rw [uB,uB,if_pos (show 0<=j/\j<0+(yR tt 0 (ln*i.size)++new).length by omega)];rw [hlen'] at hj;rw [Zaa,Zaa,Nat.sub_zero,Zhj,gO];by_cases hjm:j<m
     .rw [if_neg (by omega),if_pos (by omega),yF _ _ _ _ (by omega),Zbd];rfl
     .rw [if_pos (by omega),if_neg (by omega),hlm]
 .rw [hy] at v1;have he:a.eval s=.slice none 0 0:=by simpa only [VR] using v1
  cases hn:Nat.beq n 0 with
  | true =>
   simp only [hn,cond_true] at hk;have hn:=yM hn;subst hn;refine ⟨_,_,_,_,_,_,(by assumption),(show VR E .zb (.slice none 0 0) by simp only [VR]),H,.refl _ _,.inl ?_⟩;have hzz:((d matches .int _):Bool)=false:=by cases d <;> first | rfl | exact absurd rfl (hd _)
   rw [he];simp [Builtin.append_,h0t,h1t,run_underlying ht,run_underlying hu,hzz,sizeOf,typeInfo,hi,hlen,h0]
  | false =>
   simp only [hn,cond_false] at hk;obtain ⟨b8,hk⟩:=jD hk;have b8:=yG b8;rw [yW] at hk;have hn0:n≠0:=by rintro rfl;cases hn
   refine grow (old:=[]) (olds:=[]) (sLen:=0) (sCap:=0) (jN new .e 0) H (λ_ _=>rfl) VRL.nil rfl (by simp) he (λw' _=>by simp [Builtin.firstCells]) (by omega) (by omega) ?_;simpa using hk
 .cases hk
 .cases hk
theorem ze7 {ts:Array TypeId} {t u ty e:TypeId} {i:TypeInfo} {z:Value} {kk k0:IntKind} (h0t:ts[0]? = some t) (h1t:ts[1]? = some u) (ht:P.underlying t=some (.slice e)) (hu:P.underlying u=some (.int kk)) (hi:P.info? e=some i) (hz:i.zero=some z)
  {n:Nat} (hs1:1<=i.size) (hn0:n≠0) (h6:n<=1000000) (hb:i.bytes*1000000<=70368744177664) :
  (Builtin.append_ ts ty #[.slice none 0 0,.int k0 (n:Int)]).run P w =
   .ok (.slice (some ⟨w.heap.size,0,none⟩) n (grownCap w n 0 e)) (w.drew.alloc (.cells ((Builtin.zeroCells z.cells n).toList++(Builtin.zeroCells z.cells (grownCap w n 0 e-n)).toList).toArray e (0,0))):=by
 have hn:¬ (n<=0):=by omega
 have h63':¬ (9223372036854775807<(n:Int)):=by omega
 have hfit:Builtin.nextslicecap n 0*i.bytes<=281474976710656:=by
  refine growslice_fits (by omega) ?_;have:n*i.bytes<=1000000*i.bytes:=Zbk _ h6;rw [Zdb 1000000] at this;omega
 have h48':¬ (281474976710656<Builtin.nextslicecap n 0*i.bytes):=by omega
 have w1:IntKind.i64.wrap (n:Int)=n:=IntWalk.i64_in _ (by omega);have hnb:¬ ((n:Int)*(i.bytes:Int)>281474976710656):=by
  have h3:n*i.bytes<=1000000*i.bytes:=Zbk _ h6;rw [Zdb 1000000] at h3;have h4:((n*i.bytes:Nat):Int)<=281474976710656:=by omega
  rw [Int.natCast_mul] at h4;omega
 have hns:¬ (n*i.size=0):=by
  have:=Nat.mul_pos (Zfd hn0) hs1;omega
 simp [Builtin.append_,h0t,h1t,run_underlying ht,run_underlying hu,sizeOf,typeInfo,zeroValue,hi,hz,hn,hn0,h63',h48',Question.forced,gD,w1,hnb,hns,Go.asInt,asIntOf,Builtin.firstCells];rw [if_neg (by omega)]
 congr 2
 congr 1
 apply Array.ext';simp [grownCap]
theorem zuh (F:FR E loc st tm a) (H:HR P B E h nx w) {ts:Array TypeId} {t u ty e:TypeId} {i:TypeInfo} {kk:IntKind} {z:AV} {zl:List AV} {s x:Operand} {s' x':Arg} (h0t:ts[0]? = some t) (h1t:ts[1]? = some u) (ht:P.underlying t=some (.slice e)) (hu:P.underlying u=some (.int kk))
  (hi:P.info? e=some i) (hz:gR P e=some z) (hzl:z.cells=some zl) (hzs:zl.length=i.size) (hs:zx loc st s=some s') (hx:zx loc st x=some x') (hk:(WO.appm i.size i.bytes zl s' x').ev C tm h nx K=.ok r) :
  nX P B E w K r (do pure (.value (<- Builtin.append_ ts ty #[a.eval s,a.eval x]))):=by
 have v1:=zP F hs;have v2:=zP F hx;have hk:zpv i.size i.bytes zl (s'.ev tm) (x'.ev tm) h nx K=.ok r:=hk;unfold zpv at hk;rcases kX hk with ⟨_,_,_,_,_,_,hk⟩ | ⟨hy,hk⟩ | ⟨_,hk⟩ | ⟨_,_,hk⟩ | ⟨_,_,_,_,hk⟩
 .cases hk
 .rw [hy] at v1;have he:a.eval s=.slice none 0 0:=by simpa only [VR] using v1
  obtain ⟨k1,n1,e1,hk⟩:=uI hk;rw [e1] at v2;cases n1 with
  | negSucc n1=>cases hk
  | ofNat n =>
   cases hn:Nat.beq n 0 with
   | true=>simp only [hn,cond_true] at hk;cases hk
   | false =>
    simp only [hn,cond_false] at hk;obtain ⟨hb,hk⟩:=jD hk;simp only [Zap] at hb;obtain ⟨⟨b1,b2⟩,b3⟩:=hb;have b1:=yG b1;have b2:=yG b2;have b3:=yG b3;have hn0:n≠0:=by rintro rfl;cases hn
    rw [yW] at hk;obtain ⟨zv,hzr,hzv⟩:=kM (w:=w) (E:=E) hz;obtain ⟨q1,q2⟩:=hzv.cells hzl;obtain ⟨iz,hiz,hie⟩:∃ iz,i.zero=some iz/\iz=zv:=by
     cases hq:i.zero with
     | none=>simp [gR,hi,hq] at hz
     | some iz =>
      refine ⟨iz,rfl,?_⟩;simpa [zeroValue,typeInfo,hi,hq] using hzr
    subst hie;have hizs:iz.cells.size=i.size:=by have:=q1.length;simp at this;omega
    have hr:=ze7 (P:=P) (w:=w) (ty:=ty) (k0:=k1) h0t h1t ht hu hi hiz b3 hn0 b1 b2;have hrep:VRL E (fe n zl) (Builtin.zeroCells iz.cells n).toList:=pM q1 n (n*iz.cells.size) (by rw [hizs,hzs]);have hge:=grownCap_ge w n 0 e;obtain ⟨g1,g2⟩:=good_row H hrep (xV _ _ q2) e true (Builtin.zeroCells iz.cells (grownCap w n 0 e-n)).toList (by intro q;cases q) (Ex.drew E w) rfl;refine ⟨_,_,_,_,_,_,hk,kZ (Env.ja _ _ _) (c:=grownCap w n 0 e) ⟨hge,?_⟩,g1,g2,.inl ?_⟩
    .rw [qC,hizs,qH,hzs,Zbd,<- Zbu]
     congr 1;omega
    .rw [he,v2.xw];have hr':=hr;simp at hr' ⊢;simp [hr']
 .cases hk
 .cases hk
 .cases hk
theorem zlg (hpk:PkOk C) (F:FR E loc st tm a) (H:HR P B E h nx w) {ts:Array TypeId} {t u ty e:TypeId} {i:TypeInfo} {d:TypeDesc} {z:AV} {zl:List AV} {s x:Operand} {s' x':Arg} (h0t:ts[0]? = some t) (h1t:ts[1]? = some u) (ht:P.underlying t=some (.slice e)) (hu:P.underlying u=some d) (hd:∀ k,d≠.int k)
  (hi:P.info? e=some i) (hz:gR P e=some z) (hzl:z.cells=some zl) (hzs:zl.length=i.size) (hs:zx loc st s=some s') (hx:zx loc st x=some x') (hk:(WO.appq i.size i.bytes s' x').ev C tm h nx K=.ok r) :
  nX P B E w K r (do pure (.value (<- Builtin.append_ ts ty #[a.eval s,a.eval x]))):=by
 have hk:zc4 C i.size i.bytes (s'.ev tm) (x'.ev tm) h nx K=.ok r:=hk;unfold zc4 at hk;rcases kX hk with ⟨id,off,ln,cap,e',hy,hk⟩ | ⟨hy,hk⟩ | ⟨_,hk⟩ | ⟨_,_,hk⟩ | ⟨_,_,_,_,hk⟩
 case inr.inr.inr.inr=>cases hk
 case inr.inl=>exact zay (C:=C) F H h0t h1t ht hu hd hi hz hzl hzs hs hx hk
 case inr.inr.inl=>cases hk
 case inr.inr.inr.inl=>cases hk
 cases cap with
 | some c0=>exact zay (C:=C) F H h0t h1t ht hu hd hi hz hzl hzs hs hx hk
 | none =>
 cases hoff:Nat.beq off 0 with
 | true =>
  simp only [hoff,cond_true] at hk;exact zay (C:=C) F H h0t h1t ht hu hd hi hz hzl hzs hs hx hk
 | false =>
 simp only [hoff,cond_false] at hk;have v1:=zP F hs;have v2:=zP F hx;unfold zlc at hk;obtain ⟨new,n,hk,hlen,h0,hf⟩:=vU H v2 hk;obtain ⟨hb,hk⟩:=jD hk;simp only [Zap] at hb;obtain ⟨⟨⟨b1,b2⟩,b3⟩,b4⟩:=hb;have b1:=yG b1;have b2:=yM b2;have b3:=yG b3;obtain ⟨zv,hzr,hzv⟩:=kM (w:=w) (E:=E) hz;obtain ⟨zq,_⟩:=hzv.cells hzl;obtain ⟨iz,hiz,hie⟩:∃ iz,i.zero=some iz/\iz=zv:=by
  cases hq:i.zero with
  | none=>simp [gR,hi,hq] at hz
  | some iz =>
   refine ⟨iz,rfl,?_⟩;simpa [zeroValue,typeInfo,hi,hq] using hzr
 subst hie;have hizs:iz.cells.size=i.size:=by have:=zq.length;simp at this;omega
 obtain ⟨news,q1,q2⟩:=hf i.size n b2 (Zaf _);rw [Zan (by omega)] at q1;have hnl:news.length=n*i.size:=by rw [q1.length,b2]
 have hone:=q1.oneCell b4
 have grow:∀ {sa:Option Addr} {sLen sCap:Nat} {old:List AV} {olds:List Value} {h₁:T Blk} (t':T AV),HR P B E h₁ nx w->(∀ i,i<(old++new).length->T.get .u (.of i) t'=T.get .u (.of i) (jN (old++new) .e 0))->VRL E old olds->old.all gy=true->old.length=sLen*i.size->a.eval s=.slice sa sLen sCap ->
   (∀ w':World,w'.heap=w.heap->(Builtin.firstCells i.size sLen (.slice sa sLen sCap)).run P w'=.ok olds.toArray w')->sCap<sLen+n->sLen+n<=1000000 ->
   K (.sl nx 0 (sLen+n) none i.size) (T.set .no (.cells true (old++new).length t') nx h₁) nx.succ=.ok r ->
   nX P B E w K r (do pure (.value (<- Builtin.append_ ts ty #[a.eval s,a.eval x]))):=by
  intro sa sLen sCap old olds h₁ t' H₁ ht' ho1 ho2 ho3 hes ho4 hg h6 hk;have hr:=m6 (P:=P) (w:=w) (ty:=ty) h0t h1t ht hu hd hi hiz hlen q2 ho4 hg h6 b1;have hge:=grownCap_ge w (sLen+n) sCap e;obtain ⟨g1,g2⟩:=good_row H₁ (ho1.append q1) (by rw [Zez,ho2,b4];rfl) e true (Builtin.zeroCells iz.cells (grownCap w (sLen+n) sCap e-(sLen+n))).toList (by intro q;cases q) (Ex.drew E w) rfl;refine ⟨_,_,_,_,_,_,hk,kZ (Env.ja _ _ _) (c:=grownCap w (sLen+n) sCap e) ⟨hge,?_⟩,g1.swap ht',g2,.inl ?_⟩
  .rw [qC,hizs,Zag,ho3,b2,Zbd,<- Zbu,<- Zbu]
   congr 1;omega
  .rw [hes];simp [hr]
 rw [hy] at v1;obtain ⟨hb5,hk5⟩:=jD hk
 clear hk
 simp only [Zap] at hb5;obtain ⟨b5,b6⟩:=hb5;have b5:=yM b5;subst b5;have b6:=yG b6;obtain ⟨op,m,tt,hbl,hk6⟩:=uF hk5
 clear hk5
 obtain ⟨b7,hk⟩:=jD hk6
 clear hk6
 have b7:=yG b7;obtain ⟨b,nn,c,hE,he,hcap⟩:=v1.si;obtain ⟨b',n',cc,tc,fr,h1,h2,h3,h4,h5,h6,h7⟩:=H.cells hbl;obtain ⟨rfl,rfl⟩:b=b'/\nn=n':=by rw [hE] at h1;cases h1;exact ⟨rfl,rfl⟩
 have hno:T.get .no id h≠.no:=by rw [hbl];intro e;cases e
 obtain ⟨olds,o2,o3,o4,o5⟩:=H.range hbl hE (off:=off) (s:=ln*i.size) b7;have ho:∀ w':World,w'.heap=w.heap->(Builtin.firstCells i.size ln (.slice (some ⟨b,off,none⟩) ln c)).run P w'=.ok olds.toArray w':=λw' hw =>
  run_firstCells_some (P:=P) w' i.size ln ⟨b,off,none⟩ ln c olds o2 λj u hj=>by rw [World.cell?_of_block (w:=w) (by rw [hw])];exact o3 j u hj
 have hins:∀ {cp:Option Nat},zgz nn off (ln+n) i.size c cp->ln+n<=c->off+(ln+n)*i.size<=m->vN id off ln cp i.size op m tt new n h nx K=.ok r ->
   nX P B E w K r (do pure (.value (<- Builtin.append_ ts ty #[a.eval s,a.eval x]))):=by
  intro cp hcp hroom hfit hk;unfold vN at hk;rw [jQ,T.jo,y4] at hk;have zaz:off+ln*i.size+news.length<=cc.size:=by rw [hnl,Zcu,<- Zbu];omega
  have hr:=qS (P:=P) (ty:=ty) h0t h1t ht hu hd hi hlen q2 h2 h3 hone hroom zaz;have hbr:=BR.write (P:=P) h3 h4 h5 (λho=>h6 ho) h7 q1 b4 (off:=off+ln*i.size) (by rw [b2,Zcu,<- Zbu];omega) h5 (.inl (Zaf _)) (ty:=tc);have g2:Ex E E w _:=Ex.put hE h2 (o':=.cells (cc.toList.take (off+ln*i.size)++news++cc.toList.drop (off+ln*i.size+news.length)).toArray tc fr) (by intro L hL;cases hL);refine ⟨_,_,_,_,_,_,hk,kZ hE hcp,H.put hno hE hbr,g2,.inl ?_⟩;rw [he];simp [hr]
 have hnew:∀ {c0:Nat},c0=c->c<ln+n->xQ off ln i.size tt new n h nx K=.ok r->nX P B E w K r (do pure (.value (<- Builtin.append_ ts ty #[a.eval s,a.eval x]))):=by
  intro c0 _ hlt hk;unfold xQ at hk;rw [yW,y4] at hk;exact grow _ H (λ_ _=>rfl) o4 o5 (by simp) he ho hlt b6 hk
 obtain ⟨c1,c2⟩:ln<=c/\off+c*i.size=nn:=hcap;cases au:Nat.ble (off+(ln+n)*i.size) m with
 | true =>
  simp only [au,cond_true] at hk;have hfit:=yG au;have hroom:ln+n<=c:=by
   have:(ln+n)*i.size<=c*i.size:=by omega
   exact Nat.le_of_mul_le_mul_right this b3
  exact hins (cp:=none) ⟨hroom,c2⟩ hroom hfit hk
 | false =>
  simp only [au,cond_false] at hk;obtain ⟨b8,hk9⟩:=jD hk
  clear hk
  simp only [Zap] at b8;obtain ⟨b8,b9⟩:=b8;subst b8;have b9:=yM b9;by_cases hroom:ln+n<=c
  .have hk:zji id off ln i.size m tt new n h nx K=.ok r:=hpk _ _ _ hk9 0 (by simp);unfold zji at hk;rw [jQ,y4,T.jo,y4] at hk;have zaz:off+ln*i.size+news.length<=cc.size:=by
    have:(ln+n)*i.size<=c*i.size:=Zbk _ hroom;rw [hnl,Zcu,<- Zbu];omega
   have hr:=qS (P:=P) (ty:=ty) h0t h1t ht hu hd hi hlen q2 h2 h3 hone hroom zaz;have hbr:=BR.write (P:=P) (m':=m+n*i.size) (op:=true) h3 h4 h5 (by intro q;cases q) h7 q1 b4 (off:=m) (by omega) (by omega) (.inr ⟨Zaf _,by omega⟩) (ty:=tc);have g2:Ex E E w _:=Ex.put hE h2 (o':=.cells (cc.toList.take m++news++cc.toList.drop (m+news.length)).toArray tc fr) (by intro L hL;cases hL);refine ⟨_,_,_,_,_,_,hk,kZ hE (c:=c) (cap:=none) ⟨hroom,c2⟩,H.put hno hE hbr,g2,.inl ?_⟩;rw [he,<- b9];simp [hr]
  .have hk:xQ off ln i.size tt new n h nx K=.ok r:=hpk _ _ _ hk9 1 (by simp);exact hnew rfl (by omega) hk
theorem zui (F:FR E loc st tm a) (H:HR P B E h nx w) {ts:Array TypeId} {t ty e:TypeId} {s:Nat} {d x:Operand} {d' x':Arg} (h0t:ts[0]? = some t) (ht:P.underlying t=some (.slice e))
  (hs:rA P e=some s) (hd:zx loc st d=some d') (hx:zx loc st x=some x') (hk:(WO.copy s d' x').ev C tm h nx K=.ok r) :
  nX P B E w K r (do pure (.value (<- Builtin.copy_ ts ty #[a.eval d,a.eval x]))):=by
 have v1:=zP F hd;have v2:=zP F hx;have hk1:zjj s d' x' C tm h nx K=.ok r:=hk
 clear hk
 unfold zjj at hk1;obtain ⟨new,n,hk2,hlen,h0,hf⟩:=vU H v2 hk1
 clear hk1
 rcases kX hk2 with ⟨id,off,ln,cap,e',hy,hk⟩ | ⟨hy,hk⟩ | ⟨_,hk⟩ | ⟨_,_,hk⟩ | ⟨_,_,_,_,hk⟩
 case inr.inr.inr.inr=>cases hk
 .rw [hy] at v1;rw [y4] at hk;obtain ⟨op,m,tt,hbl,hk5⟩:=uF hk;obtain ⟨b8,hk⟩:=jD hk5;simp only [Zap] at b8;obtain ⟨⟨b8,b9⟩,b10⟩:=b8;have b8:=yG b8;have b9:=yM b9;rw [jQ,T.jo] at hk;obtain ⟨b,nn,c,hE,he,hcap⟩:=v1.si;obtain ⟨b',n',cc,tc,fr,h1,h2,h3,h4,h5,h6,h7⟩:=H.cells hbl;obtain ⟨rfl,rfl⟩:b=b'/\nn=n':=by rw [hE] at h1;cases h1;exact ⟨rfl,rfl⟩
  have hno:T.get .no id h≠.no:=by rw [hbl];intro e;cases e
  obtain ⟨news,q1,q2⟩:=hf s (Nat.min n ln) b9 (Nat.min_le_left _ _);have htl:(new.take (Nat.min n ln*s)).length=Nat.min n ln*s:=by
   have:Nat.min n ln*s<=n*s:=Zbk _ (Nat.min_le_left _ _);rw [Zaj];omega
  have b11:(new.take (Nat.min n ln*s)).all gy=true:=by
   rw [Zaw] at b10 ⊢;exact λx hx=>b10 x (Zbn hx)
  have hone:=q1.oneCell b11;have hnl:news.length=Nat.min n ln*s:=by rw [q1.length,htl]
  have hst:=rO (P:=P) (o:=off) h2 h3 (by omega) hone;have hbr:=BR.write (P:=P) h3 h4 h5 (λho=>h6 ho) h7 q1 b11 (off:=off) (by omega) h5 (.inl (Zaf _)) (ty:=tc);have g2:Ex E E w _:=Ex.put hE h2 (o':=.cells (cc.toList.take off++news++cc.toList.drop (off+news.length)).toArray tc fr) (by intro L hL;cases hL);refine ⟨_,_,_,_,_,_,hk,uN,H.put hno hE hbr,g2,.inl ?_⟩;rw [he];have hq3:=q2 w rfl;simp only [Builtin.copy_,h0t,Zho,List.getElem?_cons_zero,Zhg,Sem.run_bind,Sem.run_pure,run_underlying ht,Result.andThen_ok,hlen,jX hs,hq3,hst,goInt]
  rfl
 .rw [hy] at v1;have he:a.eval d=.slice none 0 0:=by simpa only [VR] using v1
  refine ⟨_,_,_,_,_,_,hk,uN,H,.refl _ _,.inl ?_⟩;rw [he];have hm:Nat.min n 0=0:=Nat.min_zero n;simp only [Builtin.copy_,h0t,Zho,List.getElem?_cons_zero,Zhg,Sem.run_bind,Sem.run_pure,run_underlying ht,Result.andThen_ok,hlen,jX hs,hm,h0,goInt]
  rfl
 .cases hk
 .cases hk
theorem zy4 (F:FR E loc st tm a) (H:HR P B E h nx w) {ts:Array TypeId} {t ty e:TypeId} {s:Nat} {z:AV} {zl:List AV} {x:Operand} {x':Arg} (h0t:ts[0]? = some t) (ht:P.underlying t=some (.slice e))
  (hs:rA P e=some s) (hz:gR P e=some z) (hzl:z.cells=some zl) (hx:zx loc st x=some x') (hk:(WO.clr s zl x').ev C tm h nx K=.ok r) :
  nX P B E w K r (do pure (.value (<- Builtin.clear_ ts ty #[a.eval x]))):=by
 have v1:=zP F hx;have hk1:sClr s zl (x'.ev tm) h nx K=.ok r:=hk
 clear hk
 unfold sClr at hk1;rcases kX hk1 with ⟨id,off,ln,cap,e',hy,hk⟩ | ⟨hy,hk⟩ | ⟨_,hk⟩ | ⟨_,_,hk⟩ | ⟨_,_,_,_,hk⟩
 case inr.inr.inr.inr=>cases hk
 .rw [hy] at v1;obtain ⟨b,nn,c,hE,he,hcap⟩:=v1.si;cases hq:(Nat.beq e' s&&Nat.ble 1 ln) with
  | false =>
   rw [hq,cond_false] at hk;obtain ⟨b1,hk⟩:=jD hk;obtain rfl:=yM b1;refine ⟨_,undef,_,_,_,_,hk,kB,H,.refl _ _,.inl ?_⟩;rw [he];simp [Builtin.clear_,h0t,run_underlying ht,undef]
  | true =>
   rw [hq,cond_true] at hk;simp only [Zap] at hq;obtain rfl:=yM hq.1;have hln:=yG hq.2;obtain ⟨op,m,tt,hbl,hk5⟩:=uF hk;obtain ⟨b8,hk⟩:=jD hk5;simp only [Zap] at b8;obtain ⟨⟨b8,b9⟩,b10⟩:=b8;have b8:=yG b8;have b9:=yM b9;rw [jQ,T.jo] at hk;obtain ⟨b',n',cc,tc,fr,h1,h2,h3,h4,h5,h6,h7⟩:=H.cells hbl;obtain ⟨rfl,rfl⟩:b=b'/\nn=n':=by rw [hE] at h1;cases h1;exact ⟨rfl,rfl⟩
   have hno:T.get .no id h≠.no:=by rw [hbl];intro e;cases e
   obtain ⟨v,hv,hr⟩:=kM (w:=w) (E:=E) hz;obtain ⟨q1,q2⟩:=hr.cells hzl;have hvs:v.cells.size=e':=by have:=q1.length;simp at this;omega
   have hrep:VRL E (fe ln zl) (Builtin.zeroCells v.cells ln).toList:=by
    have:=pM q1 ln (ln*v.cells.size) (by rw [hvs,b9]);simpa [Builtin.zeroCells] using this
   have hall:=xV ln zl q2;have hlen:(fe ln zl).length=ln*e':=by rw [qH,b9]
   have hzlen:(Builtin.zeroCells v.cells ln).toList.length=ln*e':=by rw [qC,hvs]
   have hone:=hrep.oneCell hall;have hst:=rO (P:=P) (o:=off) h2 h3 (vs:=(Builtin.zeroCells v.cells ln).toList) (by omega) hone;have hbr:=BR.write (P:=P) h3 h4 h5 (λho=>h6 ho) h7 hrep hall (off:=off) (by omega) h5 (.inl (Zaf _)) (ty:=tc);have g2:Ex E E w _:=Ex.put hE h2 (o':=.cells (cc.toList.take off++(Builtin.zeroCells v.cells ln).toList++cc.toList.drop (off+(Builtin.zeroCells v.cells ln).toList.length)).toArray tc fr) (by intro L hL;cases hL);refine ⟨_,undef,_,_,_,_,hk,kB,H.put hno hE hbr,g2,.inl ?_⟩;rw [he];obtain ⟨ln,rfl⟩:∃ k,ln=k+1:=⟨ln-1,by omega⟩;simp [Builtin.clear_,h0t,run_underlying ht,hv,hst,undef]
 .rw [hy] at v1;have he:a.eval x=.slice none 0 0:=by simpa only [VR] using v1
  refine ⟨_,undef,_,_,_,_,hk,kB,H,.refl _ _,.inl ?_⟩;rw [he];simp [Builtin.clear_,h0t,run_underlying ht,undef]
 .cases hk
 .cases hk
end
end Go.Ev
namespace Go.Ev
open Go
section
variable {β:Type} {P:Program} {E:Env} {loc st:List Nat} {tm:Tm} {a:Act} {B:Nat} {h:T Blk} {nx:Pa} {w:World}
variable {K:Kw β} {r:β} {C:Calls β}
theorem zg0 (hp:PkOk C) (F:FR E loc st tm a) (H:HR P B E h nx w) {o:Oper} {op:WO} (hc:woA P loc st o.op=some op) (hne:∀ f args,op≠.call f args) (hk:op.ev C tm h nx K=.ok r):nX P B E w K r (execOp a.eval o):=by
 cases ho:o.op
 case alloc t =>
  rw [ho] at hc;simp only [woA] at hc;split at hc
  .simp only [Zax] at hc;obtain ⟨zl,hzl,rfl⟩:=hc;exact (zpz H (by assumption) hzl hk).of_run (by unfold execOp;rw [ho])
  .cases hc
 case box t x =>
  rw [ho] at hc;simp only [woA,Zax] at hc;obtain ⟨y,hy,rfl⟩:=hc;exact (zy3 F H hy hk).of_run (by unfold execOp;rw [ho])
 case buildSlice t n ps =>
  rw [ho] at hc;simp only [woA] at hc;split at hc
  .split at hc
   .split at hc
    .cases hq:Nat.beq _ _ with
     | true =>
      rw [hq] at hc;cases hc
      exact (zm0 F H (by assumption) (by assumption) (by assumption) (by assumption) (yM hq) (yG (by assumption)) (by assumption) hk).of_run (by unfold execOp;rw [ho])
     | false=>rw [hq] at hc;cases hc
    .cases hc
   .cases hc
  .cases hc
 case store t x y =>
  rw [ho] at hc;simp only [woA] at hc;split at hc
  .cases hc
   exact (zp2 F H (by assumption) (by assumption) (by assumption) hk).of_run (by unfold execOp;rw [ho])
  .cases hc
 case makeMap t x =>
  rw [ho] at hc;cases x with
  | none=>simp only [woA] at hc;cases hc;exact (zp1 H hk).of_run (by unfold execOp;rw [ho];rfl)
  | some x=>simp only [woA] at hc;cases hc
 case makeSlice t l c =>
  rw [ho] at hc;simp only [woA] at hc;split at hc
  .split at hc
   .split at hc
    .cases hq:Nat.beq _ _ with
     | true =>
      rw [hq] at hc;cases hc
      exact (zjm F H (by assumption) (by assumption) (by assumption) (by assumption) (yM hq) (by assumption) (by assumption) hk).of_run (by unfold execOp;rw [ho])
     | false=>rw [hq] at hc;cases hc
    .cases hc
   .cases hc
  .cases hc
 case range t x =>
  rw [ho] at hc;simp only [woA] at hc;split at hc
  .simp only [Zax] at hc;obtain ⟨y,hy,rfl⟩:=hc;exact (zp3 F H (by assumption) hy hk).of_run (by unfold execOp;rw [ho])
  .cases hc
 case next x s =>
  rw [ho] at hc;cases s with
  | true=>cases hc
  | false =>
   simp only [woA,Zax] at hc;obtain ⟨y,hy,rfl⟩:=hc;exact (zug (ty:=o.type) hp F H hy hk).of_run (by unfold execOp;rw [ho])
 case mapUpdate t m k x =>
  rw [ho] at hc;simp only [woA] at hc;split at hc
  .split at hc
   .split at hc
    .cases hc
     exact (zgx F H (by assumption) (by assumption) (by assumption) (by assumption) (by assumption) hk).of_run (by unfold execOp;rw [ho])
    .cases hc
   .cases hc
  .cases hc
 case insert t m k x =>
  rw [ho] at hc;simp only [woA] at hc;split at hc
  .split at hc
   .split at hc
    .cases hc
     exact (zgx F H (by assumption) (by assumption) (by assumption) (by assumption) (by assumption) hk).of_run (by unfold execOp;rw [ho])
    .cases hc
   .cases hc
  .cases hc
 case call c =>
  rw [ho] at hc;obtain ⟨callee,args,ts⟩:=c;cases callee <;> simp only [woA] at hc <;> first | (cases hc;done) | skip
  .rename_i f;split at hc
   .cases hc;exact absurd rfl (hne _ _)
   .cases hc
  .rename_i b;have hex:=bO (ρ:=a.eval) ho;have hb:∀ {i:Nat} {d},(ts[i]?).bind P.underlying=some d->∃ t,ts[i]? = some t/\P.underlying t=some d:=λ{i d} hq=>by
    cases ht:ts[i]? with
    | none=>simp [ht] at hq
    | some t=>exact ⟨t,rfl,by simpa [ht] using hq⟩
   split at hc
   .rename_i s x hargs;obtain rfl:=gQ hargs;split at hc
    .rename_i h1 h2 h3 h4;obtain ⟨t,q1,q2⟩:=hb h3;obtain ⟨u,q3,q4⟩:=hb h4;split at hc
     .rename_i h5 h6;simp only [Zeh] at h6;obtain ⟨z,hz,hzl⟩:=h6;cases hq:Nat.beq _ _ with
      | true =>
       rw [hq] at hc;cases hc
       revert hk
       cases Nat.beq _ 32 with
       | true=>exact λhk=>(zlg hp (ty:=o.type) F H q1 q3 q2 q4 (by intro k e;cases e) h5 hz hzl (yM hq) h1 h2 hk).of_run (by rw [hex];simp [builtin])
       | false=>exact λhk=>(zay (ty:=o.type) F H q1 q3 q2 q4 (by intro k e;cases e) h5 hz hzl (yM hq) h1 h2 hk).of_run (by rw [hex];simp [builtin])
      | false=>rw [hq] at hc;cases hc
     .cases hc
    .rename_i h1 h2 h3 h4;obtain ⟨t,q1,q2⟩:=hb h3;obtain ⟨u,q3,q4⟩:=hb h4;split at hc
     .rename_i h5 h6;simp only [Zeh] at h6;obtain ⟨z,hz,hzl⟩:=h6;cases hq:Nat.beq _ _ with
      | true =>
       rw [hq] at hc;cases hc
       revert hk
       cases Nat.beq _ 32 with
       | true=>exact λhk=>(zlg hp (ty:=o.type) F H q1 q3 q2 q4 (by intro k e;cases e) h5 hz hzl (yM hq) h1 h2 hk).of_run (by rw [hex];simp [builtin])
       | false=>exact λhk=>(zay (ty:=o.type) F H q1 q3 q2 q4 (by intro k e;cases e) h5 hz hzl (yM hq) h1 h2 hk).of_run (by rw [hex];simp [builtin])
      | false=>rw [hq] at hc;cases hc
     .cases hc
    .rename_i h1 h2 h3 h4;obtain ⟨t,q1,q2⟩:=hb h3;obtain ⟨u,q3,q4⟩:=hb h4;split at hc
     .rename_i h5 h6;simp only [Zeh] at h6;obtain ⟨z,hz,hzl⟩:=h6;cases hq:Nat.beq _ _ with
      | true =>
       rw [hq] at hc;cases hc
       exact (zuh (ty:=o.type) F H q1 q3 q2 q4 h5 hz hzl (yM hq) h1 h2 hk).of_run (by rw [hex];simp [builtin])
      | false=>rw [hq] at hc;cases hc
     .cases hc
    .cases hc
   .rename_i d x hargs;obtain rfl:=gQ hargs;split at hc
    .rename_i h1 h2 h3;simp only [Zax] at hc;obtain ⟨s,hs,rfl⟩:=hc;obtain ⟨t,q1,q2⟩:=hb h3;exact (zui (ty:=o.type) F H q1 q2 hs h1 h2 hk).of_run (by rw [hex];simp [builtin])
    .cases hc
   .rename_i x hargs;obtain rfl:=gQ hargs;split at hc
    .rename_i h1 h2;split at hc
     .rename_i hs h6;simp only [Zeh] at h6;obtain ⟨z,hz,hzl⟩:=h6;cases hc
      obtain ⟨t,q1,q2⟩:=hb h2;exact (zy4 (ty:=o.type) F H q1 q2 hs hz hzl h1 hk).of_run (by rw [hex];simp [builtin])
     .cases hc
    .cases hc
   .cases hc
 all_goals
  rw [ho] at hc;cases hc
end
end Go.Ev
namespace Go.Ev
open Go
section
variable {β:Type} {P:Program} {E:Env} {loc st:List Nat} {tm:Tm} {a:Act}
def MkE (β:Type) (op:WO) (tm:Tm) (val:Pa->AV) (blk:Blk):Prop :=
 ∀ (C:Calls β) (h:T Blk) (nx:Pa) (K:Kw β),op.ev C tm h nx K=K (val nx) (T.set .no blk nx h) nx.succ
def MkR (P:Program) (E:Env) (s:Sem Next) (val:Pa->AV) (blk:Blk):Prop :=
 ∃ (obj:Obj) (n:Nat) (vf:Nat->Value),blk≠.no/\(∀ w:World,s.run P w=.ok (.value (vf w.heap.size)) (w.alloc obj)) /\
  ∀ (E':Env),E.le E'->∀ (nx:Pa) (b:Nat),E' nx=none->VR (E'.put nx (b,n)) (val nx) (vf b)/\BR P (E'.put nx (b,n)) n blk obj
theorem MkR.of_run {s s':Sem Next} {val:Pa->AV} {blk:Blk} (h:MkR P E s val blk) (he:∀ w,s'.run P w=s.run P w):MkR P E s' val blk:=by
 obtain ⟨obj,n,vf,h0,h1,h2⟩:=h;exact ⟨obj,n,vf,h0,λw=>by rw [he];exact h1 w,h2⟩
theorem ze8 {l:List AV} {vs:List Value} (hl:VRL E l vs) (hs:l.all gy=true) (ty:TypeId) {s:Sem Next} {vf:Nat->Value} {val:Pa->AV} (hr:∀ w:World,s.run P w=.ok (.value (vf w.heap.size)) (w.alloc (.cells vs.toArray ty (0,0))))
  (hv:∀ (E':Env) (nx:Pa) (b:Nat),VR (E'.put nx (b,l.length)) (val nx) (vf b)):MkR P E s val (.cells false l.length (jN l .e 0)) :=
 ⟨_,l.length,vf,λe=>(by cases e),hr,λE' hE nx b hn=>⟨hv E' nx b,by
  have:=BR.fresh (P:=P) (hl.mono (hE.trans (Env.tY (b,l.length) hn))) hs ty false [] (λ_=>rfl);simpa using this⟩⟩
theorem zy5 (F:FR E loc st tm a) {t:TypeId} {x:Operand} {y:Arg} (hx:zx loc st x=some y) (hm:mkB (.box y) tm=true) :
  ∃ val blk,MkE β (.box y) tm val blk/\MkR P E (do pure (.value (<- Instr.box t (a.eval x)))) val blk:=by
 have hm:(y.ev tm).cells.isSome=true:=hm;cases hc:(y.ev tm).cells with
 | none=>rw [hc] at hm;cases hm
 | some l =>
  obtain ⟨q1,q2⟩:=(zP F hx).cells hc;refine ⟨λnx=>.ptr nx 0,_,λC h nx K => ?_,ze8 q1 q2 t (vf:=λb=>.pointer (some ⟨b,0,none⟩)) (λw=>by simp [Instr.box,vS]) λE' nx b=>ze5 (Env.ja _ _ _)⟩
  show (match (y.ev tm).cells with
   | some l=>jA false l h nx λid h' nx'=>K (.ptr id 0) h' nx'
   | none=>.no 39)=_
  rw [hc];simp only [yW]
theorem zp4 {t:TypeId} {z:AV} {zl:List AV} (hz:gR P t=some z) (hzl:z.cells=some zl) :
  ∃ val blk,MkE β (.alloc zl) tm val blk/\MkR P E (do pure (.value (<- Instr.alloc t true (.tuple #[])))) val blk:=by
 obtain ⟨it,v,hi,hiz,hv⟩:=wE hz;have hz':∀ w:World,(zeroValue t).run P w=.ok v w:=λw=>by simp [zeroValue,typeInfo,hi,hiz]
 obtain ⟨q1,q2⟩:=(hv E).cells hzl;refine ⟨λnx=>.ptr nx 0,_,λC h nx K => ?_,ze8 q1 q2 t (vf:=λb=>.pointer (some ⟨b,0,none⟩)) (λw=>by simp [Instr.alloc,hz',vS]) λE' nx b=>ze5 (Env.ja _ _ _)⟩;show jA false zl h nx (λid h' nx'=>K (.ptr id 0) h' nx')=_;rw [yW]
theorem zm1 (F:FR E loc st tm a) {t e:TypeId} {n s:Nat} {parts:Array (Nat×Operand)} {z:AV} {zl:List AV} {ps:List (Nat×Nat×Arg)} (hu:P.underlying t=some (.slice e)) (hs:rA P e=some s) (hz:gR P e=some z)
  (hzl:z.cells=some zl) (hzs:zl.length=s) (hsz:n*s<=16777216) (hp:gX loc st (λi=>some (i*s,s)) parts.toList=some ps) (hm:mkB (.qw s n zl ps) tm=true) :
  ∃ val blk,MkE β (.qw s n zl ps) tm val blk/\MkR P E (do pure (.value (<- Instr.buildSlice t n (parts.map λ(i,x)=>(i,a.eval x))))) val blk:=by
 have hm:(gL (fe n zl) (j8 ps tm)).isSome=true:=hm;cases hf:gL (fe n zl) (j8 ps tm) with
 | none=>rw [hf] at hm;cases hm
 | some l =>
  obtain ⟨it,v,hi,hiz,hv⟩:=wE hz;have hz':∀ w:World,(zeroValue e).run P w=.ok v w:=λw=>by simp [zeroValue,typeInfo,hi,hiz]
  obtain ⟨q1,q2⟩:=(hv E).cells hzl;have hvs:v.cells.size=s:=by have:=q1.length;simp at this;omega
  have hrep:=pM q1 n (n*s) (by rw [hzs]);obtain ⟨cs,p1,p2,p3,p4⟩:=wQ F hp hrep (xV _ _ q2) hf;refine ⟨λnx=>.sl nx 0 n (some n) s,_,λC h nx K => ?_,ze8 p2 p3 e (vf:=λb=>.slice (some ⟨b,0,none⟩) n n) (λw => ?_) λE' nx b=>kZ (Env.ja _ _ _) (c:=n) rfl⟩
  .show (match gL (fe n zl) (j8 ps tm) with
    | some l=>jA false l h nx λid h' nx'=>K (.sl id 0 n (some n) s) h' nx'
    | none=>.no 40)=_
   rw [hf];simp only [yW]
  .have hsz':¬ (n*s>2 ^ 24):=by omega
   have hpm:(parts.map λp=>(p.1,a.eval p.2)).toList=parts.toList.map λp=>(p.1,a.eval p.2):=by simp
   simp only [Instr.buildSlice,Sem.run_bind,run_underlying hu,Result.andThen_ok,jX hs];rw [if_neg hsz'];simp only [Sem.run_bind,Sem.run_pure,Result.andThen_ok];by_cases h0:n*s=0
   .have e0:Array.map (λx=>(#[]:Array Value)[x%(#[]:Array Value).size]!) (Array.range (n*s))=Array.map (λx=>v.cells[x%v.cells.size]!) (Array.range (n*s)):=by rw [h0,ze6];simp
    simp only [if_pos h0,Sem.run_bind,Sem.run_pure,Result.andThen_ok,e0,hpm,p1,gD,Zcj]
   .simp only [if_neg h0,hz',Sem.run_bind,Sem.run_pure,Result.andThen_ok,hpm,p1,gD,Zcj]
theorem zjq (F:FR E loc st tm a) {t e:TypeId} {i:TypeInfo} {l c:Operand} {l' c':Arg} {z:AV} {zl:List AV} (hu:P.underlying t=some (.slice e)) (hi:P.info? e=some i) (hz:gR P e=some z)
  (hzl:z.cells=some zl) (hzs:zl.length=i.size) (hl:zx loc st l=some l') (hc:zx loc st c=some c') (hm:mkB (.tV i.size i.bytes zl l' c') tm=true) :
  ∃ val blk,MkE β (.tV i.size i.bytes zl l' c') tm val blk/\MkR P E (do pure (.value (<- Instr.makeSlice t (a.eval l) (a.eval c)))) val blk:=by
 have hm:(match l'.ev tm,c'.ev tm with
  | .int _ (.ofNat l),.int _ (.ofNat c)=>Nat.ble l c&&Nat.ble c 1000000&&Nat.ble (i.bytes*c) 281474976710656
  | _,_=>false)=true:=hm
 have v1:=zP F hl;have v2:=zP F hc;split at hm
 .rename_i k1 n1 k2 n2 e1 e2;simp only [Zap] at hm;obtain ⟨⟨b1,b2⟩,b3⟩:=hm;have hbb:(Nat.ble n1 n2&&Nat.ble n2 1000000&&Nat.ble (i.bytes*n2) 281474976710656)=true:=by rw [b1,b2,b3];rfl
  rw [e1] at v1;rw [e2] at v2;have b1:=yG b1;have b2:=yG b2;have b3:=yG b3;obtain ⟨it,v,hit,hiz,hv⟩:=wE hz;have hz':∀ w:World,(zeroValue e).run P w=.ok v w:=λw=>by simp [zeroValue,typeInfo,hit,hiz]
  obtain ⟨q1,q2⟩:=(hv E).cells hzl;have hvs:v.cells.size=i.size:=by have:=q1.length;simp at this;omega
  have hrep:=pM q1 n2 (n2*i.size) (by rw [hzs]);refine ⟨λnx=>.sl nx 0 n1 (some n2) i.size,_,λC h nx K => ?_,ze8 hrep (xV _ _ q2) e (vf:=λb=>.slice (some ⟨b,0,none⟩) n1 n2) (λw => ?_) λE' nx b=>kZ (Env.ja _ _ _) (c:=n2) rfl⟩
  .show asInt (l'.ev tm) (λ_ l=>asInt (c'.ev tm) (λ_ c=>match l,c with
    | .ofNat l,.ofNat c=>bif Nat.ble l c&&Nat.ble c 1000000&&Nat.ble (i.bytes*c) 281474976710656 then
      jA false (fe c zl) h nx λid h' nx'=>K (.sl id 0 l (some c) i.size) h' nx'
     else .no 41
    | _,_=>.no 41) (.no 41)) (.no 41)=_
   rw [e1,e2];show (bif Nat.ble n1 n2&&Nat.ble n2 1000000&&Nat.ble (i.bytes*n2) 281474976710656 then jA false (fe n2 zl) h nx λid h' nx'=>K (.sl id 0 n1 (some n2) i.size) h' nx' else .no 41)=_;rw [hbb,cond_true,yW]
  .rw [v1.xw,v2.xw];have w1:IntKind.i64.wrap (Int.ofNat n1)=n1:=IntWalk.i64_in _ (by simp only [Zeb];omega);have w2:IntKind.i64.wrap (Int.ofNat n2)=n2:=IntWalk.i64_in _ (by simp only [Zeb];omega);have hb3:¬ ((i.bytes:Int)*(Int.ofNat n2)>2 ^ 48):=by
    have h3:((i.bytes*n2:Nat):Int)<=281474976710656:=Int.ofNat_le.2 b3;rw [Int.natCast_mul] at h3;have e48:(2:Int) ^ 48=281474976710656:=by decide
    rw [e48];exact Zfz.2 h3
   have hso:(sizeOf e).run P w=.ok i.size w:=jX (by simp [rA,hi]) w;have hti:(typeInfo e).run P w=.ok i w:=by simp [typeInfo,hi]
   have hcond:¬ (((decide ((n2:Int)<0)||decide ((i.bytes:Int)*(n2:Int)>2 ^ 48))||decide ((n1:Int)<0)||decide ((n1:Int)>(n2:Int)))=true):=by
    simp only [Zdm,decide_eq_true_eq];rintro (((h | h) | h) | h)
    .omega
    .exact hb3 h
    .omega
    .omega
   simp only [Instr.makeSlice,Sem.run_bind,run_underlying hu,Result.andThen_ok,Go.asInt,asIntOf,Sem.run_pure,hti];rw [w1,w2,if_neg hcond];simp only [Sem.run_bind,run_askRoom,Result.andThen_ok,hso,Zgq];by_cases h0:n2*i.size=0
   .simp only [h0,if_true,Sem.run_bind,Sem.run_pure,Result.andThen_ok,gD,Zcj];simp [ze6]
   .simp only [if_neg h0,hz',Sem.run_bind,Sem.run_pure,Result.andThen_ok,gD,Zcj]
 .cases hm
theorem zp5 {t:TypeId}:∃ val blk,MkE β .eX tm val blk/\MkR P E (do pure (.value (<- Instr.makeMap t none))) val blk:=by
 refine ⟨λnx=>.map nx,.map 0 [],λC h nx K => ?_,.map #[] 0,0,λb=>.map (some b),λe=>(by cases e),λw => ?_,λE' hE nx b hn=>⟨?_,#[],rfl,rfl,rfl,by simp⟩⟩
 .show T.fq .no (.map 0 []) nx h (λh'=>K (.map nx) h' nx.succ)=_;rw [T.jo]
 .simp [Instr.makeMap]
 .simp only [VR];exact ⟨_,_,Env.ja _ _ _,rfl⟩
theorem zg1 (F:FR E loc st tm a) {o:Oper} {op:WO} (hc:woA P loc st o.op=some op) (hk:isMk o.op=true) (hm:mkB op tm=true):∃ val blk,MkE β op tm val blk/\MkR P E (execOp a.eval o) val blk:=by
 have of:∀ {s:Sem Next} {op':WO},(∃ val blk,MkE β op' tm val blk/\MkR P E s val blk)->(∀ w,(execOp a.eval o).run P w=s.run P w)->∃ val blk,MkE β op' tm val blk/\MkR P E (execOp a.eval o) val blk :=
  λ⟨val,blk,h1,h2⟩ he=>⟨val,blk,h1,h2.of_run he⟩
 cases ho:o.op <;> first | (rw [ho] at hk;cases hk;done) | skip
 case alloc t =>
  rw [ho] at hc;simp only [woA] at hc;split at hc
  .simp only [Zax] at hc;obtain ⟨zl,hzl,rfl⟩:=hc;exact of (zp4 (by assumption) hzl) λw=>by unfold execOp;rw [ho]
  .cases hc
 case box t x =>
  rw [ho] at hc;simp only [woA,Zax] at hc;obtain ⟨y,hy,rfl⟩:=hc;exact of (zy5 F hy hm) λw=>by unfold execOp;rw [ho]
 case buildSlice t n ps =>
  rw [ho] at hc;simp only [woA] at hc;split at hc
  .split at hc
   .split at hc
    .cases hq:Nat.beq _ _ with
     | true =>
      rw [hq] at hc;cases hc
      exact of (zm1 F (by assumption) (by assumption) (by assumption) (by assumption) (yM hq) (yG (by assumption)) (by assumption) hm) λw=>by unfold execOp;rw [ho]
     | false=>rw [hq] at hc;cases hc
    .cases hc
   .cases hc
  .cases hc
 case makeMap t x =>
  rw [ho] at hc;cases x with
  | none=>simp only [woA] at hc;cases hc;exact of zp5 λw=>by unfold execOp;rw [ho];rfl
  | some x=>simp only [woA] at hc;cases hc
 case makeSlice t l c =>
  rw [ho] at hc;simp only [woA] at hc;split at hc
  .split at hc
   .split at hc
    .cases hq:Nat.beq _ _ with
     | true =>
      rw [hq] at hc;cases hc
      exact of (zjq F (by assumption) (by assumption) (by assumption) (by assumption) (yM hq) (by assumption) (by assumption) hm) λw=>by unfold execOp;rw [ho]
     | false=>rw [hq] at hc;cases hc
    .cases hc
   .cases hc
  .cases hc
end
end Go.Ev
namespace Go.Ev
open Go
def Fd (rd:Option Nat):Fence:={ Fence.wide with round:=rd }
section
variable {β:Type} {P:Program} {B:Nat}
def CR (P:Program) (B:Nat) (E:Env) (w:World) (K:Kw β) (r:β):Ending->World->Prop
 | .returned v,w'=>∃ av h' nx' E',K av h' nx'=.ok r/\VR E' av v/\HR P B E' h' nx' w'/\Ex E E' w w'
 | _,_=>False
def bX (ps:Array Tmp) (args:Array Value) (tmps:Array Value):Array Value:=(ps.zip args).foldl (λtmps (t,a)=>tmps.setIfInBounds t a) tmps
def oO (n:Nat) (P:Program) (f:Nat) (vs:Array Value) (w:World) (R:Ending->World->Prop):Prop :=
 (∃ fn:Func,P.funcs[f]? = some fn/\fn.body.isNone=false/\(fn.name == "runtime.NumGoroutine")=false/\CallsIn Fence.wide n P f vs w R) \/
 ((∀ x∈vs.toList,∃ k z,x=Value.int k z)/\∃ v,(callFunc f vs).run P w=.ok (.value v) w/\R (.returned v) w)
theorem oO.mono {n:Nat} {P:Program} {f:Nat} {vs:Array Value} {w:World} {R R':Ending->World->Prop} (h:oO n P f vs w R) (hR:∀ e w',R e w'->R' e w'):oO n P f vs w R':=by
 rcases h with ⟨fn,h1,h2,h3,h4⟩ | ⟨h1,v,h2,h3⟩
 .exact .inl ⟨fn,h1,h2,h3,h4.mono hR⟩
 .exact .inr ⟨h1,v,h2,hR _ _ h3⟩
structure COk (P:Program) (B:Nat) (C:Calls β):Prop where
 fn:∀ {E:Env} {h:T Blk} {nx:Pa} {w:World} {f:Nat} {args:List AV} {vs:Array Value} {K:Kw β} {r:β},HR P B E h nx w->VRL E args vs.toList->C.fn f (.of f) args h nx K=.ok r ->
  ∃ _:Unit,True/\True/\True/\∀ n,oO n P f vs w (CR P B E w K r)
 yld:∀ {E:Env} {h:T Blk} {nx:Pa} {w:World} {id:Pa} {b m:Nat} {args:List AV} {vs:Array Value} {K:Kw β} {r:β},HR P B E h nx w->E id=some (b,m)->VRL E args vs.toList->C.yld id args h nx K=.ok r ->
  ∃ L:Loop,w.heap[b]? = some (.loop L)/\vs.size=L.params.size/\∀ n,RoundIn Fence.wide n P b L.fn (bX L.params vs L.tmps) L.assign L.body w (CR P B E w K r)
 pk:PkOk C
variable {E:Env} {loc st:List Nat} {N:Nat} {tm:Tm} {a:Act} {h:T Blk} {nx:Pa} {w:World} {C:Calls β} {r₀:β} {rd:Option Nat} {n:Nat} {ops:Array Oper} {Q:Exit->Act->World->Prop}
def SK (loc st:List Nat):Prop:=∀ t∈st,tu loc t=none
theorem wO {tmps:Array Value} {t s:Nat} {v:Value} (ht:t<tmps.size):(tmps.setIfInBounds t v).getD s undef=if s=t then v else tmps.getD s undef:=by
 simp only [Zbq,Zhi];by_cases e:t=s
 .subst e;simp [ht]
 .rw [if_neg e,if_neg (Ne.symm e)]
theorem cQ (F:FR E loc st tm a) (hN:a.tmps.size=N) (hs:SK loc st) {dst:Option Nat} {d:Dst} {st':List Nat} (hd:aG loc st N dst=some (d,st')) {av:AV} {v:Value} (hv:VR E av v) :
  ∃ tm':Tm,(∀ k:Tm->Out β,sV d av tm k=k tm')/\FR E loc st' tm' (a.put dst v)/\(a.put dst v).tmps.size=N/\(a.put dst v).defers=a.defers/\SK loc st':=by
 cases dst with
 | none =>
  simp only [aG,Option.some.injEq,Prod.mk.injEq] at hd;obtain ⟨rfl,rfl⟩:=hd;exact ⟨tm,λk=>zc9 _ _ _,F,hN,rfl,hs⟩
 | some t =>
  simp only [aG] at hd;split at hd
  .rename_i p au hp;cases hd
   have ht:t<a.tmps.size:=by have:=yG au;omega
   refine ⟨⟨T.set .u av p tm.v,tm.s⟩,λk=>zg2 _ _ _ _,⟨?_,?_⟩,by simp [Act.put,hN],rfl,hs⟩
   .intro t' p' hdm hp';show VR E _ ((a.tmps.setIfInBounds t v).getD t' undef);rw [wO ht];by_cases e:t'=t
    .subst e;rw [hp] at hp';cases hp';rw [if_pos rfl,T.get_set_same];exact hv
    .rw [if_neg e,T.zk _ _ _ _ _ (λe2=>e (dW hp' (by rw [e2];exact hp)))];exact F.tr t' p' hdm hp'
   .intro k t' hdm hk;show VR E _ ((a.tmps.setIfInBounds t v).getD t' undef);rw [wO ht,if_neg (by rintro rfl;have:=hs t' (Zad hk);rw [hp] at this;cases this)];exact F.sr k t' hdm hk
  .rename_i au hp;cases hq:st.any (Nat.beq t) with
   | true=>rw [hq] at hd;cases hd
   | false =>
    rw [hq] at hd;cases hd
    have ht:t<a.tmps.size:=by have:=yG au;omega
    have hnot:∀ s∈st,s≠t:=by
     intro s hs e;subst e;rw [Zdy] at hq;exact hq s hs (Zbz s)
    refine ⟨⟨tm.v,av::tm.s⟩,λk=>pQ _ _ _,⟨?_,?_⟩,by simp [Act.put,hN],rfl,?_⟩
    .intro t' p' hdm hp';show VR E _ ((a.tmps.setIfInBounds t v).getD t' undef);rw [wO ht,if_neg (by rintro rfl;rw [hp] at hp';cases hp')];exact F.tr t' p' hdm hp'
    .intro k t' hdm hk;show VR E _ ((a.tmps.setIfInBounds t v).getD t' undef);rw [wO ht];cases k with
     | zero=>simp at hk;subst hk;rw [if_pos rfl];exact hv
     | succ k =>
      simp at hk;rw [if_neg (hnot t' (Zad hk))];exact F.sr k t' hdm hk
    .intro s hs';rcases Zaq.1 hs' with rfl | hs'
     .exact hp
     .exact hs s hs'
  .cases hd
theorem FR.mono {E':Env} (hE:E.le E') (F:FR E loc st tm a):FR E' loc st tm a:=⟨F.tr.mono hE,λk t hd hk=>VR.mono hE _ (F.sr k t hd hk)⟩
theorem VR.zg3 {x:AV} {v:Value} (hx:VR E x v) (b:Bool):x=.bool b↔v=.bool b:=by
 cases x <;> simp only [VR] at hx <;> first
  |(subst hx;constructor <;> intro e <;> cases e <;> rfl;done)
  |(subst hx;constructor <;> intro e <;> cases e;done)
  |(obtain ⟨_,_,_,_,rfl,_⟩:=hx;constructor <;> intro e <;> cases e;done)
  |(obtain ⟨_,_,_,rfl⟩:=hx;constructor <;> intro e <;> cases e;done)
  |(obtain ⟨_,_,rfl⟩:=hx;constructor <;> intro e <;> cases e;done)
  |(obtain ⟨_,_,rfl,_⟩:=hx;constructor <;> intro e <;> cases e;done)
  |(obtain ⟨_,rfl,_⟩:=hx;constructor <;> intro e <;> cases e;done)
  |(obtain ⟨_,_,_,rfl,_⟩:=hx;constructor <;> intro e <;> cases e;done)
  |(obtain ⟨_,_,_,_,rfl,_⟩:=hx;constructor <;> intro e <;> cases e;done)
theorem d6 (F:FR E loc st tm a) {o:Oper} {g:Option (Arg×Bool)} (hg:qP loc st ops o=some g):Region.wanted o (yielded ops a.tmps)=jT g tm:=by
 unfold qP at hg;cases ho:o.guard with
 | none =>
  rw [ho] at hg;cases hg;simp [Region.wanted,ho,jT]
 | some jw =>
  obtain ⟨j,want⟩:=jw;simp only [ho] at hg;split at hg
  .rename_i t ht;simp only [Zax] at hg;obtain ⟨x,hx,rfl⟩:=hg;have hv:=zP F hx;have he:a.eval (.tmp t)=a.tmps.getD t undef:=rfl;rw [he] at hv;have hy:yielded ops a.tmps j=match a.tmps.getD t undef with | .bool b=>some b | _=>none:=by
    simp only [yielded,ht,Option.bind_some,Zbq];cases a.tmps[t]? with
    | none=>rfl
    | some v=>cases v <;> rfl
   simp only [Region.wanted,ho,hy,jT];by_cases hb:∃ b,a.tmps.getD t undef=.bool b
   .obtain ⟨b,hb⟩:=hb;have hx2:=(hv.zg3 b).2 hb;rw [hx2,hb];simp
   .have hx2:∀ b,x.ev tm≠.bool b:=λb e=>hb ⟨b,(hv.zg3 b).1 e⟩;have e1:(match a.tmps.getD t undef with | .bool b=>some b | _=>none:Option Bool)=none:=by
     split
     .rename_i b hb2;exact absurd ⟨b,hb2⟩ hb
     .rfl
    rw [e1];split
    .rename_i b hb2;exact absurd hb2 (hx2 b)
    .rfl
  .cases hg
end
end Go.Ev
namespace Go.Ev
open Go
section
variable {β:Type} {P:Program} {B:Nat}
variable {E:Env} {loc st st':List Nat} {N:Nat} {tm:Tm} {a:Act} {h:T Blk} {nx:Pa} {w:World} {C:Calls β} {r:β} {rd:Option Nat} {n:Nat} {ops:Array Oper} {Q:Exit->Act->World->Prop} {o:Oper}
theorem dL {Kp:Act->World->Prop} {v:Value} {w':World} (hnd:∀ c,o.op≠.defer c) (hr:(execOp a.eval o).run P w=.ok (.value v) w') (hk:Kp (a.put o.dst v) w'):o.wpIn (Fd rd) n P a w Kp Q:=by
 refine ⟨λ_ _=>trivial,?_⟩;rw [Oper.semAt_eq _ _ _ hnd,hr];exact hk
theorem wp_skip {Kp:Act->World->Prop} {w':World} (hnd:∀ c,o.op≠.defer c) (hr:(execOp a.eval o).run P w=.ok .skip w') (hk:Kp (a.put o.dst undef) w'):o.wpIn (Fd rd) n P a w Kp Q:=by
 refine ⟨λ_ _=>trivial,?_⟩;rw [Oper.semAt_eq _ _ _ hnd,hr];exact hk
theorem za0 {op:PO} (hc:poA P loc st o.op=some op):∀ c,o.op≠.defer c:=by
 intro c e;rw [e] at hc;cases hc
theorem wF {op:WO} (hc:woA P loc st o.op=some op):∀ c,o.op≠.defer c:=by
 intro c e;rw [e] at hc;cases hc
theorem VR.zp6 {f:Nat} {p:Pa} {cap:List AV} {v:Value} (h:VR E (.fn f p cap) v):p=.of f/\∃ vs:Array Value,v=.func (.func f) #[] vs/\VRL E cap vs.toList:=by simpa only [VR] using h
theorem VR.zy6 {f:Nat} {p:Pa} {first:List AV} {v:Value} (h:VR E (.bm f p first) v):p=.of f/\∃ vs:Array Value,v=.func (.func f) vs #[]/\VRL E first vs.toList:=by simpa only [VR] using h
theorem VR.zuj {id:Pa} {v:Value} (h:VR E (.yld id) v):∃ b n,E id=some (b,n)/\v=.func (.yield b) #[] #[]:=by simpa only [VR] using h
theorem uD {f:FuncId} {fn:Func} {args:Array Value} (hf:P.funcs[f]? = some fn) (hb:fn.body.isNone=false) (hn:(fn.name == "runtime.NumGoroutine")=false):(callFunc f args).run P w=.ok (.enter f args) w:=by
 have h1:fn.name ≠ "runtime.NumGoroutine" := by simpa using hn
 have h2:fn.body≠none:=by intro e;rw [e] at hb;cases hb
 simp [callFunc,program,Sem.run,hf,h1,h2]
theorem zlh (hC:COk P B C) {f:Operand} {args:Array Operand} {f':Arg} {args':List Arg} (ho:∃ ts,o.op=.call { callee:=.value f,args:=args,argTypes:=ts }) (F:FR E loc st tm a) (H:HR P B E h nx w) (hf:zx loc st f=some f') (ha:xF loc st args=some args')
  {K:Kw β} (hk:(WO.call f' args').ev C tm h nx K=.ok r) {Kp:Act->World->Prop}
  (hK:∀ av v h' nx' E' w',K av h' nx'=.ok r->VR E' av v->HR P B E' h' nx' w'->Ex E E' w w'->Kp (a.put o.dst v) w'):o.wpIn (Fd rd) n P a w Kp Q:=by
 obtain ⟨ts,ho⟩:=ho;have hnd:∀ c,o.op≠.defer c:=by intro c e;rw [ho] at e;cases e
 have hex:execOp a.eval o=(do let d <- Deferred.ofValue (a.eval f) (args.map a.eval);invoke d.target d.args):=by
  unfold execOp;rw [ho];rfl
 have hv:=zP F hf;have hvs:=pE F ha;have hk1:zjk f' args' C tm h nx K=.ok r:=hk
 clear hk
 unfold zjk at hk1;rcases zp7 hk1 with ⟨i,p,cap,hy,hk⟩ | ⟨id,hy,hk⟩ | ⟨i,p,cap,hy,hk⟩
 .rw [hy] at hv;obtain ⟨rfl,vs,he,hcap⟩:=hv.zp6;obtain ⟨_,_,_,_,h4⟩:=hC.fn (vs:=args.map a.eval++vs) H (by simpa using hvs.append hcap) hk;refine ⟨λ_ _=>trivial,?_⟩;rcases h4 (n-1) with ⟨fn,h1,h2,h3,h4⟩ | ⟨_,v,hrun,hR⟩
  case inr =>
   have hr:(execOp a.eval o).run P w=.ok (.value v) w:=by
    rw [hex,he];simp [Deferred.ofValue,invoke,hrun]
   rw [Oper.semAt_eq _ _ _ hnd,hr,Oper.uponIn_value];obtain ⟨av,h',nx',E',q1,q2,q3,q4⟩:=hR;exact hK av v h' nx' E' w q1 q2 q3 q4
  have hr:(execOp a.eval o).run P w=.ok (.enter i (args.map a.eval++vs)) w:=by
   rw [hex,he];simp [Deferred.ofValue,invoke,uD h1 h2 h3]
  rw [Oper.semAt_eq _ _ _ hnd,hr,Oper.uponIn_enter];refine ⟨λhd=>by simp [Fd,Fence.wide] at hd,?_⟩;have h5:CallsIn (Fd rd) (n-1) P i (args.map a.eval++vs) w (CR P B E w K r):=h4;refine CallsIn.mono h5 λe w' he => ?_;cases e with
  | returned v =>
   obtain ⟨av,h',nx',E',q1,q2,q3,q4⟩:=he;exact hK av v h' nx' E' w' q1 q2 q3 q4
  | panicked c=>exact he.elim
  | outgrown=>exact he.elim
 .rw [hy] at hv;obtain ⟨b,m,hE,he⟩:=hv.zuj;obtain ⟨L,h1,h2,h4⟩:=hC.yld (vs:=args.map a.eval) H hE (by simpa using hvs) hk;refine ⟨λ_ _=>trivial,?_⟩;have hr:(execOp a.eval o).run P w=.ok (.round b L.fn (bX L.params (args.map a.eval) L.tmps) L.assign L.body) w:=by
   rw [hex,he];have hy:=run_yield (P:=P) h1 h2;simp only [Deferred.ofValue,Sem.run_bind,Sem.run_pure,Result.andThen_ok,invoke];simpa [bX] using hy
  rw [Oper.semAt_eq _ _ _ hnd,hr,Oper.uponIn_round];refine ⟨λhd=>by simp [Fd,Fence.wide] at hd,?_⟩;have h5:RoundIn (Fd rd) (n-1) P b L.fn (bX L.params (args.map a.eval) L.tmps) L.assign L.body w (CR P B E w K r):=h4 (n-1);refine RoundIn.mono h5 λe w' he => ?_;cases e with
  | returned v =>
   obtain ⟨av,h',nx',E',q1,q2,q3,q4⟩:=he;exact hK av v h' nx' E' w' q1 q2 q3 q4
  | panicked c=>exact he.elim
  | outgrown=>exact he.elim
 .rw [hy] at hv;obtain ⟨rfl,vs,he,hcap⟩:=hv.zy6;obtain ⟨_,_,_,_,h4⟩:=hC.fn (vs:=vs++args.map a.eval) H (by simpa using hcap.append hvs) hk;refine ⟨λ_ _=>trivial,?_⟩;rcases h4 (n-1) with ⟨fn,h1,h2,h3,h4⟩ | ⟨_,v,hrun,hR⟩
  case inr =>
   have hr:(execOp a.eval o).run P w=.ok (.value v) w:=by
    rw [hex,he];simp [Deferred.ofValue,invoke,hrun]
   rw [Oper.semAt_eq _ _ _ hnd,hr,Oper.uponIn_value];obtain ⟨av,h',nx',E',q1,q2,q3,q4⟩:=hR;exact hK av v h' nx' E' w q1 q2 q3 q4
  have hr:(execOp a.eval o).run P w=.ok (.enter i (vs++args.map a.eval)) w:=by
   rw [hex,he];simp [Deferred.ofValue,invoke,uD h1 h2 h3]
  rw [Oper.semAt_eq _ _ _ hnd,hr,Oper.uponIn_enter];refine ⟨λhd=>by simp [Fd,Fence.wide] at hd,?_⟩;have h5:CallsIn (Fd rd) (n-1) P i (vs++args.map a.eval) w (CR P B E w K r):=h4;refine CallsIn.mono h5 λe w' he => ?_;cases e with
  | returned v =>
   obtain ⟨av,h',nx',E',q1,q2,q3,q4⟩:=he;exact hK av v h' nx' E' w' q1 q2 q3 q4
  | panicked c=>exact he.elim
  | outgrown=>exact he.elim
theorem zg4 {f':Arg} {args':List Arg} (hc:woA P loc st o.op=some (.call f' args')):∃ f args,(∃ ts,o.op=.call { callee:=.value f,args:=args,argTypes:=ts })/\zx loc st f=some f'/\xF loc st args=some args':=by
 cases ho:o.op
 case range t x =>
  rw [ho] at hc;simp only [woA] at hc;split at hc
  .simp at hc
  .cases hc
 case next x s =>
  rw [ho] at hc;cases s with
  | true=>cases hc
  | false=>simp [woA] at hc
 case call c =>
  rw [ho] at hc;obtain ⟨callee,args,ts⟩:=c;cases callee <;> simp only [woA] at hc <;> first | (cases hc;done) | skip
  .rename_i f;split at hc
   .cases hc;exact ⟨f,args,⟨ts,rfl⟩,by assumption,by assumption⟩
   .cases hc
  .split at hc
   .split at hc
    .split at hc
     .cases hq:Nat.beq _ _ with
      | true =>
       rw [hq] at hc
       revert hc
       cases Nat.beq _ 32 <;> intro hc <;> cases hc
      | false=>rw [hq] at hc;cases hc
     .cases hc
    .split at hc
     .cases hq:Nat.beq _ _ with
      | true =>
       rw [hq] at hc
       revert hc
       cases Nat.beq _ 32 <;> intro hc <;> cases hc
      | false=>rw [hq] at hc;cases hc
     .cases hc
    .split at hc
     .cases hq:Nat.beq _ _ with
      | true=>rw [hq] at hc;cases hc
      | false=>rw [hq] at hc;cases hc
     .cases hc
    .cases hc
   .split at hc
    .simp at hc
    .cases hc
   .split at hc
    .split at hc
     .cases hc
     .cases hc
    .cases hc
   .cases hc
 case alloc t =>
  rw [ho] at hc;simp only [woA] at hc;split at hc
  .simp at hc
  .cases hc
 case box t x=>rw [ho] at hc;simp [woA] at hc
 case buildSlice t n ps =>
  rw [ho] at hc;simp only [woA] at hc;split at hc
  .split at hc
   .split at hc
    .cases hq:Nat.beq _ _ with
     | true=>rw [hq] at hc;cases hc
     | false=>rw [hq] at hc;cases hc
    .cases hc
   .cases hc
  .cases hc
 case makeMap t x =>
  rw [ho] at hc;cases x <;> simp [woA] at hc
 case makeSlice t l c =>
  rw [ho] at hc;simp only [woA] at hc;split at hc
  .split at hc
   .split at hc
    .cases hq:Nat.beq _ _ with
     | true=>rw [hq] at hc;cases hc
     | false=>rw [hq] at hc;cases hc
    .cases hc
   .cases hc
  .cases hc
 all_goals
  rw [ho] at hc;simp only [woA] at hc
  repeat' (first | (cases hc;done) | split at hc)
end
end Go.Ev
namespace Go.Ev
open Go
section
variable {β:Type} {P:Program} {B:Nat}
variable {E:Env} {loc st st':List Nat} {N:Nat} {tm:Tm} {a:Act} {h:T Blk} {nx:Pa} {w:World} {C:Calls β} {r:β} {rd:Option Nat} {n:Nat} {ops:Array Oper} {Q:Exit->Act->World->Prop} {o:Oper}
def Nxt (P:Program) (B:Nat) (E:Env) (loc st':List Nat) (N:Nat) (a:Act) (w:World) (K:Kr β) (r:β) (Kp:Act->World->Prop):Prop :=
 ∀ tm' h' nx' E' a' w',FR E' loc st' tm' a'->SK loc st'->a'.tmps.size=N->a'.defers=a.defers->HR P B E' h' nx' w'->Ex E E' w w'->K tm' h' nx'=.ok r->Kp a' w'
theorem wT {i:Nat} {Kp:Act->World->Prop} (hi:ops[i]? = some o) :
  wpOpIn (Fd rd) n P ops Q i Kp a w=(if Region.wanted o (yielded ops a.tmps) then o.wpIn (Fd rd) n P a w Kp Q else (∀ f,o.about P w a.eval=some f->(Fd rd).fn f)/\Kp (a.put o.dst undef) w):=by
 simp [wpOpIn,hi]
theorem ze9 (F:FR E loc st tm a) (hN:a.tmps.size=N) (hs:SK loc st) (H:HR P B E h nx w) {op:PO} {d:Dst} (hd:aG loc st N o.dst=some (d,st')) (hc:poA P loc st o.op=some op) {K:Kr β}
  (hk:op.ev tm h (λv=>sV d v tm λtm'=>K tm' h nx)=.ok r) {Kp:Act->World->Prop} (hK:Nxt P B E loc st' N a w K r Kp):o.wpIn (Fd rd) n P a w Kp Q:=by
 obtain ⟨av,v,h1,h2,h3⟩:=zg5 F H hc hk;obtain ⟨tm',q1,q2,q3,q4,q5⟩:=cQ (β:=β) F hN hs hd h2;refine dL (za0 hc) h3 ?_;have h1:sV d av tm (λtm'=>K tm' h nx)=.ok r:=h1;rw [q1] at h1;exact hK tm' h nx E _ w q2 q5 q3 q4 H (.refl _ _) h1
theorem zda (F:FR E loc st tm a) (hN:a.tmps.size=N) (hs:SK loc st) (H:HR P B E h nx w) {d:Dst} (hd:aG loc st N o.dst=some (d,st')) {K:Kr β}
  (hk:sV d .u tm (λtm'=>K tm' h nx)=.ok r) {Kp:Act->World->Prop} (hK:Nxt P B E loc st' N a w K r Kp):Kp (a.put o.dst undef) w:=by
 obtain ⟨tm',q1,q2,q3,q4,q5⟩:=cQ (β:=β) F hN hs hd (kB (E:=E));rw [q1] at hk;exact hK tm' h nx E _ w q2 q5 q3 q4 H (.refl _ _) hk
theorem zuk (hC:COk P B C) (F:FR E loc st tm a) (hN:a.tmps.size=N) (hs:SK loc st) (H:HR P B E h nx w) {op:WO} {d:Dst} (hd:aG loc st N o.dst=some (d,st')) (hc:woA P loc st o.op=some op) {K:Kr β}
  (hk:op.ev C tm h nx (λv h' nx'=>sV d v tm λtm'=>K tm' h' nx')=.ok r) {Kp:Act->World->Prop} (hK:Nxt P B E loc st' N a w K r Kp):o.wpIn (Fd rd) n P a w Kp Q:=by
 have fin:∀ av v h' nx' E' w',sV d av tm (λtm'=>K tm' h' nx')=.ok r->VR E' av v->HR P B E' h' nx' w'->Ex E E' w w'->Kp (a.put o.dst v) w':=by
  intro av v h' nx' E' w' h1 h2 h3 h4;obtain ⟨tm',q1,q2,q3,q4,q5⟩:=cQ (β:=β) (F.mono h4.le) hN hs hd h2;rw [q1] at h1;exact hK tm' h' nx' E' _ w' q2 q5 q3 q4 h3 h4 h1
 by_cases hcall:∃ f args,op=.call f args
 .obtain ⟨f,args,rfl⟩:=hcall;obtain ⟨f0,qcq,ho,hf,ha⟩:=zg4 hc;exact zlh hC ho F H hf ha hk λav v h' nx' E' w' q1 q2 q3 q4=>fin av v h' nx' E' w' q1 q2 q3 q4
 .obtain ⟨av,v,h',nx',E',w',q1,q2,q3,q4,q5⟩:=zg0 hC.pk F H hc (λf args e=>hcall ⟨f,args,e⟩) hk;rcases q5 with q5 | ⟨q5,rfl⟩
  .exact dL (wF hc) q5 (fin av v h' nx' E' w' q1 q2 q3 q4)
  .exact wp_skip (wF hc) q5 (fin av _ h' nx' E' w' q1 q2 q3 q4)
theorem zp8 (hC:COk P B C) {x:RO} (hro:roA P loc st N ops o=some (x,st')) {i:Nat} (hi:ops[i]? = some o) (F:FR E loc st tm a) (hN:a.tmps.size=N) (hs:SK loc st) (H:HR P B E h nx w) {K:Kr β} (hk:x.ev C tm h nx K=.ok r)
    {Kp:Act->World->Prop} (hK:Nxt P B E loc st' N a w K r Kp):wpOpIn (Fd rd) n P ops Q i Kp a w:=by
  rw [wT hi];unfold roA at hro;split at hro
  . rename_i g d st₁ hg hd;have hgs:=d6 F hg;split at hro
    . rename_i p hp;split at hro
      . cases hro
        rw [hgs];have hk1:erS p C tm h nx K=.ok r:=hk
        exact ze9 F hN hs H hd hp (K:=K) (by have e:∀ v,sV .push v tm (λtm'=>K tm' h nx)=K ⟨tm.v,v::tm.s⟩ h nx:=λv=>pQ _ _ _
                                             simp only [e];exact hk1) hK
      . cases hro
        rw [hgs];have hk1:erQ _ p C tm h nx K=.ok r:=hk;exact ze9 F hN hs H hd hp (K:=K) hk1 hK
      . cases hro
        have hk1:erP _ _ p C tm h nx K=.ok r:=hk;unfold erP at hk1;rw [zxa] at hk1;rw [hgs];cases hb:jT g tm with
        | true =>
          rw [hb] at hk1;exact ze9 F hN hs H hd hp (K:=K) hk1 hK
        | false =>
          rw [hb] at hk1;exact ⟨λ_ _=>trivial,zda F hN hs H hd (K:=K) hk1 hK⟩
    . rename_i hp;split at hro
      . rename_i p hq;cases hro
        have hk1:erW _ _ p C tm h nx K=.ok r:=hk;unfold erW at hk1;rw [zxb] at hk1;rw [hgs];cases hb:jT g tm with
        | true =>
          rw [hb] at hk1;exact zuk hC F hN hs H hd hq (K:=K) hk1 hK
        | false =>
          rw [hb] at hk1;exact ⟨λ_ _=>trivial,zda F hN hs H hd (K:=K) hk1 hK⟩
      . cases hro
  . cases hro
theorem zm2 (hC:COk P B C) {rest:List Oper}:∀ {i:Nat} {st:List Nat} {E:Env} {tm:Tm} {a:Act} {h:T Blk} {nx:Pa} {w:World} {xs:List RO},ops.toList.drop i=rest->rosA P loc N ops rest st=some xs->FR E loc st tm a->a.tmps.size=N->SK loc st->HR P B E h nx w ->
  ∀ {K:Kr β},zZ xs C tm h nx K=.ok r ->
  (∀ tm' h' nx' E' a' w' st',FR E' loc st' tm' a'->a'.tmps.size=N->a'.defers=a.defers->HR P B E' h' nx' w'->Ex E E' w w'->K tm' h' nx'=.ok r->Q .normal a' w') ->
  wpOpsIn (Fd rd) n P ops Q (List.range' i rest.length) a w:=by
 induction rest with
 | nil =>
  intro i st E tm a h nx w xs hdr hx F hN hs H K hk hK;simp only [rosA,Option.some.injEq] at hx;subst hx;exact hK tm h nx E a w st F hN rfl H (.refl _ _) hk
 | cons o rest ih =>
  intro i st E tm a h nx w xs hdr hx F hN hs H K hk hK;simp only [rosA] at hx;split at hx
  .rename_i x st' hro;split at hx
   .rename_i xs' hxs;cases hx
    have hi:ops[i]? = some o:=by
     have:(ops.toList.drop i)[0]? = some o:=by rw [hdr];rfl
     simpa using this
    have hdr':ops.toList.drop (i+1)=rest:=by
     rw [<- List.tail_drop,hdr];rfl
    rw [Zbc,List.range'_succ,wpOpsIn_cons];have hk1:x.ev C tm h nx (λtm h nx=>zZ xs' C tm h nx K)=.ok r:=hk;refine zp8 hC hro hi F hN hs H hk1 λtm' h' nx' E' a' w' F' hs' hN' hd' H' hx' hk' => ?_;exact ih hdr' hxs F' hN' hs' H' hk' λtm'' h'' nx'' E'' a'' w'' st'' q1 q2 q3 q4 q5 q6=>hK tm'' h'' nx'' E'' a'' w'' st'' q1 q2 (q3.trans hd') q4 (hx'.trans q5) q6
   .cases hx
  .cases hx
theorem zm3 (hC:COk P B C) {id:Nat} {xs:List RO} (hx:rosA P loc N ops ops.toList []=some xs) {tv:T AV} (F:TR E loc tv a.tmps) (hN:a.tmps.size=N) (H:HR P B E h nx w) {K:Ks β} {fuel:Nat} {O:pq β}
  (hk:zpw xs C fuel O K tv h nx=.ok r)
  (hK:∀ tv' h' nx' E' a' w',TR E' loc tv' a'.tmps->a'.tmps.size=N->a'.defers=a.defers->HR P B E' h' nx' w'->Ex E E' w w'->K tv' h' nx'=.ok r->Q .normal a' w') :
  (Code.region id ops false).wpIn (Fd rd) n P Q a w:=by
 refine wpIn_region ?_;have F':FR E loc [] ⟨tv,[]⟩ a:=⟨F,λk t _ hk=>by simp at hk⟩
 have:=zm2 (rd:=rd) (n:=n) (Q:=Q) (i:=0) hC rfl hx F' hN (λt ht=>by simp at ht) H (r:=r) (K:=λtm h nx=>Tm.rec (motive:=λ_=>Out β) (λt _=>K t h nx) tm) (by unfold zpw at hk;exact hk)
  (λtm' h' nx' E' a' w' st' q1 q2 q3 q4 q5 q6=>hK tm'.v h' nx' E' a' w' q1.tr q2 q3 q4 q5 (by cases tm';exact q6))
 simpa [List.range_eq_range'] using this
end
end Go.Ev
namespace Go.Ev
open Go
section
variable {β:Type} {P:Program} {B:Nat}
def za1 (b:Nat):Deferred:={ target:=.collected b,args := #[] }
def Marks (E:Env) (S0:Nat) (ds:List Deferred) (w:World):Prop :=
 ∃ bs:List Nat,ds=bs.map za1/\bs.Nodup/\∀ b∈bs,S0<=b/\w.heap[b]? = some (.deferred (some []))/\∀ id n,E id≠some (b,n)
theorem Marks.ex {E E':Env} {S0:Nat} {ds:List Deferred} {w w':World} (M:Marks E S0 ds w) (X:Ex E E' w w'):Marks E' S0 ds w':=by
 obtain ⟨bs,h1,h2,h3⟩:=M;refine ⟨bs,h1,h2,λb hb => ?_⟩;obtain ⟨q1,q2,q3⟩:=h3 b hb;have hlt:b<w.heap.size:=(Zgy.1 q2).1;refine ⟨q1,by rw [X.keep b hlt q3];exact q2,λid n hid => ?_⟩;rcases X.new id b n hid with h | ⟨id',n',h⟩
 .omega
 .exact q3 id' n' h
structure FA (E:Env) (loc:List Nat) (N S0:Nat) (rd:Option Nat) (tv:T AV) (a:Act) (w:World):Prop where
 tr:TR E loc tv a.tmps
 size:a.tmps.size=N
 marks:Marks E S0 a.defers w
 rdl:∀ l,rd=some l->∃ L,w.heap[l]? = some (.loop L)
 old:S0<=w.heap.size
theorem FA.next {E E':Env} {loc:List Nat} {N S0:Nat} {rd:Option Nat} {tv tv':T AV} {a a':Act} {w w':World} (F:FA E loc N S0 rd tv a w) (X:Ex E E' w w') (h1:TR E' loc tv' a'.tmps) (h2:a'.tmps.size=N) (h3:a'.defers=a.defers) :
  FA E' loc N S0 rd tv' a' w':={
 tr:=h1
 size:=h2
 marks:=by rw [h3];exact F.marks.ex X
 rdl l hl:=let ⟨L,hL⟩:=F.rdl l hl;let ⟨L',h,_⟩:=X.loop l L hL;⟨L',h⟩
 old:=Zbe F.old X.size }
def Aft (P:Program) (B:Nat) (E:Env) (loc:List Nat) (N S0:Nat) (rd:Option Nat) (w:World) (K:Ks β) (r:β) (Qe:Act->World->Prop):Prop :=
 ∀ tv' h' nx' E' a' w',FA E' loc N S0 rd tv' a' w'->HR P B E' h' nx' w'->Ex E E' w w'->K tv' h' nx'=.ok r->Qe a' w'
theorem Aft.trans {E E':Env} {loc:List Nat} {N S0:Nat} {rd:Option Nat} {w w':World} {K:Ks β} {r:β} {Qe:Act->World->Prop} (A:Aft P B E loc N S0 rd w K r Qe) (X:Ex E E' w w'):Aft P B E' loc N S0 rd w' K r Qe :=
 λtv' h' nx' E'' a' w'' F H X' hk=>A tv' h' nx' E'' a' w'' F H (X.trans X') hk
def zfa (P:Program) (B:Nat) (loc:List Nat) (N:Nat) (rd:Option Nat) (C:Calls β):Prop :=
 ∀ {n:Nat} {ops:Array Oper} {id:Nat} {cs:List WO} {ys:List (RO×Nat×List WO)} {E:Env} {tv:T AV} {a:Act} {h:T Blk} {nx:Pa} {w:World} {K:Ks β} {r:β} {fuel:Nat} {O:pq β} {Q:Exit->Act->World->Prop},
  zpy P loc N ops=some (cs,ys)->TR E loc tv a.tmps->a.tmps.size=N->HR P B E h nx w->zpx cs ys C fuel O K tv h nx=.ok r ->
  (∀ tv' h' nx' E' a' w',TR E' loc tv' a'.tmps->a'.tmps.size=N->a'.defers=a.defers->HR P B E' h' nx' w'->Ex E E' w w'->K tv' h' nx'=.ok r->Q .normal a' w') ->
  (Code.region id ops true).wpIn (Fd rd) n P Q a w
variable {E:Env} {loc:List Nat} {N S0:Nat} {tv:T AV} {a:Act} {h:T Blk} {nx:Pa} {w:World} {C:Calls β} {r:β} {rd:Option Nat} {n:Nat} {Q:Exit->Act->World->Prop}
theorem run_seq (x y:IR) (fuel:Nat) (O:pq β) (K:Ks β):(IR.seq x y).run C fuel O K=x.run C fuel O (y.run C fuel O K):=rfl
theorem zm4 (id:Nat) (b:IR) (fuel:Nat) (O:pq β) (K:Ks β):(IR.block id b).run C fuel O K=b.run C fuel { O with ex:=λi=>bif Nat.beq i id then K else O.ex i } K:=rfl
noncomputable def iter (b:IR) (C:Calls β) (fuel:Nat) (O:pq β):Nat->Ks β
 | 0=>λ_ _ _=>.no 61
 | k+1=>b.run C fuel O (iter b C fuel O k)
theorem zp9 (b:IR) (fuel:Nat) (O:pq β) (K:Ks β):(IR.loop b).run C fuel O K=iter b C fuel O fuel:=by
 have:∀ k,(Nat.rec (motive:=λ_=>Ks β) (λ_ _ _=>.no 61) (λ_ ihn=>b.run C fuel O ihn) k)=iter b C fuel O k:=by
  intro k
  induction k with
  | zero=>rfl
  | succ k ih=>show b.run C fuel O _=b.run C fuel O _;rw [ih]
 exact this fuel
theorem zqa (c:Arg) (x y:IR) (fuel:Nat) (O:pq β) (K:Ks β):(IR.cond c x y).run C fuel O K tv h nx=asBool (c.ev ⟨tv,[]⟩) (λt=>Bool.rec (y.run C fuel O K tv h nx) (x.run C fuel O K tv h nx) t) (.no 60):=rfl
theorem least {p:Nat->Prop} (h:∃ k,p k):∃ k,p k/\∀ j,p j->k<=j:=by
 obtain ⟨k,hk⟩:=h
 induction k using Nat.strongRecOn with
 | _ k ih =>
  by_cases hs:∃ j,j<k/\p j
  .obtain ⟨j,hj,hp⟩:=hs;exact ih j hj hp
  .exact ⟨k,hk,λj hp=>Zfs λhlt=>hs ⟨j,hlt,hp⟩⟩
open Classical in
theorem zjr {c:Code} {fuel:Nat} {O:pq β}
  (ih:∀ {O:pq β} {K:Ks β} {E:Env} {tv:T AV} {a:Act} {h:T Blk} {nx:Pa} {w:World} {Q:Exit->Act->World->Prop},FA E loc N S0 rd tv a w->HR P B E h nx w->(irA P loc N c).run C fuel O K tv h nx=.ok r ->
   Aft P B E loc N S0 rd w K r (Q .normal)->(∀ id,Aft P B E loc N S0 rd w (O.ex id) r (Q (.exit id)))->Aft P B E loc N S0 rd w O.rt r (Q .ret)->c.wpIn (Fd rd) n P Q a w)
  (F:FA E loc N S0 rd tv a w) (H:HR P B E h nx w) (k:Nat) (hk:iter (irA P loc N c) C fuel O k tv h nx=.ok r)
  (he:∀ id,Aft P B E loc N S0 rd w (O.ex id) r (Q (.exit id))) (hr:Aft P B E loc N S0 rd w O.rt r (Q .ret)):(Code.loop c).wpIn (Fd rd) n P Q a w:=by
 let I:Nat->Act->World->Prop:=λk a' w'=>∃ E' tv' h' nx',FA E' loc N S0 rd tv' a' w'/\HR P B E' h' nx' w'/\Ex E E' w w'/\iter (irA P loc N c) C fuel O k tv' h' nx'=.ok r
 refine wpIn_loop (λa' w'=>∃ k,I k a' w') (λa' w'=>if hx:∃ k,I k a' w' then Classical.choose (least hx) else 0) ⟨k,E,tv,h,nx,F,H,.refl _ _,hk⟩ λa' w' hx => ?_;obtain ⟨E',tv',h',nx',F',H',X',hk'⟩:=(Classical.choose_spec (least hx)).1;simp only [dif_pos hx];cases hm:Classical.choose (least hx) with
 | zero=>rw [hm] at hk';cases hk'
 | succ m =>
  rw [hm] at hk';refine ih F' H' hk' ?_ (λid=>(he id).trans X') (hr.trans X');intro tv'' h'' nx'' E'' a'' w'' F'' H'' X'' hk'';have hI:I m a'' w'':=⟨E'',tv'',h'',nx'',F'',H'',X'.trans X'',hk''⟩;refine ⟨⟨m,hI⟩,?_⟩;have hx2:∃ k,I k a'' w'':=⟨m,hI⟩;show (if hx:∃ k,I k a'' w'' then Classical.choose (least hx) else 0)<m+1;rw [dif_pos hx2];exact Nat.lt_succ_of_le ((Classical.choose_spec (least hx2)).2 m hI)
end
end Go.Ev
namespace Go.Ev
open Go
section
variable {β:Type} {P:Program} {B:Nat}
variable {E:Env} {loc:List Nat} {N S0:Nat} {tv:T AV} {a:Act} {h:T Blk} {nx:Pa} {w:World} {C:Calls β} {r:β} {rd:Option Nat} {n:Nat} {Q:Exit->Act->World->Prop}
theorem HR.aY (H:HR P B E h nx w) (o:Obj):HR P B E h nx (w.alloc o):={
 blk id hid:=by
  obtain ⟨b,n,o',h1,h2,h3⟩:=H.blk id hid;exact ⟨b,n,o',h1,by rw [gA o (H.lt _ _ _ h1).2];exact h2,h3⟩
 inj:=H.inj
 fresh:=H.fresh
 lt id b n hid:=by rw [jS];have:=H.lt id b n hid;exact ⟨this.1,by omega⟩
 base:=by rw [jS];have:=H.base;omega
 frz b' i v hf:=by
  obtain ⟨⟨c,ty,fr,h1,h2⟩,h3⟩:=H.frz b' i v hf;exact ⟨⟨c,ty,fr,by rw [gA o (Zgy.1 h1).1];exact h1,h2⟩,h3⟩ }
theorem Ex.aY (E:Env) (w:World) (o:Obj):Ex E E w (w.alloc o):={
 le:=.refl _
 os:=rfl
 tape:=rfl
 output:=rfl
 size:=by rw [jS];omega
 keep b hb _:=gA o hb
 new id b m hid:=.inr ⟨id,m,hid⟩
 fzn b i v h:=.inr (.inl ⟨v,h⟩)
 loop b L hb:=⟨L,by
  have hlt:b<w.heap.size:=(Zgy.1 hb).1;rw [gA o hlt];exact hb,.refl _⟩ }
theorem HR.close (H:HR P B E h nx w) {id:Pa} (hid:T.get .no id h≠.no) {b m:Nat} (hE:E id=some (b,m)) (o':Obj):HR P B E (T.set .no .no id h) nx (w.putObj b o'):={
 blk j hj:=by
  by_cases e:j=id
  .subst e;rw [T.get_set_same] at hj;exact absurd rfl hj
  .rw [T.zk _ _ _ _ _ e] at hj ⊢;obtain ⟨b',n',o,h1,h2,h3⟩:=H.blk j hj;exact ⟨b',n',o,h1,by rw [yP _ (by rintro rfl;exact e (H.inj j id _ _ _ hj hid h1 hE))];exact h2,h3⟩
 inj j j' b' n' n'' h1 h2 h3 h4:=(H.drop id).inj j j' b' n' n'' h1 h2 h3 h4
 fresh:=H.fresh
 lt j b' n' hj:=by rw [World.putObj_size];exact H.lt j b' n' hj
 base:=by rw [World.putObj_size];exact H.base
 frz b' i v hf:=by
  have hne:=H.zjl hid hE hf;obtain ⟨⟨c,ty,fr,h1,h2⟩,h3⟩:=(H.drop id).frz b' i v hf;exact ⟨⟨c,ty,fr,by rw [yP _ hne];exact h1,h2⟩,h3⟩ }
theorem mA {l0:Nat} {L0:Loop} (h:w.heap[l0]? = some (.loop L0)) (fn:FuncId) (tmps:Array Value) (ps:Array Tmp) (assign body:Code) :
  (Instr.enterLoop fn tmps ps assign body (some l0)).run P w =
   .ok (w.heap.size,[]) (w.alloc (.loop { state:=.ready,pending:=none,fn,tmps,params:=ps,assign,body,defers:=L0.defers })):=by
 unfold Instr.enterLoop;simp only [Sem.run_bind,run_getLoop h,run_newObj_alloc,Result.andThen,Sem.run_pure]
theorem zqb (hC:COk P B C) (hloc:∀ t∈loc,t<N) {g:Operand} {ps:Array Tmp} {x y:Code} {g':Arg} {ps':List Pa} (hg:zx loc [] g=some g') (hps:ps.toList.mapM (tu loc)=some ps') {fuel:Nat} {O:pq β} {K:Ks β}
  (F:FA E loc N S0 rd tv a w) (H:HR P B E h nx w) (hk:(IR.rf g' ps' (irA P loc N x) (irA P loc N y)).run C fuel O K tv h nx=.ok r)
  (hK:Aft P B E loc N S0 rd w K r (Q .normal)) (he:∀ id,Aft P B E loc N S0 rd w (O.ex id) r (Q (.exit id))) (hr:Aft P B E loc N S0 rd w O.rt r (Q .ret)):(Code.rangeFunc g ps x y).wpIn (Fd rd) n P Q a w:=by
 refine wpIn_rangeFunc λfn _ => ?_
 obtain ⟨wa,dsb,mark,hent,Ha,Xa,hm,hsz⟩:∃ (wa:World) (dsb:Nat) (mark:List Deferred),
   (Instr.enterLoop fn a.tmps ps x y (Fd rd).round).run P w=.ok (wa.heap.size,mark) (wa.alloc (.loop { state:=.ready,pending:=none,fn,tmps:=a.tmps,params:=ps,assign:=x,body:=y,defers:=dsb })) /\
   HR P B E h nx wa/\Ex E E w wa/\Marks E S0 (mark++a.defers) wa/\w.heap.size<=wa.heap.size:=by
  cases rd with
  | none =>
   refine ⟨w.alloc (.deferred (some [])),w.heap.size,[za1 w.heap.size],?_,H.aY _,.aY _ _ _,?_,by rw [jS];omega⟩
   .have:=run_enterLoop_outer (P:=P) (w:=w) fn a.tmps ps x y;rw [jS];exact this
   .obtain ⟨bs,h1,h2,h3⟩:=F.marks.ex (Ex.aY E w (.deferred (some [])));obtain ⟨bs',h1',_,h3'⟩:=F.marks;refine ⟨w.heap.size::bs,by rw [h1];rfl,?_,?_⟩
    .rw [Zcc];refine ⟨λhmem => ?_,h2⟩;have hbs:bs=bs':=by
      have e:=h1.symm.trans h1';have hinj:Function.Injective za1:=λp q e=>by
       simp only [za1,Deferred.mk.injEq,Target.collected.injEq] at e;exact e.1
      exact (List.map_inj_right hinj).1 e
     rw [hbs] at hmem;have:=(Zgy.1 (h3' _ hmem).2.1).1;omega
    .intro b hb;rcases Zaq.1 hb with rfl | hb
     .exact ⟨F.old,wN _,λid m hid=>absurd (H.lt id _ m hid).2 (Zct _)⟩
     .exact h3 b hb
  | some l0 =>
   obtain ⟨L0,hL0⟩:=F.rdl l0 rfl;exact ⟨w,L0.defers,[],mA hL0 fn a.tmps ps x y,H,.refl _ _,F.marks,Zaf _⟩
 have hk1:eiRf g' ps' (irA P loc N x) (irA P loc N y) ((irA P loc N x).run) ((irA P loc N y).run) C fuel O K tv h nx=.ok r:=hk
 clear hk
 unfold eiRf at hk1;rw [T.jo] at hk1;have F0:FR E loc [] ⟨tv,[]⟩ a:=⟨F.tr,λk t _ hk=>by simp at hk⟩;have hv:=zP F0 hg;rcases zul hk1 with ⟨i,p,cap,hy,hk⟩ | ⟨id,hy,hk⟩
 .rw [hy] at hv;obtain ⟨rfl,vs,hev,hcap⟩:=hv.zp6;have hle:E.le (E.put nx (wa.heap.size,0)):=Env.tY _ (Ha.fresh _ (Zaf _))
  have hbr:BR P (E.put nx (wa.heap.size,0)) 0 (.loop .ready .none tv ps' (irA P loc N x) (irA P loc N y)) (.loop { state:=.ready,pending:=none,fn,tmps:=a.tmps,params:=ps,assign:=x,body:=y,defers:=dsb }) :=
   ⟨_,loc,N,rfl,rfl,rfl,F.tr.mono hle,F.size.symm,hloc,hps,rfl,rfl⟩
  have H1:=Ha.alloc hbr;have X1:=Ex.alloc Ha (.loop { state:=.ready,pending:=none,fn,tmps:=a.tmps,params:=ps,assign:=x,body:=y,defers:=dsb }) 0
  obtain ⟨_,_,_,_,h4⟩:=hC.fn (vs := #[.func (.yield wa.heap.size) #[] #[]]++vs) H1
   (by simp only [Array.toList_append];exact VRL.append (l:=[AV.yld nx]) (VRL.cons (by simp only [VR];exact ⟨_,_,Env.ja _ _ _,rfl⟩) VRL.nil) (hcap.mono hle)) hk
  rcases h4 (n-1) with ⟨fu,h1,h2,h3,h4⟩ | ⟨hint,_⟩
  case inr =>
   obtain ⟨k,z,e⟩:=hint (.func (.yield wa.heap.size) #[] #[]) (by simp);cases e
  refine ⟨wa.heap.size,mark,wa.alloc (.loop { state:=.ready,pending:=none,fn,tmps:=a.tmps,params:=ps,assign:=x,body:=y,defers:=dsb }),{ target:=.fn (.func i) vs,args := #[.func (.yield wa.heap.size) #[] #[]] },wa.alloc (.loop { state:=.ready,pending:=none,fn,tmps:=a.tmps,params:=ps,assign:=x,body:=y,defers:=dsb }),i,#[.func (.yield wa.heap.size) #[] #[]]++vs,wa.alloc (.loop { state:=.ready,pending:=none,fn,tmps:=a.tmps,params:=ps,assign:=x,body:=y,defers:=dsb }),hent,?_,λ_ _=>trivial,?_,λhd=>by simp [Fd,Fence.wide] at hd,?_⟩
  .simp only [resolve,hev,Deferred.ofValue,Sem.run_pure];simp [Act.eval]
  .simp only [invoke];exact uD h1 h2 h3
  .refine CallsIn.mono (F:=Fd rd) h4 λe w3 hcr => ?_;cases e with
   | panicked c=>exact hcr.elim
   | outgrown=>exact hcr.elim
   | returned v =>
    obtain ⟨av,h',nx',E',q1,q2,q3,q4⟩:=hcr;obtain ⟨st,j,tm1,ps1,a1,b1,hb,hk9⟩:=p9 q1;rw [T.jo] at hk9;have hno:T.get .no nx h'≠.no:=by rw [hb];intro e;cases e
    obtain ⟨b,m,o,e1,e2,e3⟩:=q3.blk nx hno;have e4:=q4.le.nm nx _ (Env.ja _ _ _);rw [e1] at e4;obtain ⟨rfl,rfl⟩:b=wa.heap.size/\m=0:=by cases e4;exact ⟨rfl,rfl⟩
    rw [hb] at e3;obtain ⟨L,loc1,N1,rfl,s1,s2,s3⟩:=e3;have zqc:L.state≠.busy:=by
     cases st with
     | ready=>rw [show L.state=.ready from s1];intro e;cases e
     | busy=>cases hk9
     | done=>rw [show L.state=.done from s1];intro e;cases e
    have H4:=q3.close hno e1 (.loop { L with state:=.exhausted });have X4:Ex E' E' w3 (w3.putObj wa.heap.size (.loop { L with state:=.exhausted })):=Ex.put e1 e2 (λL' hL'=>by cases hL';exact ⟨_,rfl,⟨rfl,rfl,rfl,rfl,rfl⟩⟩);have XX:=(X1.trans q4).trans X4
    have F4:FA E' loc N S0 rd tv { a with defers:=mark++a.defers } (w3.putObj wa.heap.size (.loop { L with state:=.exhausted })) :=
     ⟨F.tr.mono XX.le,F.size,hm.ex XX,λl hl=>let ⟨L1,hL1⟩:=F.rdl l hl;let ⟨L2,h,_⟩:=(Xa.trans XX).loop l L1 hL1;⟨L2,h⟩,Zbe (Zbe F.old hsz) XX.size⟩
    refine ⟨L.pending,_,run_endLoop e2 zqc,?_⟩
    have hend:∀ {Kx:Ks β} {e:Exit},Aft P B E loc N S0 rd w Kx r (Q e)->Kx tv (T.set .no .no nx h') nx'=.ok r->Q e { a with defers:=mark++a.defers } (w3.putObj wa.heap.size (.loop { L with state:=.exhausted })) :=
     λA hkx=>A _ _ _ _ _ _ F4 H4 (Xa.trans XX) hkx
    have key:∀ pj:Option Code,L.pending=pj->(match pj with
      | none=>Q .normal { a with defers:=mark++a.defers } (w3.putObj wa.heap.size (.loop { L with state:=.exhausted }))
      | some c=>c.wpIn (Fd rd) n P Q { a with defers:=mark++a.defers } (w3.putObj wa.heap.size (.loop { L with state:=.exhausted }))):=by
     intro pj hpj
     have hk9:(match j with
      | .none=>K
      | .ret=>O.rt
      | .exit id=>O.ex id) tv (T.set .no .no nx h') nx'=.ok r:=by
      cases st with
      | busy=>exact absurd s1 zqc
      | ready=>exact hk9
      | done=>exact hk9
     cases j with
     | none =>
      obtain rfl:pj=none:=hpj.symm.trans s2;exact hend hK hk9
     | ret =>
      obtain rfl:pj=some .ret:=hpj.symm.trans s2;exact wpIn_ret (hend hr hk9)
     | exit id =>
      obtain rfl:pj=some (.exit id):=hpj.symm.trans s2;exact wpIn_exit (hend (he id) hk9)
    exact key _ rfl
 .cases hk
def noGoto (Q:Exit->Act->World->Prop):Exit->Act->World->Prop
 | .goto _,_,_=>False
 | e,a,w=>Q e a w
theorem zjs {F:Fence} {c:Code} (h:c.wpIn F n P (noGoto Q) a w):(Code.scope c).wpIn F n P Q a w:=by
 intro b k cs hro hb hr;have h0:(lone (b.atR a (.code (.scope c)::k)) cs w).fenced P F:=fenced_calm hb hr rfl;have s0:step P (lone (b.atR a (.code (.scope c)::k)) cs w)=.next (lone (b.atR a (.code c::.inScope c::k)) cs w):=step_lone_go (by simp [stepG,stepG.exec,Frame.atR]);obtain ⟨e,a₁,w₁,hq,harr⟩:=h b (.inScope c::k) cs hro hb hr;cases e with
 | normal =>
  have s1:step P (lone (b.atR a₁ (.inScope c::k)) cs w₁)=.next (lone (b.atR a₁ k) cs w₁):=step_lone_go (by simp [stepG,stepG.exec,Frame.atR]);exact ⟨.normal,a₁,w₁,hq,.head h0 s0 (StepsIn.trans harr (.one (fenced_calm hb hr rfl) s1))⟩
 | exit id' =>
  have hx:exitTo id' (.inScope c::k)=exitTo id' k:=by simp [exitTo]
  exact ⟨.exit id',a₁,w₁,hq,λk' hk=>.head h0 s0 (harr.1 k' (by rw [hx];exact hk)),
   λhr' hk=>let ⟨k₁,h1,h2⟩:=harr.2 hr' (by rw [hx];exact hk);⟨k₁,h1,.head h0 s0 h2⟩⟩
 | goto l=>exact hq.elim
 | ret=>exact ⟨_,a₁,w₁,hq,.of_steps (.one h0 s0) harr⟩
 | panic ch=>exact ⟨_,a₁,w₁,hq,.of_steps (.one h0 s0) harr⟩
 | outgrown=>exact ⟨_,a₁,w₁,hq,.of_steps (.one h0 s0) harr⟩
theorem uJ (hC:COk P B C) (hD:zfa P B loc N rd C) (hloc:∀ t∈loc,t<N) {fuel:Nat}:∀ (c:Code) {O:pq β} {K:Ks β} {E:Env} {tv:T AV} {a:Act} {h:T Blk} {nx:Pa} {w:World} {Q:Exit->Act->World->Prop},FA E loc N S0 rd tv a w->HR P B E h nx w ->
  (irA P loc N c).run C fuel O K tv h nx=.ok r ->
  Aft P B E loc N S0 rd w K r (Q .normal)->(∀ id,Aft P B E loc N S0 rd w (O.ex id) r (Q (.exit id)))->Aft P B E loc N S0 rd w O.rt r (Q .ret)->c.wpIn (Fd rd) n P Q a w
 | .skip,O,K,E,tv,a,h,nx,w,Q,F,H,hk,hK,he,hr=>wpIn_skip (hK _ _ _ _ _ _ F H (.refl _ _) hk)
 | .region id ops d,O,K,E,tv,a,h,nx,w,Q,F,H,hk,hK,he,hr=>by
  cases d with
  | true =>
   simp only [irA] at hk;split at hk
   .rename_i cs ys hys;exact hD (fuel:=fuel) (O:=O) hys F.tr F.size H hk λtv' h' nx' E' a' w' q1 q2 q3 q4 q5 q6=>hK _ _ _ _ _ _ (F.next q5 q1 q2 q3) q4 q5 q6
   .cases hk
  | false =>
   simp only [irA] at hk;split at hk
   .rename_i l hl;exact zm3 (fuel:=fuel) (O:=O) hC hl F.tr F.size H hk λtv' h' nx' E' a' w' q1 q2 q3 q4 q5 q6=>hK _ _ _ _ _ _ (F.next q5 q1 q2 q3) q4 q5 q6
   .cases hk
 | .seq x y,O,K,E,tv,a,h,nx,w,Q,F,H,hk,hK,he,hr=>by
  simp only [irA,run_seq] at hk;refine wpIn_seq (uJ hC hD hloc x F H hk ?_ (λid=>he id) hr);intro tv' h' nx' E' a' w' F' H' X' hk';exact uJ hC hD hloc y F' H' hk' (hK.trans X') (λid=>(he id).trans X') (hr.trans X')
 | .cond c x y,O,K,E,tv,a,h,nx,w,Q,F,H,hk,hK,he,hr=>by
  simp only [irA] at hk;split at hk
  .rename_i c' hc;rw [zqa] at hk;obtain ⟨t,hy,hk⟩:=vM hk;have F0:FR E loc [] ⟨tv,[]⟩ a:=⟨F.tr,λk t _ hk=>by simp at hk⟩;have hv:=zP F0 hc;rw [hy] at hv;cases t with
   | true=>exact wpIn_cond hv.ah (uJ hC hD hloc x F H hk hK he hr)
   | false=>exact wpIn_cond hv.ah (uJ hC hD hloc y F H hk hK he hr)
  .cases hk
 | .block id b,O,K,E,tv,a,h,nx,w,Q,F,H,hk,hK,he,hr=>by
  simp only [irA,zm4] at hk;refine wpIn_block (uJ hC hD hloc b F H hk hK (λi => ?_) hr);intro tv' h' nx' E' a' w' F' H' X' hk';show Exit.inBlock id Q (.exit i) a' w';by_cases hi:i=id
  .have hk':(bif Nat.beq i id then K else O.ex i) tv' h' nx'=.ok r:=hk';rw [aZ hi] at hk';simp only [Exit.inBlock,if_pos hi];exact hK _ _ _ _ _ _ F' H' X' hk'
  .have hk':(bif Nat.beq i id then K else O.ex i) tv' h' nx'=.ok r:=hk';rw [aL hi] at hk';simp only [Exit.inBlock,if_neg hi];exact he i _ _ _ _ _ _ F' H' X' hk'
 | .loop b,O,K,E,tv,a,h,nx,w,Q,F,H,hk,hK,he,hr=>by
  simp only [irA,zp9] at hk;exact zjr (λF H hk hK he hr=>uJ hC hD hloc b F H hk hK he hr) F H fuel hk he hr
 | .rangeFunc f ps x y,O,K,E,tv,a,h,nx,w,Q,F,H,hk,hK,he,hr=>by
  simp only [irA] at hk;split at hk
  .exact zqb hC hloc (by assumption) (by assumption) F H hk hK he hr
  .cases hk
 | .exit id,O,K,E,tv,a,h,nx,w,Q,F,H,hk,hK,he,hr=>wpIn_exit (he id _ _ _ _ _ _ F H (.refl _ _) hk)
 | .ret,O,K,E,tv,a,h,nx,w,Q,F,H,hk,hK,he,hr=>wpIn_ret (hr _ _ _ _ _ _ F H (.refl _ _) hk)
 | .label l,O,K,E,tv,a,h,nx,w,Q,F,H,hk,hK,he,hr=>wpIn_label (hK _ _ _ _ _ _ F H (.refl _ _) hk)
 | .scope b,O,K,E,tv,a,h,nx,w,Q,F,H,hk,hK,he,hr=>zjs (uJ (Q:=noGoto Q) hC hD hloc b F H hk hK he hr)
 | .goto l,O,K,E,tv,a,h,nx,w,Q,F,H,hk,hK,he,hr=>by cases hk
 | .refuse s,O,K,E,tv,a,h,nx,w,Q,F,H,hk,hK,he,hr=>by cases hk
end
end Go.Ev
namespace Go.Ev
open Go
section
variable {β:Type} {P:Program} {B:Nat}
variable {E:Env} {loc:List Nat} {N:Nat} {tv:T AV} {a:Act} {h:T Blk} {nx:Pa} {w:World} {C:Calls β} {r:β} {n:Nat}
theorem mH (p:Pa) (ps:List Pa) (l:List AV) (t:T AV) (k:T AV->Out β) :
  kW (p::ps) l t k=List.rec (motive:=λ_=>Out β) (.no 89) (λv vs _=>T.fq .u v p t λt'=>kW ps vs t' k) l:=rfl
theorem za2:∀ {ps:List Pa} {args:List AV} {tv:T AV} {k:T AV->Out β},ps.Nodup->kW ps args tv k=.ok r ->
  ∃ tv',k tv'=.ok r/\args.length=ps.length/\(∀ (i:Nat) (p:Pa) (v:AV),ps[i]? = some p->args[i]? = some v->T.get .u p tv'=v)/\∀ p,p∉ps->T.get .u p tv'=T.get .u p tv
 | [],[],tv,k,_,hk=>⟨tv,hk,rfl,by simp,λ_ _=>rfl⟩
 | [],_::_,tv,k,_,hk=>by cases hk
 | _::_,[],tv,k,_,hk=>by cases hk
 | p::ps,v::vs,tv,k,hn,hk=>by
  rw [mH] at hk;simp only [T.jo] at hk;rw [Zcc] at hn;obtain ⟨tv',h1,h2,h3,h4⟩:=za2 hn.2 hk;refine ⟨tv',h1,by simp [h2],λi q x hq hx => ?_,λq hq => ?_⟩
  .cases i with
   | zero =>
    simp at hq hx;subst hq;subst hx;rw [h4 _ hn.1,T.get_set_same]
   | succ i=>exact h3 i q x (by simpa using hq) (by simpa using hx)
  .simp only [Zaq,not_or] at hq;rw [h4 q hq.2,T.zk _ _ _ _ _ hq.1]
theorem za3:∀ {params:List Tmp} {ps:List Pa} {args:List AV} {vs:List Value} {tv:T AV} {tmps:Array Value} {k:T AV->Out β},params.mapM (tu loc)=some ps->TR E loc tv tmps->(∀ t∈loc,t<tmps.size)->VRL E args vs ->
  kW ps args tv k=.ok r->∃ tv',k tv'=.ok r/\vs.length=params.length/\TR E loc tv' ((params.zip vs).foldl (λtmps (t,a)=>tmps.setIfInBounds t a) tmps)/\((params.zip vs).foldl (λtmps (t,a)=>tmps.setIfInBounds t a) tmps).size=tmps.size
 | [],ps,args,vs,tv,tmps,k,hp,ht,hl,hv,hk=>by
  simp at hp;subst hp;cases args with
  | nil =>
   simp only [VRL] at hv;subst hv;exact ⟨tv,hk,rfl,ht,rfl⟩
  | cons x xs=>cases hk
 | t::params,ps,args,vs,tv,tmps,k,hp,ht,hl,hv,hk=>by
  rw [Zcb] at hp;cases hq:tu loc t with
  | none=>simp [hq] at hp
  | some p =>
   cases hqs:params.mapM (tu loc) with
   | none=>simp [hq,hqs] at hp
   | some ps' =>
    simp [hq,hqs] at hp;subst hp;cases args with
    | nil=>cases hk
    | cons x xs =>
     simp only [VRL] at hv;obtain ⟨v,m,rfl,hx,hxs⟩:=hv;rw [mH] at hk;simp only [T.jo] at hk;have htl:t<tmps.size:=by
      unfold tu at hq;simp only [Zax] at hq;obtain ⟨i,hi,_⟩:=hq;obtain ⟨h1,h2,_⟩:=Zhs.1 hi;have:=yM h2;rw [this];exact hl _ (Zas h1)
     have ht':TR E loc (T.set .u x p tv) (tmps.setIfInBounds t v):=by
      intro t' p' hdm hp';rw [wO htl];by_cases e:t'=t
      .subst e;rw [hq] at hp';cases hp';rw [if_pos rfl,T.get_set_same];exact hx
      .rw [if_neg e,T.zk _ _ _ _ _ (λe2=>e (dW hp' (by rw [e2];exact hq)))];exact ht t' p' hdm hp'
     obtain ⟨tv',h1,h2,h3,h4⟩:=za3 hqs ht' (by intro t ht;simpa using hl t ht) hxs hk;exact ⟨tv',h1,by simp [h2],h3,by simpa using h4⟩
theorem dS:∀ {np:Nat} {ps:List Pa},qD loc np=some ps->ps.length=np/\∀ i,i<np->∃ p,tu loc i=some p/\ps[i]? = some p
 | 0,ps,h=>by simp [qD] at h;subst h;exact ⟨rfl,λi hi=>by omega⟩
 | np+1,ps,h=>by
  simp only [qD] at h;split at h
  .rename_i l p hl hp;cases h
   obtain ⟨h1,h2⟩:=dS hl;refine ⟨by simp [h1],λi hi => ?_⟩;by_cases e:i=np
   .subst e;exact ⟨p,hp,by simp [<- h1]⟩
   .obtain ⟨q,h3,h4⟩:=h2 i (by omega);exact ⟨q,h3,by rw [Zha (by omega)];exact h4⟩
  .cases h
theorem mB:∀ {np:Nat} {ps:List Pa},qD loc np=some ps->ps.Nodup
 | 0,ps,h=>by simp [qD] at h;subst h;exact List.nodup_nil
 | np+1,ps,h=>by
  simp only [qD] at h;split at h
  .rename_i l p hl hp;cases h
   obtain ⟨h1,h2⟩:=dS hl;rw [Zcf];refine ⟨mB hl,by simp,λx hx y hy => ?_⟩;rw [Zba] at hy;subst hy;rintro rfl;obtain ⟨i,hi⟩:=Zhk hx;have hil:i<np:=by rw [<- h1];exact (Zgv.1 hi).1
   obtain ⟨q,q1,q2⟩:=h2 i hil;rw [hi] at q2;cases q2;exact absurd (dW q1 hp) (by omega)
  .cases h
theorem zdb (p:Pa):∀ n,T.get .u p (zlf n)=.u
 | 0=>T.rV _ p
 | n+1=>by
  show T.get .u p (T.fq .u .u (.of n) (zlf n) λt=>t)=.u;rw [T.jo,T.zli,zdb p n];split <;> rfl
theorem zg6 {t0:T AV} (h0:∀ p,T.get .u p t0=.u) {np:Nat} {ps:List Pa} (hp:qD loc np=some ps) (hN:np<=N) {args:List AV} {vs:Array Value} (hv:VRL E args vs.toList) {k:T AV->Out β} (hk:kW ps args t0 k=.ok r) :
  ∃ tv',k tv'=.ok r/\TR E loc tv' (vs++Array.replicate (N-vs.size) undef)/\(vs++Array.replicate (N-vs.size) undef).size=N:=by
 obtain ⟨tv',h1,h2,h3,h4⟩:=za2 (mB hp) hk;obtain ⟨h5,h6⟩:=dS hp;have hsz:vs.size=np:=by have:=hv.length;simp at this;omega
 refine ⟨tv',h1,λt p _ ht => ?_,by simp;omega⟩;rw [Zbq,Array.getElem?_append];by_cases hlt:t<np
 .rw [if_pos (by omega)];obtain ⟨q,q1,q2⟩:=h6 t hlt;rw [ht] at q1;cases q1;have hx:args[t]? = some (args[t]'(by omega)):=Zgu _;obtain ⟨v,r1,r2⟩:=hv.get hx;rw [h3 t p _ q2 hx];rw [Zhq] at r1;rw [r1];exact r2
 .rw [if_neg (by omega)];have hnot:p∉ps:=by
   intro hm;obtain ⟨i,hi⟩:=Zhk hm;have hil:i<np:=by rw [<- h5];exact (Zgv.1 hi).1
   obtain ⟨q,q1,q2⟩:=h6 i hil;rw [hi] at q2;cases q2;exact absurd (dW q1 ht) (by omega)
  rw [h4 p hnot,h0];have:(Array.replicate (N-vs.size) undef)[t-vs.size]?.getD undef=undef:=by
   rw [Array.getElem?_replicate];split <;> rfl
  rw [this];exact kB
def pN (tmps:Array Value):ResultVar->Sem Value
 | .tmp t=>pure (tmps.getD t undef)
 | .cell a t=>do loadVar t (<- asAddr (tmps.getD a undef))
theorem zy7 (p:Pa) (l:List RV) (tm:T AV) (h:T Blk) (K:List AV->Out β):resA (.t p::l) tm h K=resA l tm h λl=>K (T.get .u p tm::l):=rfl
theorem za4 {tmps:Array Value} (ht:TR E loc tv tmps) (H:HR P B E h nx w):∀ {l:List ResultVar} {rs:List RV} {K:List AV->Out β},l.mapM (rvA P loc)=some rs->resA rs tv h K=.ok r ->
  ∃ xs vs,K xs=.ok r/\VRL E xs vs/\(l.mapM (pN tmps)).run P w=.ok vs w
 | [],rs,K,hl,hk=>by simp at hl;subst hl;exact ⟨[],[],hk,VRL.nil,rfl⟩
 | x::l,rs,K,hl,hk=>by
  rw [Zcb] at hl;cases hx:rvA P loc x with
  | none=>simp [hx] at hl
  | some y =>
   cases hls:l.mapM (rvA P loc) with
   | none=>simp [hx,hls] at hl
   | some ys =>
    simp [hx,hls] at hl;subst hl;have F0:FR E loc [] ⟨tv,[]⟩ { tmps,defers:=[] }:=⟨ht,λk t _ hk=>by simp at hk⟩;cases x with
    | tmp t =>
     simp only [rvA] at hx;by_cases hd:t=dmy
     .rw [aZ hd] at hx;cases hx
     rw [aL hd] at hx;simp only [cond_false,Zax] at hx;obtain ⟨p,hp,rfl⟩:=hx;rw [zy7] at hk;obtain ⟨xs,vs,h1,h2,h3⟩:=za4 ht H hls hk;exact ⟨_,_,h1,VRL.cons (ht t p hd hp) h2,by simp [Zcb,pN,h3]⟩
    | cell s t =>
     simp only [rvA] at hx;by_cases hd:s=dmy
     .rw [aZ hd] at hx;cases hx
     rw [aL hd] at hx;simp only [cond_false] at hx;split at hx
     .rename_i p sz hp hsz;cases hx
      have harg:zx loc [] (.tmp s)=some (.t p):=by simp only [zx,aL hd,cond_false,hp]
      have hev:({ tmps,defers:=[] }:Act).eval (.tmp s)=tmps.getD s undef:=rfl
      have hmain:∀ {K':AV->Out β},(match sz with | some s=>ze0 s (.t p) ⟨tv,[]⟩ h K' | none=>zas (.t p) ⟨tv,[]⟩ h K')=.ok r ->
        ∃ x v,K' x=.ok r/\VR E x v/\(pN tmps (.cell s t)).run P w=.ok v w:=by
       intro K' hk';have hgood:Good P E w K' r (do pure (.value (<- Instr.loadAt t (({ tmps,defers:=[] }:Act).eval (.tmp s))))):=by
        cases sz with
        | none=>exact zlj F0 H hsz harg hk'
        | some q=>exact zg7 F0 H hsz harg hk'
       obtain ⟨x,v,g1,g2,g3⟩:=hgood;refine ⟨x,v,g1,g2,?_⟩;rw [hev] at g3;simp only [pN]
       generalize tmps.getD s undef=u at g3 ⊢
       cases u with
       | pointer q =>
        cases q with
        | none=>simp [Instr.loadAt,Instr.sureAddr] at g3
        | some q =>
         simp only [Instr.loadAt,Instr.sureAddr,Sem.run_bind,Sem.run_pure,Result.andThen_ok,asAddr] at g3 ⊢;cases hq:(loadVar t q).run P w with
         | ok v' w'=>rw [hq] at g3;simp at g3;rw [g3.1,g3.2]
         | halt x w'=>rw [hq] at g3;cases g3
       | _=>simp [Instr.loadAt,Instr.sureAddr] at g3
      obtain ⟨x,v,g1,g2,g3⟩:=hmain (K':=λv=>resA ys tv h λl=>K (v::l)) (by cases sz with
       | none=>exact hk
       | some q=>exact hk)
      obtain ⟨xs,vs,h1,h2,h3⟩:=za4 ht H hls g1;exact ⟨_,_,h1,VRL.cons g2 h2,by simp [Zcb,g3,h3]⟩
     .cases hx
theorem zm5 {f:Func} {rs:List RV} (hl:f.results.toList.mapM (rvA P loc)=some rs) {tmps:Array Value} (ht:TR E loc tv tmps) (H:HR P B E h nx w) {K:AV->Out β} (hk:resA rs tv h (λl=>K (resV l))=.ok r) :
  ∃ x v,K x=.ok r/\VR E x v/\(results f tmps).run P w=.ok v w:=by
 obtain ⟨xs,vs,h1,h2,h3⟩:=za4 ht H hl hk;have hm:(f.results.mapM (pN tmps)).run P w=.ok vs.toArray w:=by
  rw [Array.mapM_eq_mapM_toList];simp [h3]
 have hres:results f tmps=(do
   let vs <- f.results.mapM (pN tmps)
   pure (if h:vs.size=1 then vs[0] else .tuple vs)):=by
  unfold results
  congr 1
 have hrun:(results f tmps).run P w=.ok (if h:vs.toArray.size=1 then vs.toArray[0] else .tuple vs.toArray) w:=by
  rw [hres];simp only [Sem.run_bind,hm,Result.andThen_ok,Sem.run_pure]
 refine ⟨_,_,h1,?_,hrun⟩;have hlen:=h2.length
 match xs,vs,h2,hlen with
 | [],[],_,_=>exact dJ VRL.nil
 | [x],[v],h2,_ =>
  simp only [VRL] at h2;obtain ⟨v',m,e,q,_⟩:=h2;cases e
  exact q
 | x::x'::xs,v::v'::vs,h2,_ =>
  rw [dif_neg (by simp)];exact dJ h2
 | [],_::_,_,hl=>simp at hl
 | [_],[],_,hl=>simp at hl
 | [_],_::_::_,_,hl=>simp at hl
 | _::_::_,[],_,hl=>simp at hl
 | _::_::_,[_],_,hl=>simp at hl
end
end Go.Ev
namespace Go.Ev
open Go
section
variable {β:Type} {P:Program} {B:Nat}
variable {E:Env} {loc:List Nat} {N:Nat} {tv:T AV} {a:Act} {h:T Blk} {nx:Pa} {w:World} {C:Calls β} {r:β} {n:Nat}
def zdc (P:Program) (fns:T (Option Fn)):Prop :=
 ∀ (i:Nat) (F:Fn),T.get none (.of i) fns=some F->∃ (f:Func) (loc:List Nat),P.funcs[i]? = some f/\(f.name == "runtime.NumGoroutine")=false/\fnA P f loc=some F
theorem zy8 {f:Func} {F:Fn} (h:fnA P f loc=some F) :
  ∃ b,f.body=some b/\(∀ t∈loc,t<f.ntmps)/\f.params.size+f.nfree<=f.ntmps/\f.results.toList.mapM (rvA P loc)=some F.res/\qD loc (f.params.size+f.nfree)=some F.params/\F.body=irA P loc f.ntmps b/\F.init=zlf loc.length:=by
 unfold fnA at h;split at h
 .rename_i b r ps h1 h2 h3 h4;cases h
  simp only [Zap] at h1;refine ⟨b,h2,λt ht => ?_,yG h1.2,h3,h4,rfl,rfl⟩;have:=Zaw.1 h1.1 t ht;exact yG this
 .cases h
theorem Ex.shut {E E':Env} {w w':World} (X:Ex E E' w w') {b:Nat} (hb:w.heap.size<=b) (o:Obj):Ex E E' w (w'.putObj b o):={
 le:=X.le
 os:=X.os
 tape:=X.tape
 output:=X.output
 size:=by rw [World.putObj_size];exact X.size
 keep k hk hn:=by rw [yP _ (by omega)];exact X.keep k hk hn
 new:=X.new
 fzn:=X.fzn
 loop k L hk:=by
  have hlt:k<w.heap.size:=(Zgy.1 hk).1;rw [yP _ (by omega)];exact X.loop k L hk }
theorem HR.shut (H:HR P B E h nx w) {b:Nat} (hb:∀ id n,E id≠some (b,n)) (hc:∀ c ty fr,w.heap[b]? ≠ some (.cells c ty fr)) (o:Obj):HR P B E h nx (w.putObj b o):={
 blk id hid:=by
  obtain ⟨b',n',o',h1,h2,h3⟩:=H.blk id hid;exact ⟨b',n',o',h1,by rw [yP _ (by rintro rfl;exact hb _ _ h1)];exact h2,h3⟩
 inj:=H.inj
 fresh:=H.fresh
 lt id b n hid:=by rw [World.putObj_size];exact H.lt id b n hid
 base:=by rw [World.putObj_size];exact H.base
 frz b' i v hf:=by
  obtain ⟨⟨c,ty,fr,h1,h2⟩,h3⟩:=H.frz b' i v hf;exact ⟨⟨c,ty,fr,by rw [yP _ (by rintro rfl;exact hc _ _ _ h1)];exact h1,h2⟩,h3⟩ }
theorem bH {f:Func} {rs:List RV} (hl:f.results.toList.mapM (rvA P loc)=some rs) {K:Kw β} {E₀:Env} {w₀:World} {tmps:Array Value} {tv:T AV} (ht:TR E loc tv tmps) (hk:resA rs tv h (λl=>K (resV l) h nx)=.ok r) :
  ∀ (bs:List Nat) {w:World},bs.Nodup->(∀ b∈bs,w₀.heap.size<=b/\w.heap[b]? = some (.deferred (some []))/\∀ id n,E id≠some (b,n))->HR P B E h nx w->Ex E₀ E w₀ w ->
   LeavesInM Fence.wide n P f tmps (CR P B E₀ w₀ K r) (bs.map za1) .returning w
 | [],w,_,_,H,X=>by
  obtain ⟨x,v,q1,q2,q3⟩:=zm5 hl ht H (K:=λv=>K v h nx) hk;exact ⟨v,q3,x,h,nx,E,q1,q2,H,X⟩
 | b::bs,w,hn,hb,H,X=>by
  obtain ⟨b1,b2,b3⟩:=hb b (Zai ..);rw [Zcc] at hn;refine ⟨by simp,.inl ⟨b,w.putObj b (.deferred none),rfl,run_takeDeferred b2,?_⟩⟩;refine bH hl ht hk bs hn.2 (λb' hb' => ?_) (H.shut b3 (λc ty fr q=>by rw [b2] at q;cases q) _) (X.shut b1 _);obtain ⟨c1,c2,c3⟩:=hb b' (Zam _ hb');exact ⟨c1,by rw [yP _ (by rintro rfl;exact hn.1 hb')];exact c2,c3⟩
theorem dD {fns:T (Option Fn)} (hT:zdc P fns) (hC:COk P B C) (hD:∀ loc N rd,zfa P B loc N rd C) {fuel:Nat} {f:Nat} {args:List AV} {vs:Array Value} {K:Kw β} (H:HR P B E h nx w) (hv:VRL E args vs.toList)
  (hk:zO fns fuel C (.of f) args h nx K=.ok r) :
  ∃ _:Unit,True/\True/\True/\∀ n,oO n P f vs w (CR P B E w K r):=by
 unfold zO at hk;cases hg:T.get none (.of f) fns with
 | none=>rw [hg] at hk;cases hk
 | some F =>
  rw [hg] at hk;obtain ⟨fn,loc,h1,h2,h3⟩:=hT f F hg;obtain ⟨b,hb,hloc,hnp,hres,hps,hbody,hinit⟩:=zy8 h3;refine ⟨(),trivial,trivial,trivial,λn=>.inl ⟨fn,h1,by rw [hb];rfl,h2,?_⟩⟩;obtain ⟨tv',hk',ht,hsz⟩:=zg6 (t0:=F.init) (λp=>by rw [hinit];exact zdb p _) hps hnp hv hk;rw [hbody] at hk';refine callsIn_of_wp_marks h1 hb trivial ?_
  have FA0:FA E loc fn.ntmps w.heap.size none tv' { tmps:=vs++Array.replicate (fn.ntmps-vs.size) undef,defers:=[] } w :=
   ⟨ht,hsz,⟨[],rfl,List.nodup_nil,by simp⟩,λl hl=>(by cases hl),Zaf _⟩
  have hend:∀ e,(e=.normal\/e=.ret)->Aft P B E loc fn.ntmps w.heap.size none w (λtm h nx=>resA F.res tm h λl=>K (resV l) h nx) r (bodyPostM Fence.wide n P fn (CR P B E w K r) e):=by
   intro e he tv' h' nx' E' a' w' F' H' X' hk'';obtain ⟨bs,m1,m2,m3⟩:=F'.marks;have:=bH (n:=n) (E₀:=E) (w₀:=w) hres F'.tr hk'' bs m2 m3 H' X';rcases he with rfl | rfl
   .show LeavesInM _ _ _ _ _ _ a'.defers _ _;rw [m1];exact this
   .show LeavesInM _ _ _ _ _ _ a'.defers _ _;rw [m1];exact this
  exact uJ (rd:=none) hC (hD _ _ _) hloc b FA0 H hk' (hend .normal (.inl rfl)) (λid tv' h' nx' E' a' w' _ _ _ hk''=>by cases hk'') (hend .ret (.inr rfl))
theorem cL {id:Pa} {b m:Nat} {K:Kw β} {j:Jump} {v:Bool} {jump:Option Code} (hj:jOk j jump) (hv:jump.isNone=v) {E E₀:Env} {w w₀:World} {tm:T AV} (H:HR P B E h nx w) (hE:E id=some (b,m)) (X:Ex E₀ E w₀ w)
  (hk:dQ id K j v tm h nx=.ok r):∃ u w',(Instr.endRound b jump).run P w=.ok u w'/\CR P B E₀ w₀ K r (.returned u) w':=by
 unfold dQ at hk;obtain ⟨st,j1,tm1,ps1,x,y,hb,hk⟩:=p9 hk;rw [T.jo] at hk;have hno:T.get .no id h≠.no:=by rw [hb];intro e;cases e
 obtain ⟨b',m',o,e1,e2,e3⟩:=H.blk id hno;rw [hE] at e1;obtain ⟨rfl,rfl⟩:b=b'/\m=m':=by cases e1;exact ⟨rfl,rfl⟩
 rw [hb] at e3;obtain ⟨L,loc1,N1,rfl,s1,s2,s3,s4,s5,s6,s7,s8⟩:=e3;refine ⟨_,_,run_endRound jump e2,.bool v,_,nx,E,hk,by rw [hv];exact u4,?_,X.trans (Ex.put hE e2 (λL' hL'=>by cases hL';exact ⟨_,rfl,⟨rfl,rfl,rfl,rfl,rfl⟩⟩))⟩;refine H.put hno hE ⟨_,loc1,N1,rfl,?_,hj,s3,s4,s5,s6,s7,s8⟩;rw [hv];cases v <;> rfl
theorem zcw (hC:COk P B C) (hD:∀ loc N rd,zfa P B loc N rd C) {fuel:Nat} {id:Pa} {b m:Nat} {args:List AV} {vs:Array Value} {K:Kw β} (H:HR P B E h nx w) (hE:E id=some (b,m)) (hv:VRL E args vs.toList)
  (hk:ze3 fuel C id args h nx K=.ok r) :
  ∃ L:Loop,w.heap[b]? = some (.loop L)/\vs.size=L.params.size/\∀ n,RoundIn Fence.wide n P b L.fn (bX L.params vs L.tmps) L.assign L.body w (CR P B E w K r):=by
 unfold ze3 at hk;obtain ⟨st,j,tm,ps,x,y,hb,hk1⟩:=p9 hk
 clear hk
 have hno:T.get .no id h≠.no:=by rw [hb];intro e;cases e
 obtain ⟨b',m',o,e1,e2,e3⟩:=H.blk id hno;rw [hE] at e1;obtain ⟨rfl,rfl⟩:b=b'/\m=m':=by cases e1;exact ⟨rfl,rfl⟩
 rw [hb] at e3;obtain ⟨L,loc,N,rfl,s1,s2,s3,s4,s5,s6,s7,s8⟩:=e3;subst s4;obtain ⟨tv',hk2,hlen,ht,hsz⟩:=za3 s6 s3 s5 hv hk1;have hbind:bX L.params vs L.tmps=(L.params.toList.zip vs.toList).foldl (λtmps (t,a)=>tmps.setIfInBounds t a) L.tmps:=by
  unfold bX;rw [<- Array.foldl_toList,Array.toList_zip]
 refine ⟨L,e2,by simpa using hlen,λn=>roundIn_of_wpIn trivial ?_⟩;rw [<- hbind] at ht hsz;rw [<- s7] at hk2
 have FA0:FA E loc L.tmps.size w.heap.size (some b) tv' { tmps:=bX L.params vs L.tmps,defers:=[] } w :=
  ⟨ht,hsz,⟨[],rfl,List.nodup_nil,by simp⟩,λl hl=>(by cases hl;exact ⟨L,e2⟩),Zaf _⟩
 refine uJ (rd:=some b) (Q:=Exit.then _ _) hC (hD _ _ _) s5 L.assign FA0 H hk2 ?_ (λid tv' h' nx' E' a' w' _ _ _ hk''=>by cases hk'') (λtv' h' nx' E' a' w' _ _ _ hk''=>by cases hk'');intro tv1 h1 nx1 E1 a1 w1 F1 H1 X1 hk3;obtain ⟨st1,j1,tm1,ps1,x1,y1,hb1,hk4⟩:=p9 hk3;have hno1:T.get .no id h1≠.no:=by rw [hb1];intro e;cases e
 obtain ⟨b',m',o,f1,f2,f3⟩:=H1.blk id hno1;have f4:=X1.le.nm id _ hE;rw [f4] at f1;obtain ⟨rfl,rfl⟩:b=b'/\m=m':=by cases f1;exact ⟨rfl,rfl⟩
 rw [hb1] at f3;obtain ⟨L1,loc1,N1,rfl,t1,t2,t3,t4,t5,t6,t7,t8⟩:=f3;cases st1 with
 | busy=>cases hk4
 | done=>cases hk4
 | ready =>
  simp only [T.jo] at hk4;have H2:=H1.put hno1 f4 (o':=.loop { L1 with state:=.busy }) (x:=.loop .busy j1 tm1 ps1 x1 y1) ⟨_,loc1,N1,rfl,rfl,t2,t3,t4,t5,t6,t7,t8⟩;have X2:Ex E1 E1 w1 (w1.putObj b (.loop { L1 with state:=.busy })):=Ex.put f4 f2 (λL' hL'=>by cases hL';exact ⟨_,rfl,⟨rfl,rfl,rfl,rfl,rfl⟩⟩);refine ⟨_,run_beginRound f2 t1,?_⟩;rw [<- s8] at hk4;have F2:=F1.next X2 F1.tr F1.size rfl;refine uJ (rd:=some b) hC (hD _ _ _) s5 L.body F2 H2 hk4 ?_ (λi => ?_) ?_
  .intro tv3 h3 nx3 E3 a3 w3 F3 H3 X3 hk5;exact cL (tm:=tv3) (j:=.none) (jump:=none) rfl rfl H3 (X3.le.nm _ _ f4) ((X1.trans X2).trans X3) hk5
  .intro tv3 h3 nx3 E3 a3 w3 F3 H3 X3 hk5;exact cL (tm:=tv3) (j:=.exit i) (jump:=some (.exit i)) rfl rfl H3 (X3.le.nm _ _ f4) ((X1.trans X2).trans X3) hk5
  .intro tv3 h3 nx3 E3 a3 w3 F3 H3 X3 hk5;exact cL (tm:=tv3) (j:=.ret) (jump:=some .ret) rfl rfl H3 (X3.le.nm _ _ f4) ((X1.trans X2).trans X3) hk5
def cE (P:Program) (B:Nat) (β:Type):Prop:=∀ {C:Calls β},COk P B C->∀ loc N rd,zfa P B loc N rd C
end
end Go.Ev
namespace Go.Ev
open Go
section
variable {P:Program} {loc st loc' st':List Nat}
theorem kD:∀ {l:List Operand},(∀ x∈l,zx loc' st' x=zx loc st x)->l.mapM (zx loc' st')=l.mapM (zx loc st)
 | [],_=>rfl
 | x::l,h=>by
  rw [Zcb,Zcb,h x (Zai ..),kD λy hy=>h y (Zam _ hy)]
theorem vV {place:Nat->Option (Nat×Nat)}:∀ {l:List (Nat×Operand)},(∀ x∈l,zx loc' st' x.2=zx loc st x.2)->gX loc' st' place l=gX loc st place l
 | [],_=>rfl
 | x::l,h=>by
  have ih:=vV (place:=place) (l:=l) λy hy=>h y (Zam _ hy);unfold gX at ih ⊢;rw [Zcb,Zcb,ih];simp only [h x (Zai ..)]
theorem mV {x:Option Operand} (h:∀ y∈x.toArray,zx loc' st' y=zx loc st y):tL loc' st' x=tL loc st x:=by
 cases x with
 | none=>rfl
 | some x=>simp only [tL];rw [h x (by simp)]
theorem pF {l:Array Operand} (h:∀ x∈l,zx loc' st' x=zx loc st x):xF loc' st' l=xF loc st l:=kD (by simpa using h)
theorem zm6 (o:Op) (h:∀ x∈o.operands,zx loc' st' x=zx loc st x):poA P loc' st' o=poA P loc st o:=by
 cases o
 case move x=>simp only [poA,h x (by simp [Op.operands])]
 case assign x=>simp only [poA,h x (by simp [Op.operands])]
 case pick c a b=>simp only [poA,h c (by simp [Op.operands]),h a (by simp [Op.operands]),h b (by simp [Op.operands])]
 case build t ps =>
  have hp:∀ place,gX loc' st' place ps.toList=gX loc st place ps.toList:=λplace=>vV λx hx=>h x.2 (by simp [Op.operands];exact ⟨_,by simpa using hx⟩);simp only [poA,hp]
 case field t x i=>simp only [poA,h x (by simp [Op.operands])]
 case extract x i=>simp only [poA,h x (by simp [Op.operands])]
 case binOp op t x y _=>simp only [poA,h x (by simp [Op.operands]),h y (by simp [Op.operands])]
 case unOp op _ x=>simp only [poA,h x (by simp [Op.operands])]
 case convert s d x=>simp only [poA,h x (by simp [Op.operands])]
 case load t x=>simp only [poA,h x (by simp [Op.operands])]
 case entry x=>simp only [poA,h x (by simp [Op.operands])]
 case makeFunc f first cap =>
  have hc:xF loc' st' cap=xF loc st cap:=pF λx hx=>h x (by simp [Op.operands,hx]);have hf:xF loc' st' first=xF loc st first:=pF λx hx=>h x (by simp [Op.operands,hx])
  cases f <;> simp only [poA,hc,hf]
 case slice t x lo hi mx =>
  have h1:tL loc' st' lo=tL loc st lo:=mV λy hy=>h y (by simp only [Op.operands,Array.mem_append];exact .inl (.inl (.inr hy)));have h2:tL loc' st' hi=tL loc st hi:=mV λy hy=>h y (by simp only [Op.operands,Array.mem_append];exact .inl (.inr hy));have h3:tL loc' st' mx=tL loc st mx:=mV λy hy=>h y (by simp only [Op.operands,Array.mem_append];exact .inr hy);simp only [poA,h x (by simp [Op.operands]),h1,h2,h3]
 case fieldAddr t x i=>simp only [poA,h x (by simp [Op.operands])]
 case indexAddr t x i=>simp only [poA,h x (by simp [Op.operands]),h i (by simp [Op.operands])]
 case index t x i=>simp only [poA,h x (by simp [Op.operands]),h i (by simp [Op.operands])]
 case lookup t m k ok=>simp only [poA,h m (by simp [Op.operands]),h k (by simp [Op.operands])]
 case call c =>
  obtain ⟨callee,args,ts⟩:=c;have ha:∀ x∈args,zx loc' st' x=zx loc st x:=λx hx=>h x (by simp [Op.operands,Call.operands,hx]);have hl:∀ x∈args.toList,zx loc' st' x=zx loc st x:=λx hx=>ha x (by simpa using hx);cases callee <;> simp only [poA]
  rename_i b
  generalize args.toList=l at hl
  match l,hl with
  | [],_=>cases b <;> rfl
  | [x],hl=>cases b <;> first | rfl | simp only [hl x (by simp),kD (l:=[]) (loc:=loc) (st:=st) (loc':=loc') (st':=st') (by simp)]
  | x::y::l,hl=>cases b <;> first | rfl | simp only [hl x (by simp),kD (l:=y::l) (loc:=loc) (st:=st) (loc':=loc') (st':=st') (λz hz=>hl z (Zam _ hz))]
 all_goals rfl
theorem cH (o:Op) (h:∀ x∈o.operands,zx loc' st' x=zx loc st x):woA P loc' st' o=woA P loc st o:=by
 cases o
 case box t x=>simp only [woA,h x (by simp [Op.operands])]
 case range t x=>simp only [woA,h x (by simp [Op.operands])]
 case next x s=>simp only [woA,h x (by simp [Op.operands])]
 case buildSlice t n ps =>
  have hp:∀ place,gX loc' st' place ps.toList=gX loc st place ps.toList:=λplace=>vV λx hx=>h x.2 (by simp [Op.operands];exact ⟨_,by simpa using hx⟩);simp only [woA,hp]
 case store t x y=>simp only [woA,h x (by simp [Op.operands]),h y (by simp [Op.operands])]
 case makeMap t x=>cases x <;> simp only [woA]
 case makeSlice t l c=>simp only [woA,h l (by simp [Op.operands]),h c (by simp [Op.operands])]
 case mapUpdate t m k x=>simp only [woA,h m (by simp [Op.operands]),h k (by simp [Op.operands]),h x (by simp [Op.operands])]
 case insert t m k x=>simp only [woA,h m (by simp [Op.operands]),h k (by simp [Op.operands]),h x (by simp [Op.operands])]
 case call c =>
  obtain ⟨callee,args,ts⟩:=c;have ha:∀ x∈args,zx loc' st' x=zx loc st x:=λx hx=>h x (by simp [Op.operands,Call.operands,hx]);have hl:∀ x∈args.toList,zx loc' st' x=zx loc st x:=λx hx=>ha x (by simpa using hx);cases callee
  case value f=>simp only [woA,h f (by simp [Op.operands,Call.operands]),pF ha]
  case builtin b =>
   simp only [woA]
   generalize args.toList=l at hl
   match l,hl with
   | [],_=>cases b <;> rfl
   | [x],hl=>cases b <;> first | rfl | simp only [hl x (by simp)]
   | [x,y],hl=>cases b <;> first | rfl | simp only [hl x (by simp),hl y (by simp)]
   | x::y::z::l,hl=>cases b <;> rfl
  all_goals simp only [woA]
 all_goals rfl
end
end Go.Ev
namespace Go.Ev
open Go
section
variable {β:Type}
def Hon (f:(AV->Out β)->Out β):Prop:=(∃ v,∀ K,f K=K v)\/(∃ n,∀ K,f K=.no n)
theorem Hon.val (v:AV):Hon (β:=β) λK=>K v:=.inl ⟨v,λ_=>rfl⟩
theorem Hon.no (n:Nat):Hon (β:=β) λ_=>.no n:=.inr ⟨n,λ_=>rfl⟩
theorem Hon.of_eq {f g:(AV->Out β)->Out β} (h:Hon g) (e:∀ K,f K=g K):Hon f:=by
 have:f=g:=funext e;rw [this];exact h
theorem Hon.ite {c:Bool} {f g:(AV->Out β)->Out β} (hf:Hon f) (hg:Hon g):Hon λK=>bif c then f K else g K:=by cases c <;> assumption
theorem Hon.dw {n:Nat} {f:Nat->(AV->Out β)->Out β} (h:∀ n,Hon (f n)):Hon λK=>dw n λn=>f n K:=(h n).of_eq λK=>y4 _ _
theorem Hon.wu {n:Int} {f:Int->(AV->Out β)->Out β} (h:∀ n,Hon (f n)):Hon λK=>wu n λn=>f n K:=(h n).of_eq λK=>uE _ _
theorem Hon.asBool {v:AV} {f:Bool->(AV->Out β)->Out β} {g:(AV->Out β)->Out β} (h:∀ b,Hon (f b)) (hg:Hon g):Hon λK=>asBool v (λb=>f b K) (g K):=by
 cases v <;> first | exact h _ | exact hg
theorem Hon.asInt {v:AV} {f:IntKind->Int->(AV->Out β)->Out β} {g:(AV->Out β)->Out β} (h:∀ a b,Hon (f a b)) (hg:Hon g):Hon λK=>asInt v (λa b=>f a b K) (g K):=by
 cases v <;> first | exact h _ _ | exact hg
theorem Hon.tH {v:AV} {f:List UInt8->(AV->Out β)->Out β} {g:(AV->Out β)->Out β} (h:∀ a,Hon (f a)) (hg:Hon g):Hon λK=>tH v (λa=>f a K) (g K):=by
 cases v <;> first | exact h _ | exact hg
theorem Hon.rZ {v:AV} {f:Pa->Nat->(AV->Out β)->Out β} {f2:List AV->(AV->Out β)->Out β} {g:(AV->Out β)->Out β} (h:∀ a b,Hon (f a b)) (h2:∀ l,Hon (f2 l)) (hg:Hon g):Hon λK=>rZ v (λa b=>f a b K) (λl=>f2 l K) (g K):=by
 cases v <;> first | exact h _ _ | exact h2 _ | exact hg
theorem Hon.asAgg {v:AV} {f:List AV->(AV->Out β)->Out β} {g:(AV->Out β)->Out β} (h:∀ a,Hon (f a)) (hg:Hon g):Hon λK=>asAgg v (λa=>f a K) (g K):=by
 cases v <;> first | exact h _ | exact hg
theorem Hon.zgu {v:AV} {f:List AV->(AV->Out β)->Out β} {g:(AV->Out β)->Out β} (h:∀ a,Hon (f a)) (hg:Hon g):Hon λK=>zgu v (λa=>f a K) (g K):=by
 cases v <;> first | exact h _ | exact hg
theorem Hon.aJ {v:AV} {f:Pa->(AV->Out β)->Out β} {f2 g:(AV->Out β)->Out β} (h:∀ a,Hon (f a)) (h2:Hon f2) (hg:Hon g):Hon λK=>aJ v (λa=>f a K) (f2 K) (g K):=by
 cases v <;> first | exact h _ | exact h2 | exact hg
theorem Hon.asFn {v:AV} {f:Nat->Pa->List AV->(AV->Out β)->Out β} {f2:Pa->(AV->Out β)->Out β} {g:(AV->Out β)->Out β} (h:∀ a b c,Hon (f a b c)) (h2:∀ a,Hon (f2 a)) (hg:Hon g) :
  Hon λK=>asFn v (λa b c=>f a b c K) (λa=>f2 a K) (g K):=by
 cases v <;> first | exact h _ _ _ | exact h2 _ | exact hg
theorem Hon.asBm {v:AV} {f:Nat->Pa->List AV->(AV->Out β)->Out β} {g:(AV->Out β)->Out β} (h:∀ a b c,Hon (f a b c)) (hg:Hon g) :
  Hon λK=>asBm v (λa b c=>f a b c K) (g K):=by
 cases v <;> first | exact h _ _ _ | exact hg
theorem Hon.ai {v:AV} {f:Pa->Nat->Nat->Option Nat->Nat->(AV->Out β)->Out β} {f1 f2:(AV->Out β)->Out β} {f3:List UInt8->(AV->Out β)->Out β} {f4:Nat->Nat->List AV->(AV->Out β)->Out β} {g:(AV->Out β)->Out β} (h:∀ a b c d e,Hon (f a b c d e)) (h1:Hon f1) (h2:Hon f2) (h3:∀ a,Hon (f3 a)) (h4:∀ a b c,Hon (f4 a b c)) (hg:Hon g) :
  Hon λK=>ai v (λa b c d e=>f a b c d e K) (f1 K) (f2 K) (λa=>f3 a K) (λa b c=>f4 a b c K) (g K):=by
 cases v <;> first | exact h _ _ _ _ _ | exact h1 | exact h2 | exact h3 _ | exact h4 _ _ _ | exact hg
theorem Hon.qb {b:Blk} {f:Bool->Nat->T AV->(AV->Out β)->Out β} {g:(AV->Out β)->Out β} (h:∀ a b c,Hon (f a b c)) (hg:Hon g):Hon λK=>qb b (λa b c=>f a b c K) (g K):=by
 cases b <;> first | exact h _ _ _ | exact hg
theorem Hon.aK {b:Blk} {f:Pa->Nat->List Nat->Nat->(AV->Out β)->Out β} {g:(AV->Out β)->Out β} (h:∀ a b c d,Hon (f a b c d)) (hg:Hon g):Hon λK=>aK b (λa b c d=>f a b c d K) (g K):=by
 cases b <;> first | exact h _ _ _ _ | exact hg
theorem Hon.ni {b:Blk} {f:Nat->List (AV×AV)->(AV->Out β)->Out β} {g:(AV->Out β)->Out β} (h:∀ a b,Hon (f a b)) (hg:Hon g):Hon λK=>ni b (λa b=>f a b K) (g K):=by
 cases b <;> first | exact h _ _ | exact hg
theorem pZ (op:BinOp) (b:Bool):Hon (β:=β) λK=>bQ op b K:=by
 unfold bQ;cases isEq op with
 | none=>exact .no _
 | some t=>cases t <;> exact .val _
theorem zjt (op:BinOp) (k:IntKind) (a b:Int):Hon (β:=β) λK=>zjc op k a b (.no 5) K:=by
 cases op
 case add=>exact (Hon.wu λ_=>.val _)
 case sub=>exact (Hon.wu λ_=>.val _)
 case mul=>exact (Hon.wu λ_=>.val _)
 case quo=>exact (Hon.ite (.no _) (Hon.wu λ_=>.val _))
 case rem=>exact (Hon.ite (.no _) (Hon.wu λ_=>.val _))
 case and=>exact (Hon.wu λ_=>.val _)
 case or=>exact (Hon.wu λ_=>.val _)
 case xor=>exact (Hon.wu λ_=>.val _)
 case andNot=>exact (Hon.wu λ_=>.val _)
 case shl=>exact (Hon.ite (.no _) (Hon.wu λ_=>.val _))
 case shr=>exact (Hon.ite (.no _) (Hon.wu λ_=>.val _))
 all_goals exact .val _
theorem zum (c:Cls) (op:BinOp) (x y:AV):Hon (β:=β) λK=>zpm c op x y K:=by
 cases c
 case int=>exact Hon.asInt (λ_ _=>Hon.asInt (λ_ _=>Hon.ite (zjt _ _ _ _) (.no _)) (.no _)) (.no _)
 case str =>
  refine Hon.tH (λa=>Hon.tH (λb => ?_) (.no _)) (.no _);cases op
  case add=>exact Hon.ite (.val _) (.no _)
  all_goals exact pZ _ _
 case bool=>exact Hon.asBool (λ_=>Hon.asBool (λ_=>pZ _ _) (.no _)) (.no _)
 case nil k =>
  show Hon λK=>zpk k op x y K;unfold zpk;cases uY k x with
  | none=>exact .no _
  | some b=>cases uY k y with
   | none=>exact .no _
   | some t=>cases t <;> first | exact .no _ | exact pZ _ _
 case agg n =>
  show Hon λK=>zpl n op x y K;unfold zpl;refine Hon.asAgg (λa=>Hon.asAgg (λb=>Hon.ite ?_ (.no _)) (.no _)) (.no _);cases kY a b <;> first | exact .no _ | exact pZ _ _
theorem za5 (id:Pa) (off ln cap esz:Nat) (lo hi mx:Option AV):Hon (β:=β) λK=>mM id off ln cap esz lo hi mx K:=by
 unfold mM;refine Hon.ite (.no _) ?_;cases bnd mx cap cap with
 | none=>exact .no _
 | some m=>dsimp only;cases bnd hi m ln with
  | none=>exact .no _
  | some h=>dsimp only;cases bnd lo h 0 with
   | none=>exact .no _
   | some l=>exact Hon.ite (.val _) (Hon.dw λ_=>Hon.dw λ_=>Hon.dw λ_=>.val _)
theorem zju (id:Pa) (off ln esz:Nat) (lo hi mx:Option AV):Hon (β:=β) λK=>zaq id off ln esz lo hi mx K:=by
 unfold zaq;cases mx with
 | none=>dsimp only;cases bnd hi ln ln with
  | none=>exact .no _
  | some h=>dsimp only;cases bnd lo h 0 with
   | none=>exact .no _
   | some l=>exact Hon.ite (.val _) (Hon.ite (Hon.dw λ_=>Hon.dw λ_=>.val _) (.val _))
 | some mv =>
  refine Hon.ite (.no _) ?_;cases kJ mv ln with
  | none=>exact .no _
  | some m=>dsimp only;cases bnd hi m 0 with
   | none=>exact .no _
   | some h=>dsimp only;cases bnd lo h 0 with
    | none=>exact .no _
    | some l=>exact Hon.ite (.no _) (Hon.dw λ_=>Hon.dw λ_=>Hon.dw λ_=>.val _)
theorem zm7 (esz:Nat) (x:AV) (lo hi mx:Option AV):Hon (β:=β) λK=>zar esz x lo hi mx K:=by
 unfold zar;refine Hon.ai (λ_ _ _ cap _=>Hon.ite ?_ (.no _)) ?_ (.no _) (λ_=>.no _) (λ_ n l=>Hon.ite ?_ (.no _)) (.no _)
 .cases cap with
  | none=>exact zju _ _ _ _ _ _ _
  | some c=>exact za5 _ _ _ _ _ _ _ _
 .unfold zey;cases mx with
  | none=>cases bnd hi 0 0 with
   | none=>exact .no _
   | some a=>cases bnd lo 0 0 with
    | none=>exact .no _
    | some b=>exact .val _
  | some m=>exact .no _
 .unfold zjd;refine Hon.ite (.no _) ?_;cases bnd mx n n with
  | none=>exact .no _
  | some m=>dsimp only;cases bnd hi m n with
   | none=>exact .no _
   | some a=>dsimp only;cases bnd lo a 0 with
    | none=>exact .no _
    | some b=>exact .val _
theorem zm8 (op:PO) (tm:Tm) (h:T Blk):Hon (β:=β) λK=>op.ev tm h K:=by
 cases op
 case mv x=>exact .val _
 case pick c a b=>exact Hon.asBool (λ_=>.val _) (.no _)
 case build zero ps =>
  show Hon λK=>zez zero ps tm h K;unfold zez;cases gL zero (j8 ps tm) <;> first | exact .no _ | exact .val _
 case part off sz x =>
  show Hon λK=>zje off sz x tm h K;unfold zje;refine Hon.asAgg (λl => ?_) (.no _);cases sz with
  | some n=>exact .val _
  | none=>cases l[off]? <;> first | exact .no _ | exact .val _
 case ext i x =>
  show Hon λK=>zpn i x tm h K;unfold zpn;refine Hon.zgu (λl => ?_) (.no _);cases l[i]? <;> first | exact .no _ | exact .val _
 case bin op c x y=>exact zum _ _ _ _
 case neg x=>exact Hon.asInt (λ_ _=>Hon.wu λ_=>.val _) (.no _)
 case not x=>exact Hon.asBool (λ_=>.val _) (.no _)
 case com x=>exact Hon.asInt (λ_ _=>Hon.wu λ_=>.val _) (.no _)
 case conv k x=>exact Hon.asInt (λ_ _=>Hon.wu λ_=>.val _) (.no _)
 case strs x=>exact Hon.tH (λ_=>.val _) (.no _)
 case load x =>
  show Hon λK=>zas x tm h K;unfold zas;refine Hon.rZ (λ_ _=>Hon.qb (λ_ _ _=>Hon.ite (.val _) (.no _)) (.no _)) (λl => ?_) (.no _);cases l <;> first | exact .no _ | exact .val _
 case zi s x=>exact Hon.rZ (λ_ _=>Hon.qb (λ_ _ _=>Hon.ite (.val _) (.no _)) (.no _)) (λ_=>Hon.ite (.val _) (.no _)) (.no _)
 case nilc x =>
  show Hon λK=>zjf x tm h K;unfold zjf;exact Hon.rZ (λ_ _=>.val _) (λ_=>.val _) (Hon.asFn (λ_ _ _=>.val _) (λ_=>.val _) (Hon.asBm (λ_ _ _=>.val _) (.no _)))
 case zal off x=>exact Hon.rZ (λ_ _=>Hon.dw λ_=>.val _) (λ_=>.val _) (.no _)
 case aB esz x i =>
  show Hon λK=>ze1 esz x i tm h K;unfold ze1;refine Hon.asInt (λ_ j=>Hon.ai (λ_ _ _ _ _ => ?_) (.no _) (.no _) (λ_=>.no _) (λ_ _ _ => ?_) (.no _)) (.no _)
  .cases j with
   | ofNat j=>exact Hon.ite (Hon.dw λ_=>.val _) (.no _)
   | negSucc j=>exact .no _
  .cases j with
   | ofNat j=>exact Hon.ite (.val _) (.no _)
   | negSucc j=>exact .no _
 case zk9 esz n x i =>
  show Hon λK=>ze2 esz n x i tm h K;unfold ze2;refine Hon.asInt (λ_ j=>Hon.rZ (λ_ _ => ?_) (λ_ => ?_) (.no _)) (.no _)
  .cases j with
   | ofNat j=>exact Hon.ite (Hon.dw λ_=>.val _) (.no _)
   | negSucc j=>exact .no _
  .cases j with
   | ofNat j=>exact Hon.ite (.val _) (.no _)
   | negSucc j=>exact .no _
 case idx esz agg n x i =>
  show Hon λK=>zpo esz agg n x i tm h K;unfold zpo;refine Hon.asInt (λ_ j=>Hon.asAgg (λl => ?_) (.no _)) (.no _);cases j with
  | ofNat j =>
   refine Hon.ite ?_ (.no _);cases agg with
   | true=>exact .val _
   | false=>cases hl:l[j*esz]? <;> simp only [hl] <;> first | exact .no _ | exact .val _
  | negSucc j=>exact .no _
 case sidx x i =>
  show Hon λK=>zjg x i tm h K;unfold zjg;refine Hon.asInt (λ_ j=>Hon.tH (λs => ?_) (.no _)) (.no _);cases j with
  | ofNat j=>cases hl:s[j]? <;> simp only [hl] <;> first | exact .no _ | exact Hon.dw λ_=>.val _
  | negSucc j=>exact .no _
 case slice esz x lo hi mx=>exact zm7 _ _ _ _ _
 case zam x lo hi =>
  show Hon λK=>zat x lo hi tm h K;unfold zat;refine Hon.tH (λs => ?_) (.no _);cases bnd (hi.map (Arg.ev · tm)) s.length s.length with
  | none=>exact .no _
  | some h=>dsimp only;cases bnd (lo.map (Arg.ev · tm)) h 0 <;> first | exact .no _ | exact .val _
 case len x=>exact Hon.ai (λ_ _ _ _ _=>.val _) (.val _) (.val _) (λ_=>.no _) (λ_ _ _=>.val _) (.no _)
 case slen x=>exact Hon.tH (λ_=>Hon.dw λ_=>.val _) (.no _)
 case mlen x=>exact Hon.aJ (λ_=>Hon.ni (λ_ _=>Hon.dw λ_=>.val _) (.no _)) (.val _) (.no _)
 case capz x=>exact Hon.ai (λ_ _ _ _ _=>.no _) (.val _) (.no _) (λ_=>.no _) (λ_ _ _=>.no _) (.no _)
 case aslice esz ln x lo hi mx=>exact Hon.rZ (λ_ _=>za5 _ _ _ _ _ _ _ _) (λ_=>.no _) (.no _)
 case look kk zero ok m k =>
  show Hon λK=>zjh kk zero ok m k tm h K;unfold zjh;refine Hon.aJ (λ_=>Hon.ni (λ_ l => ?_) (.no _)) (Hon.ite (.val _) (.no _)) (.no _);cases kQ kk (k.ev tm) l with
  | none=>exact .no _
  | some o=>cases o <;> exact .val _
 case entry x =>
  refine Hon.rZ (λ_ _=>Hon.ite (Hon.aK (λ_ _ seen _=>Hon.ni (λk l => ?_) (.no _)) (.no _)) (.no _)) (λ_=>.no _) (.no _);cases seen with
  | nil=>exact .no _
  | cons i _ =>
   refine Hon.ite ?_ (.no _);cases l[i]? with
   | none=>exact .no _
   | some p=>exact .val _
 case fn f p cap=>exact .val _
 case bm f p cap=>exact .val _
 case b2s x =>
  show Hon λK=>zpq x tm h K;unfold zpq;refine Hon.ai (λ_ off n _ _=>Hon.qb (λ_ _ t=>Hon.ite ?_ (.no _)) (.no _)) (.val _) (.no _) (λ_=>.no _) (λ_ _ _=>.no _) (.no _);cases b2sA (yR t off n) <;> first | exact .no _ | exact .val _
 case zan mx x xs =>
  show Hon λK=>zpr mx x xs tm h K;unfold zpr;cases minA mx (x.ev tm) (xs.map (Arg.ev · tm)) <;> first | exact .no _ | exact .val _
theorem zg8 {op:PO} {tm:Tm} {h:T Blk} {K:AV->Out β} {r:β} (hk:op.ev tm h K=.ok r):∃ v,(∀ K':AV->Out β,op.ev tm h K'=K' v)/\K v=.ok r:=by
 rcases zm8 (β:=β) op tm h with ⟨v,hv⟩ | ⟨n,hn⟩
 .exact ⟨v,hv,by rw [<- hv K];exact hk⟩
 .have:=hn K;simp only at this;rw [this] at hk;cases hk
end
end Go.Ev
