import Derived.Test.YtlfhlkknakiafaaGreatDoorEvC
import Derived.Test.YtlfhlkknakiafaaGreatDoorLaws
import GoSem.Core.Next
import Derived.Test.YtlfhlkknakiafaaGreatDoorEvD
import Derived.Sort.Grow
import Derived.Sort.Row
import Derived.Test.YtlfhlkknakiafaaGreatDoorIrT
import Derived.KernelRfl
import Derived.Test.YtlfhlkknakiafaaGreatDoorCodea
set_option linter.unusedSimpArgs false
set_option linter.unusedVariables false
noncomputable section
namespace Go.Ev
open Go Go.Proofs Go.RowKit
def bA:List AV->Option (List (List UInt8))
 | []=>some []
 | .str s::l=>match bA l with
  | some xs=>some (s::xs)
  | none=>none
 | _=>none
def zxy (l:List AV) (sep:List UInt8):Option AV:=match bA l with
 | some xs=>bif Nat.ble (Lib.join xs sep).length 100000 then some (.str (Lib.join xs sep)) else none
 | none=>none
def zxz (cap:Option Nat) (ln:Nat):Bool:=match cap with
 | some k=>Nat.ble ln k
 | none=>true
def zru (v:AV) (sep:List UInt8) (h:T Blk):Option AV:=match v with
 | .sl id off ln cap esz=>match T.get .no id h with
  | .cells _ m t=>bif Nat.beq esz 1&&Nat.ble (off+ln) m&&Nat.ble ln 100000&&zxz cap ln then zxy (yL t off ln) sep else none
  | _=>none
 | .zn=>some (.str [])
 | _=>none
def zrv (f:Nat) (args:List AV) (h:T Blk):Option (AV×T Blk):=bif Nat.beq f 320 then (match args with
 | [v,.str sep]=>match zru v sep h with
  | some v=>some (v,h)
  | none=>none
 | _=>none) else none
theorem zgg:∀ {l:List AV} {xs:List (List UInt8)},bA l=some xs->l=xs.map .str
 | [],xs,h=>by simp [bA] at h;subst h;rfl
 | x::l,xs,h=>by
  cases x <;> first | (simp [bA] at h;done) | skip
  simp only [bA] at h;cases hl:bA l with
  | none=>simp [hl] at h
  | some ys=>simp [hl] at h;subst h;simp [zgg hl]
theorem HR.below {P:Program} {B:Nat} {E:Env} {h:T Blk} {nx:Pa} {w w':World} (H:HR P B E h nx w) (hb:Below w.heap.size w w'):HR P B E h nx w'/\Ex E E w w':=by
 refine ⟨{
  blk:=fun id hid=>by
   obtain ⟨b,n,o,q1,q2,q3⟩:=H.blk id hid;exact ⟨b,n,o,q1,by rw [hb.block b (H.lt _ _ _ q1).2];exact q2,q3⟩
  inj:=H.inj
  fresh:=H.fresh
  lt:=fun id b n hid=>⟨(H.lt id b n hid).1,Zcx (H.lt id b n hid).2 hb.size⟩
  base:=Zbi H.base hb.size
  frz:=fun b i v hf=>by
   obtain ⟨⟨c,ty,fr,q1,q2⟩,q3⟩:=H.frz b i v hf;exact ⟨⟨c,ty,fr,by rw [hb.block b (Array.getElem?_eq_some_iff.1 q1).1];exact q1,q2⟩,q3⟩ },?_⟩
 exact ⟨.refl _,hb.os,hb.tape,hb.output,hb.size,fun b hlt _=>hb.block b hlt,fun id b n hid=>.inr ⟨id,n,hid⟩,fun _ _ v h=>.inr (.inl ⟨v,h⟩),fun b L hL=>⟨L,by rw [hb.block b (Array.getElem?_eq_some_iff.1 hL).1];exact hL,.refl _⟩⟩
theorem zrx {B:Nat}:JOk Tryz.prog B zrv:=by
 intro E h nx w f args vs v h2 H hv hj;unfold zrv at hj;cases hf:Nat.beq f 320 with
 | false=>simp [hf] at hj
 | true =>
  obtain rfl:=yE hf;rw [hf,cond_true] at hj;split at hj
  case h_2=>cases hj
  rename_i _ x sep;cases hjj:zru x sep h with
  | none=>simp [hjj] at hj
  | some v0 =>
  simp only [hjj,Option.some.injEq,Prod.mk.injEq] at hj;obtain ⟨rfl,rfl⟩:=hj;have hj:=hjj
  clear hjj
  refine ⟨(),trivial,trivial,trivial,fun n=>.inl ⟨_,Tryz.func320,by kernel_rfl,by kernel_rfl,callsIn_wide.2 ?_⟩⟩;obtain ⟨l⟩:=vs;simp only [VRL] at hv;obtain ⟨u,_,rfl,hu,s,_,rfl,hs,rfl⟩:=hv;simp only [VR] at hs;subst hs
  have fin:∀ (xs:List (List UInt8)) (w':World) (e:Ending),v0=.str (Lib.join xs sep)->e=.returned (.string ⟨(Lib.join ((xs.map fun s=>(⟨s.toArray⟩:ByteArray)).map (·.data.toList)) (⟨sep.toArray⟩:ByteArray).data.toList).toArray⟩)->Below w.heap.size w w' ->
    ∃ u E',e=.returned u/\VR E' v0 u/\HR Tryz.prog B E' h nx w'/\Ex E E' w w':=by
   intro xs w' e hve he hb;obtain ⟨h1,h2⟩:=H.below hb;refine ⟨_,E,he,?_,h1,h2⟩;rw [hve];simp only [VR,List.map_map]
   congr 2
   have:(xs.map ((fun x=>x.data.toList) ∘ fun s=>(⟨s.toArray⟩:ByteArray)))=xs:=by
    conv=>rhs;rw [<- List.map_id xs]
    exact List.map_congr_left fun _ _=>rfl
   rw [this]
  unfold zru at hj;split at hj
  ·rename_i id off ln cap esz;split at hj
   ·rename_i op m t hb;cases hq:(Nat.beq esz 1&&Nat.ble (off+ln) m&&Nat.ble ln 100000&&zxz cap ln) with
    | false=>simp [hq] at hj
    | true =>
     rw [hq,cond_true] at hj;simp only [Zah] at hq;obtain ⟨⟨⟨q1,q2⟩,q3⟩,q4⟩:=hq;obtain rfl:=yE q1;have q2:=yA q2;have q3:=yA q3;unfold zxy at hj;cases hx:bA (yL t off ln) with
     | none=>simp [hx] at hj
     | some xs =>
      simp only [hx] at hj;cases hl:Nat.ble (Lib.join xs sep).length 100000 with
      | false=>simp [hl] at hj
      | true =>
       rw [hl,cond_true] at hj;have hl:=yA hl;obtain rfl:=(Option.some.inj hj).symm;have hxs:=zgg hx;have hln:xs.length=ln:=by
        have:=congrArg List.length hxs;simpa using this.symm
       obtain ⟨b,n,c,hE,rfl,hcap⟩:=hu.rM;obtain ⟨b',n',o,h1,h2,h3⟩:=H.blk id (by rw [hb];intro e;cases e);rw [hE] at h1;cases h1;rw [hb] at h3;obtain ⟨cs,ty,fr,rfl,_,_,_,_,hc⟩:=h3
       have hjn:=Tryz.strings_Join b off c (xs.map fun s=>(⟨s.toArray⟩:ByteArray)) ⟨sep.toArray⟩ w (by
        intro j x hx2;rw [List.getElem?_map] at hx2;cases hxj:xs[j]? with
        | none=>simp [hxj] at hx2
        | some s =>
         simp [hxj] at hx2;subst hx2;have hjl:j<ln:=by rw [<- hln];exact (List.getElem?_eq_some_iff.1 hxj).1
         obtain ⟨_,v',g1,g2⟩:=hc (off+j) (by omega);have he:T.get .u (.of (off+j)) t=.str s:=by
          have e1:=yK t off ln j hjl;rw [hxs] at e1;simp [hxj] at e1;exact e1.symm
         rw [he] at g2;simp only [VR] at g2;subst g2
         simp [World.cell?,h2,g1]) (H.lt _ _ _ hE).2 (by simp;omega) (by
          simp only [Zaz,hln];cases cap with
          | none=>exact hcap.1
          | some k =>
           have h4:ln<=k:=yA q4;have h5:c=k:=hcap;omega) (by
          have:((xs.map fun s=>(⟨s.toArray⟩:ByteArray)).map (·.data.toList))=xs:=by
           rw [List.map_map]
           conv=>rhs;rw [<- List.map_id xs]
           exact List.map_congr_left fun _ _=>rfl
          rw [this];show (Lib.join xs sep).length<=_;omega)
       rw [Zaz,hln] at hjn;exact hjn.mono fun e w' ⟨he,hb⟩=>fin xs w' e rfl he hb
   ·cases hj
  ·obtain rfl:=(Option.some.inj hj).symm;simp only [VR] at hu;subst hu;exact (Tryz.strings_Join_none none 0 _ w).mono fun e w' ⟨he,hb⟩=>fin [] w' e rfl he (hb ▸ Below.refl _ _)
  ·cases hj
end Go.Ev
namespace Go.Ev
abbrev srt (l:List Int):List Int:=l.mergeSort fun x y=>decide (x<=y)
theorem zbx {l l':List Int} (hp:l'.Perm l) (hs:l'.Pairwise (· <= ·)):l'=srt l:=by
 refine (hp.trans (List.mergeSort_perm l _).symm).eq_of_pairwise (le:=(· <= ·)) ?_ hs ?_
 ·intro a b _ _ h1 h2;omega
 ·have:=List.pairwise_mergeSort (le:=fun x y:Int=>decide (x<=y)) (by intro a b c;simp;omega) (by intro a b;simp;omega) l;exact this.imp (by intro a b h;simpa using h)
theorem pL (l:List Int):(srt l).Perm l:=List.mergeSort_perm l _
structure Ins (l out:List Int) (i k:Nat):Prop where
 perm:out.Perm l
 ex:∃ (A:List Int) (x:Int) (B R:List Int),out=A++x::(B++R)/\A.length=k/\A.length+B.length=i/\(A++B).Pairwise (· <= ·)/\∀ b∈B,x<b
theorem Ins.swap {l out:List Int} {i k:Nat} (H:Ins l out i (k+1)) {a x:Int} (ha:out[k]? = some a) (hx:out[k+1]? = some x) (hlt:x<a):Ins l ((out.set (k+1) a).set k x) i k:=by
 obtain ⟨hp,A,x',B,R,rfl,hA,hi,hs,hb⟩:=H;obtain ⟨A,a',rfl⟩:∃ A' a',A=A'++[a']:=⟨A.dropLast,A.getLast (by intro q;rw [q] at hA;simp at hA),(List.dropLast_concat_getLast _).symm⟩;have hA':A.length=k:=by simpa using hA
 have e1:a'=a:=by
  rw [Zbk,List.getElem?_append_right (by omega),hA',Zdq] at ha;simpa using ha
 have e2:x'=x:=by
  rw [List.getElem?_append_right (by simp;omega)] at hx;simp [hA'] at hx;exact hx
 subst e1 e2;have e3:((A++[a']++x'::(B++R)).set (k+1) a').set k x'=A++x'::((a'::B)++R):=by
  have h1:(A++[a']++x'::(B++R)).set (k+1) a'=A++a'::a'::(B++R):=by
   rw [Zbk,Zel _ _ (by omega),hA',show k+1-k=1 by omega];rfl
  rw [h1,Zel _ _ (by omega),hA',Zdq];rfl
 rw [e3];refine ⟨List.Perm.trans ?_ hp,A,x',a'::B,R,rfl,hA',by simp at hi ⊢;omega,by simpa [Zbk] using hs,?_⟩
 ·rw [Zbk];refine List.Perm.append_left A ?_;exact List.Perm.swap _ _ _
 ·intro b hb';rcases List.mem_cons.1 hb' with rfl | q
  ·exact hlt
  ·exact hb b q
theorem Ins.done {l out:List Int} {i k:Nat} (H:Ins l out i k) (h:k=0\/∃ j a x,k=j+1/\out[j]? = some a/\out[k]? = some x/\¬ x<a):out.Perm l/\(out.take (i+1)).Pairwise (· <= ·):=by
 obtain ⟨hp,A,x,B,R,rfl,hA,hi,hs,hb⟩:=H;refine ⟨hp,?_⟩;have e:(A++x::(B++R)).take (i+1)=A++x::B:=by
  rw [show A++x::(B++R)=(A++x::B)++R by simp];exact List.take_left' (by simp;omega)
 rw [e];have hs':=List.pairwise_append.1 hs;refine List.pairwise_append.2 ⟨hs'.1,List.pairwise_cons.2 ⟨fun b hb'=>by have:=hb b hb';omega,hs'.2.1⟩,?_⟩;have key:∀ a∈A,a<=x:=by
  rcases h with rfl | ⟨j,a0,x0,rfl,h1,h2,h3⟩
  ·obtain rfl:A=[]:=Zbu hA;simp
  ·obtain ⟨A,a',rfl⟩:∃ A' a',A=A'++[a']:=⟨A.dropLast,A.getLast (by intro q;rw [q] at hA;simp at hA),(List.dropLast_concat_getLast _).symm⟩;have hA':A.length=j:=by simpa using hA
   have e1:a'=a0:=by
    rw [Zbk,List.getElem?_append_right (by omega),hA',Zdq] at h1;simpa using h1
   have e2:x=x0:=by
    rw [List.getElem?_append_right (by simp;omega)] at h2;simp [hA'] at h2;exact h2
   subst e1 e2;intro a ha;rcases List.mem_append.1 ha with q | q
   ·have:=(List.pairwise_append.1 hs'.1).2.2 a q a' (by simp);omega
   ·simp at q;omega
 intro a ha b hb';rcases List.mem_cons.1 hb' with rfl | q
 ·exact key a ha
 ·exact hs'.2.2 a ha b q
def incr (d:List Int) (c:Int):List Int:=d.set c.toNat (d.getD c.toNat 0+1)
@[simp] theorem zx0 (d:List Int) (c:Int):(incr d c).length=d.length:=by simp [incr]
def Bd (d:List Int) (M:Nat):Prop:=∀ v∈d,0<=v/\v<=(M:Int)
theorem Bd.incr {d:List Int} {M:Nat} (h:Bd d M) {c:Int} (hc:c.toNat<d.length):Bd (incr d c) (M+1):=by
 intro v hv;rcases List.mem_or_eq_of_mem_set hv with q | rfl
 ·have:=h v q;omega
 ·rw [Zaa,List.getElem?_eq_getElem hc];have:=h _ (Zbb hc);simp only [Option.getD_some];omega
theorem Bd.mono {d:List Int} {M N:Nat} (h:Bd d M) (hm:M<=N):Bd d N:=fun v hv=>by have:=h v hv;omega
theorem Bd.srt {d:List Int} {M:Nat} (h:Bd d M):Bd (Ev.srt d) M:=fun v hv=>h v ((pL d).mem_iff.1 hv)
@[simp] theorem zis (d:List Int):(Ev.srt d).length=d.length:=(pL d).length_eq
end Go.Ev
namespace Go.Ev
open Go Go.Proofs Go.RowKit Go.Sort
def wF:List AV->Option (List Int)
 | []=>some []
 | .int k n::l=>match k with
  | .i64=>match wF l with
   | some xs=>some (n::xs)
   | none=>none
  | _=>none
 | _=>none
theorem zgh:∀ {l:List AV} {xs:List Int},wF l=some xs->l=xs.map I
 | [],xs,h=>by simp [wF] at h;subst h;rfl
 | x::l,xs,h=>by
  cases x <;> first | (simp [wF] at h;done) | skip
  rename_i k n;cases k <;> first | (simp [wF] at h;done) | skip
  simp only [wF] at h;cases hl:wF l with
  | none=>simp [hl] at h
  | some ys=>simp [hl] at h;subst h;simp [zgh hl]
theorem zmu (l:List Int):wF (l.map I)=some l:=by
 induction l with
 | nil=>rfl
 | cons a l ih=>show (match wF (l.map I) with | some xs=>some (a::xs) | none=>none)=_;rw [ih]
def zby (v:AV) (h:T Blk):Option (T Blk):=match v with
 | .sl id off ln _ esz=>match T.get .no id h with
  | .cells op m t=>bif Nat.beq esz 1&&Nat.ble (off+ln) m&&Nat.ble ln 1000000 then (match wF (yL t off ln) with
   | some l=>some (T.set .no (.cells op m (jJ ((srt l).map I) t off)) id h)
   | none=>none) else none
  | _=>none
 | .zn=>some h
 | _=>none
def pW (f:Nat) (args:List AV) (h:T Blk):Option (AV×T Blk):=bif Nat.beq f 212 then (match args with
 | [v]=>match zby v h with
  | some h=>some (.tup [],h)
  | none=>none
 | _=>none) else none
theorem HR.sorted {P:Program} {B:Nat} {E:Env} {h:T Blk} {nx:Pa} {w:World} (H:HR P B E h nx w) {id:Pa} {op:Bool} {m off b n k:Nat} {t:T AV} {l l':List Int} {os:Array Obj} (hb:T.get .no id h=.cells op m t) (hE:E id=some (b,n))
  (hl':l'.length=l.length) (hm:off+l.length<=m) :
  HR P B E (T.set .no (.cells op m (jJ (l'.map I) t off)) id h) nx (grow (putRow (Value.int .i64) (Sort.ahead w k) b off l'.toArray) os)/\Ex E E w (grow (putRow (Value.int .i64) (Sort.ahead w k) b off l'.toArray) os):=by
 have hid:T.get .no id h≠.no:=by rw [hb];intro e;cases e
 obtain ⟨b',n',o,h1,h2,h3⟩:=H.blk id hid;rw [hE] at h1;cases h1;rw [hb] at h3;obtain ⟨c,ty,fr,rfl,q1,q2,q3,q4,q5⟩:=h3;have hcs:(putCells (Value.int .i64) off l'.toArray c).size=c.size:=by simp [putCells]
 have hbr:BR P E n (.cells op m (jJ (l'.map I) t off)) (.cells (putCells (Value.int .i64) off l'.toArray c) ty fr):=by
  refine ⟨_,ty,fr,rfl,by rw [hcs];exact q1,by rw [hcs];exact q2,q3,q4,fun i hi => ?_⟩;rw [uK];have hic:i<c.size:=by omega
  have hce:(putCells (Value.int .i64) off l'.toArray c)[i]? = some (if off<=i/\i<off+l'.length then Value.int .i64 (l'.toArray[i-off]!) else c[i]):=by
   simp [putCells,Array.getElem?_eq_getElem hic]
  rw [Zaz];by_cases hr:off<=i/\i<off+l'.length
  ·rw [if_pos hr];rw [if_pos hr] at hce;have hj:i-off<l'.length:=by omega
   have e1:(l'.map I).getD (i-off) .u=I l'[i-off]:=by
    rw [Zaa,List.getElem?_map,List.getElem?_eq_getElem hj];rfl
   have e2:l'.toArray[i-off]! = l'[i-off]:=by simp [getElem!_pos,hj]
   rw [e1];exact ⟨rfl,_,hce,by rw [e2];simp only [VR]⟩
  ·rw [if_neg hr];rw [if_neg hr] at hce;obtain ⟨r1,v,r2,r3⟩:=q5 i hi;rw [Array.getElem?_eq_getElem hic] at r2;exact ⟨r1,_,hce,by rw [Option.some.inj r2];exact r3⟩
 have H1:=H.put hid hE hbr;have X1:Ex E E w (w.putObj b (.cells (putCells (Value.int .i64) off l'.toArray c) ty fr)):=Ex.put hE h2 fun L hL=>by cases hL
 have hbl:b<w.heap.size:=(Array.getElem?_eq_some_iff.1 h2).1;have hBel:Below (w.putObj b (.cells (putCells (Value.int .i64) off l'.toArray c) ty fr)).heap.size (w.putObj b (.cells (putCells (Value.int .i64) off l'.toArray c) ty fr)) (grow (putRow (Value.int .i64) (Sort.ahead w k) b off l'.toArray) os):=by
  refine ⟨rfl,rfl,rfl,?_,fun j hj => ?_⟩
  ·rw [World.putObj_size];simp [grow,putRow,mapBlock,Sort.ahead]
  ·rw [World.putObj_size] at hj;have e1:(grow (putRow (Value.int .i64) (Sort.ahead w k) b off l'.toArray) os).heap[j]? = (w.heap.modify b (onCells (putCells (Value.int .i64) off l'.toArray)))[j]? := by
    show (w.heap.modify b (onCells (putCells (Value.int .i64) off l'.toArray))++os)[j]? = _;rw [Array.getElem?_append_left (by simpa using hj)]
   rw [e1,Array.getElem?_modify];by_cases e:b=j
   ·subst e;rw [if_pos rfl,h2,uX _ hbl];rfl
   ·rw [if_neg e,yR _ (fun q=>e q.symm)]
 obtain ⟨r1,r2⟩:=H1.below hBel;exact ⟨r1,X1.trans r2⟩
theorem zry {B:Nat} (law:∀ (blk off cap:Nat) (zs:List Int) (w:World),Holds (Value.int .i64) w blk off zs.toArray->blk<w.heap.size->zs.length<4611686018427387904 ->
   Go.Calls Tryz.prog 212 #[.slice (some ⟨blk,off,none⟩) zs.length cap] w fun e w'=>e=.returned (.tuple #[])/\∃ n os,w'=grow (putRow (Value.int .i64) (Sort.ahead w n) blk off (zs.mergeSort fun x y=>decide (x<=y)).toArray) os)
  (law0:∀ (p:Option Addr) (cap:Nat) (w:World),Go.Calls Tryz.prog 212 #[.slice p 0 cap] w fun e w'=>e=.returned (.tuple #[])/\w'=w):JOk Tryz.prog B pW:=by
 intro E h nx w f args vs v h2 H hv hj;unfold pW at hj;cases hf:Nat.beq f 212 with
 | false=>simp [hf] at hj
 | true =>
  obtain rfl:=yE hf;rw [hf,cond_true] at hj;split at hj
  case h_2=>cases hj
  rename_i _ x;cases hjj:zby x h with
  | none=>simp [hjj] at hj
  | some hs =>
  simp only [hjj,Option.some.injEq,Prod.mk.injEq] at hj;obtain ⟨rfl,rfl⟩:=hj;refine ⟨(),trivial,trivial,trivial,fun n=>.inl ⟨_,Tryz.func212,by kernel_rfl,by kernel_rfl,callsIn_wide.2 ?_⟩⟩;obtain ⟨l⟩:=vs;simp only [VRL] at hv;obtain ⟨u,_,rfl,hu,rfl⟩:=hv;unfold zby at hjj;split at hjj
  ·rename_i id off ln cap esz;split at hjj
   ·rename_i op m t hb;cases hq:(Nat.beq esz 1&&Nat.ble (off+ln) m&&Nat.ble ln 1000000) with
    | false=>simp [hq] at hjj
    | true =>
     rw [hq,cond_true] at hjj;simp only [Zah] at hq;obtain ⟨⟨q1,q2⟩,q3⟩:=hq;obtain rfl:=yE q1;have q2:=yA q2;have q3:=yA q3;cases hx:wF (yL t off ln) with
     | none=>simp [hx] at hjj
     | some xs =>
      simp only [hx,Option.some.injEq] at hjj;subst hjj;have hxs:=zgh hx;have hln:xs.length=ln:=by
       have:=congrArg List.length hxs;simpa using this.symm
      obtain ⟨b,n,c,hE,rfl,hcap⟩:=hu.rM;obtain ⟨b',n',o,h1,h2,h3⟩:=H.blk id (by rw [hb];intro e;cases e);rw [hE] at h1;cases h1;rw [hb] at h3;obtain ⟨cs,ty,fr,rfl,g1,g2,g3,g4,hc⟩:=h3;have hH:Holds (Value.int .i64) w b off xs.toArray:=by
       intro j hj;have hj:j<xs.length:=by simpa using hj
       obtain ⟨_,v',k1,k2⟩:=hc (off+j) (by omega);have he:T.get .u (.of (off+j)) t=I xs[j]:=by
        have e1:=yK t off ln j (by omega);rw [hxs,List.getElem?_map,List.getElem?_eq_getElem hj] at e1;exact (Option.some.inj e1).symm
       rw [he] at k2;simp only [VR] at k2;subst k2;have e2:xs.toArray[j]! = xs[j]:=by simp [getElem!_pos,hj]
       rw [e2];refine ⟨by simp [World.cell?,h2,k1],?_⟩;have:=g1 (off+j) (Array.getElem?_eq_some_iff.1 k1).1;simp only [World.frozen?,h2];obtain ⟨lo,hi⟩:=fr;simp only [Bool.and_eq_false_iff,decide_eq_false_iff_not];simp only at this;omega
      rw [<- hln];refine (law b off c xs w hH (H.lt _ _ _ hE).2 (by omega)).mono ?_;rintro e w' ⟨rfl,k,os,rfl⟩;have hp:(srt xs).length=xs.length:=(pL xs).length_eq;obtain ⟨r1,r2⟩:=H.sorted (off:=off) (l:=xs) (l':=srt xs) (k:=k) (os:=os) hb hE hp (by omega);exact ⟨_,E,rfl,by simp only [VR,VRL];exact ⟨_,rfl,rfl⟩,r1,r2⟩
   ·cases hjj
  ·obtain rfl:=(Option.some.inj hjj).symm;simp only [VR] at hu;subst hu;refine (law0 none 0 w).mono ?_;rintro e w' ⟨rfl,rfl⟩;exact ⟨_,E,rfl,by simp only [VR,VRL];exact ⟨_,rfl,rfl⟩,H,.refl _ _⟩
  ·cases hjj
end Go.Ev
namespace Go.Ev
open Go Go.Proofs Classical
set_option maxRecDepth 100000
abbrev JT:=Nat->List AV->T Blk->Option (AV×T Blk)
def orJ (J J':JT):JT:=fun f args h=>match J f args h with
 | some r=>some r
 | none=>J' f args h
theorem zz3 {P:Program} {B:Nat} {J J':JT} (h1:JOk P B J) (h2:JOk P B J'):JOk P B (orJ J J'):=by
 intro E h nx w f args vs v h2' H hv hj;unfold orJ at hj;split at hj
 ·rename_i r hr;cases hj
  exact h1 H hv hr
 ·exact h2 H hv hj
def fnJ (G:Nat->List AV->Option AV) (J:JT):JT:=fun f args h=>match G f args with
 | some v=>some (v,h)
 | none=>J f args h
def FnOk (P:Program) (G:Nat->List AV->Option AV):Prop:=∀ f args v,G f args=some v->∀ B,Pure P B f args (· = v)
theorem zrq {P:Program} {G:Nat->List AV->Option AV} {J:JT} {B:Nat} (hm:FnOk P G) (hJ:JOk P B J):JOk P B (fnJ G J):=by
 intro E h nx w f args vs v h2 H hv hj;unfold fnJ at hj;split at hj
 case h_2=>exact hJ H hv hj
 rename_i e he;cases hj
 have hc:=hm f args v he B .z h nx (fun u h2 nx2=>if u=v/\h2=h/\nx2=nx then .ok True else .no 0) (fun u hv _=>if_pos ⟨hv,rfl,rfl⟩);rw [rF] at hc;obtain ⟨fn,h1,h2,h3,h4⟩:=hc.1 _ w vs H hv;refine ⟨fn,h1,h2,h3,fun n=>(h4 n).mono fun e' w' he' => ?_⟩
 cases e' <;> first
  | exact he'.elim
  |(obtain ⟨av,h2,nx',E1,k1,k2,k3,k4⟩:=he'
    have k1':(if av=v/\h2=h/\nx'=nx then (Out.ok True:Out Prop) else .no 0)=.ok True:=k1;split at k1'
    ·rename_i hh;obtain ⟨rfl,rfl,rfl⟩:=hh;exact ⟨_,E1,rfl,k2,k3,k4⟩
    ·cases k1')
def noSl (_:Nat):Bool:=false
def rk (J:JT) (f:Nat) (args:List AV) (res:AV):Bool:=nns args&&match (qZ noSl J tbl 100000 60).fn f (.of f) args .e .z endK with
 | .ok v=>aJ v res
 | .no _=>false
theorem gF {J:JT} {f:Nat} {args:List AV} {res:AV} {B:Nat} (hJ:∀ B,JOk Tryz.prog B J) (h:rk J f args res=true):Pure Tryz.prog B f args (· = res):=by
 unfold rk at h;rw [Zah] at h;obtain ⟨ha,h⟩:=h;cases hq:(qZ noSl J tbl 100000 60).fn f (.of f) args .e .z endK with
 | no n=>rw [hq] at h;cases h
 | ok v =>
  rw [hq] at h;have e:=wI h;subst e;exact zea zW mixed hJ ha hq
theorem zc4 (B:Nat):JOk Tryz.prog B pW:=zry (fun blk off cap zs w hH hb hz=>Tryz.slices_Sort_int blk off cap zs w hH hb hz) (fun p cap w=>Tryz.slices_Sort_int_none p cap w)
def insI (a:Int):List Int->List Int
 | []=>[a]
 | b::l=>bif ilt b a then b::insI a l else a::b::l
def isoI:List Int->List Int
 | []=>[]
 | a::l=>insI a (isoI l)
theorem zke {a b:Int}:ilt a b=true↔a<b:=by
 cases a <;> cases b <;> simp [ilt,Nat.ble_eq] <;> omega
theorem mZ (a:Int):∀ l:List Int,(insI a l).Perm (a::l)
 | []=>.refl _
 | b::l=>by
  rw [insI];cases ilt b a with
  | true=>exact ((mZ a l).cons b).trans (.swap _ _ _)
  | false=>exact .refl _
theorem zc6:∀ l:List Int,(isoI l).Perm l
 | []=>.refl _
 | a::l=>(mZ a _).trans ((zc6 l).cons a)
theorem zgi (a:Int):∀ {l:List Int},l.Pairwise (· <= ·)->(insI a l).Pairwise (· <= ·)
 | [],_=>by simp [insI]
 | b::l,h=>by
  rw [insI];have hb:=List.pairwise_cons.1 h;cases hq:ilt b a with
  | true =>
   have hlt:=zke.1 hq;refine List.pairwise_cons.2 ⟨fun x hx => ?_,zgi a hb.2⟩;rcases List.mem_cons.1 ((mZ a l).mem_iff.1 hx) with rfl | q
   ·omega
   ·exact hb.1 x q
  | false =>
   have hlt:¬ b<a:=fun q=>by rw [zke.2 q] at hq;cases hq
   refine List.pairwise_cons.2 ⟨fun x hx => ?_,h⟩;rcases List.mem_cons.1 hx with rfl | q
   ·omega
   ·have:=hb.1 x q;omega
theorem zgj:∀ l:List Int,(isoI l).Pairwise (· <= ·)
 | []=>.nil
 | a::l=>zgi a (zgj l)
theorem zvg (l:List Int):isoI l=srt l:=zbx (zc6 l) (zgj l)
def zrz (v:AV) (h:T Blk):Option (T Blk):=match v with
 | .sl id off ln _ esz=>match T.get .no id h with
  | .cells op m t=>bif Nat.beq esz 1&&Nat.ble (off+ln) m&&Nat.ble ln 1000000 then (match wF (yL t off ln) with
   | some l=>some (T.set .no (.cells op m (jJ ((isoI l).map I) t off)) id h)
   | none=>none) else none
  | _=>none
 | .zn=>some h
 | _=>none
def zr0 (f:Nat) (args:List AV) (h:T Blk):Option (AV×T Blk):=bif Nat.beq f 212 then (match args with
 | [v]=>match zrz v h with
  | some h=>some (.tup [],h)
  | none=>none
 | _=>none) else none
theorem zr1:zrz=zby:=by
 funext v h
 unfold zrz zby;simp only [zvg]
 try rfl
theorem zr2:zr0=pW:=by
 funext f args h
 unfold zr0 pW;rw [zr1]
 try rfl
def zkc:JT:=orJ zrv zr0
theorem zbw (B:Nat):JOk Tryz.prog B zkc:=zz3 zrx (by rw [zr2];exact zc4 B)
def digL (n:Nat):List UInt8:=if n<10 then [.ofNat (48+n)] else if n<100 then [.ofNat (48+n / 10),.ofNat (48+n%10)] else [.ofNat (48+n / 100),.ofNat (48+n / 10%10),.ofNat (48+n%10)]
def zz4:Bool:=(List.range 256).all fun n=>rk zkc 313 [I (n:Int)] (.str (digL n))
theorem zmv:zz4=true:=by kernel_rfl
def natA (v:AV):Option Nat:=match v with
 | .int .i64 (.ofNat n)=>some n
 | _=>none
theorem zkb {v:AV} {n:Nat} (h:natA v=some n):v=I (n:Int):=by
 unfold natA at h;split at h
 ·cases h;rfl
 ·cases h
def itoG (f:Nat) (args:List AV):Option AV:=bif Nat.beq f 313 then (match args with
 | [v]=>match natA v with
  | some n=>bif Nat.ble n 255 then some (.str (digL n)) else none
  | none=>none
 | _=>none) else none
theorem zvh:FnOk Tryz.prog itoG:=by
 intro f args v h B;unfold itoG at h;cases hf:Nat.beq f 313 with
 | false=>rw [hf] at h;cases h
 | true =>
  obtain rfl:=Zek hf;rw [hf,cond_true] at h;split at h
  ·split at h
   ·rename_i n hn;cases hb:Nat.ble n 255 with
    | false=>rw [hb] at h;cases h
    | true =>
     rw [hb] at h;cases h
     rw [zkb hn];have hle:=Zfl hb;exact gF zbw (List.all_eq_true.1 zmv n (List.mem_range.2 (by omega)))
   ·cases h
  ·cases h
def vH:JT:=fnJ itoG zkc
theorem uS (B:Nat):JOk Tryz.prog B vH:=zrq zvh (zbw B)
def upN (n k:Nat):List Nat:=(List.range n).map fun r=>n*r+(k+n-r)%n
def dnN (n k:Nat):List Nat:=(List.range n).map fun r=>n*r+(k+r)%n
def rcN (n:Nat):List (List Nat):=((List.range n).map fun i=>(List.range n).map fun j=>n*i+j)++((List.range n).map fun j=>(List.range n).map fun i=>n*i+j)
def dedN (ls:List (List Nat)):List (List Nat):=ls.foldl (fun out l=>if out.contains l then out else out++[l]) []
def sqN (k n:Nat):List (List Nat):=match k with
 | 0=>rcN n
 | 1=>rcN n++[dnN n 0,upN n (n-1)]
 | _=>rcN n++[dnN n 0,upN n (n-1)]++((List.range (n-1)).map fun k=>dnN n (k+1))++(List.range (n-1)).map (upN n)
def sqM (k n:Nat):List (List Nat):=if n<=2 then dedN (sqN k n) else sqN k n
def sqI (k n:Nat):List (List Int):=(sqM k n).map fun l=>l.map Int.ofNat
def rQ (k:Nat):List UInt8:=match k with
 | 0=>[115,101,109,105,109,97,103,105,99]
 | 1=>[109,97,103,105,99]
 | _=>[112,97,110,100,105,97,103,111,110,97,108]
def sqV (k n:Nat):AV:=.agg [I ((n*n:Nat):Int),mg (sqI k n)]
def jB (n k:Nat):Bool:=rk vH 66 [.str (rQ k),I (n:Int)] (sqV k n)
end Go.Ev
namespace Go.Ev
def bv (b:Nat):List Nat->Nat
 | []=>0
 | x::l=>x+b*bv b l
theorem kN (b:Nat):∀ l m:List Nat,bv b (l++m)=bv b l+b ^ l.length*bv b m
 | [],m=>by simp [bv]
 | x::l,m=>by
  rw [Zco,bv,kN b l m,bv,Zbx,Zbg,Zax,Zde,Zaq (b ^ l.length) b,Zbe]
theorem gJ (b:Nat) (l:List Nat) (x:Nat):bv b (l++[x])=bv b l+b ^ l.length*x:=by
 rw [kN];simp [bv]
def Dg (b:Nat) (l:List Nat):Prop:=∀ x∈l,x<b
theorem vB {b:Nat} (hb:0<b):∀ {l:List Nat},Dg b l->bv b l<b ^ l.length
 | [],_=>by simp [bv]
 | x::l,h=>by
  have h1:=vB hb (l:=l) fun y hy=>h y (by simp [hy]);have h2:=h x (by simp);rw [bv,Zbx,Zbg,Zaq (b ^ l.length) b];have h3:b*(bv b l+1)<=b*b ^ l.length:=Zbc b h1;rw [Zax,Zca] at h3;omega
def Nm (l:List Nat):Prop:=l.getLast? ≠ some 0
def dg (b:Nat) (z:Nat):List Nat:=if h:z=0\/b<2 then [] else z%b::dg b (z / b)
termination_by z
decreasing_by
 have h1:z≠0:=fun q=>h (.inl q);have h2:¬ b<2:=fun q=>h (.inr q);exact Nat.div_lt_self (Zee h1) (by omega)
theorem kE (b:Nat):dg b 0=[]:=by rw [dg];simp
theorem wO {b z:Nat} (hb:2<=b) (hz:z≠0):dg b z=z%b::dg b (z / b):=by
 rw [dg,dif_neg (by omega)]
theorem kF {b:Nat} (hb:2<=b) (z:Nat):bv b (dg b z)=z/\Dg b (dg b z)/\Nm (dg b z):=by
 induction z using Nat.strongRecOn with
 | ind z ih =>
  by_cases hz:z=0
  ·subst hz;rw [kE];exact ⟨rfl,fun x hx=>by simp at hx,by simp [Nm]⟩
  ·obtain ⟨h1,h2,h3⟩:=ih (z / b) (Nat.div_lt_self (Zee hz) (by omega));rw [wO hb hz];refine ⟨?_,?_,?_⟩
   ·rw [bv,h1];exact Zdc z b
   ·intro x hx;rcases List.mem_cons.1 hx with rfl | hx
    ·exact Zbl _ (by omega)
    ·exact h2 x hx
   ·unfold Nm at *
    by_cases hd:z / b=0
    ·rw [hd,kE];have:z<b:=by
      rcases Nat.div_eq_zero_iff.1 hd with q | q
      ·omega
      ·exact q
     simp [Zap this];exact hz
    ·rw [wO hb hd] at h3 ⊢;rw [List.getLast?_cons_cons];exact h3
theorem zc7 {b:Nat} (hb:2<=b):∀ {l:List Nat},Dg b l->Nm l->l=dg b (bv b l)
 | [],_,_=>by rw [bv,kE]
 | x::l,h,hn=>by
  have hx:=h x (by simp);have hl:Dg b l:=fun y hy=>h y (by simp [hy]);have hnl:Nm l:=by
   unfold Nm at *
   cases l with
   | nil=>simp
   | cons y l=>rw [List.getLast?_cons_cons] at hn;exact hn
  have ih:=zc7 hb hl hnl;have hz:bv b (x::l)≠0:=by
   rw [bv];intro q;have hx0:x=0:=by omega
   have hv:bv b l=0:=by
    have:b*bv b l=0:=by omega
    rcases Nat.mul_eq_zero.1 this with q | q
    ·omega
    ·exact q
   rw [hv,kE] at ih;subst ih;subst hx0;simp [Nm] at hn
  rw [wO hb hz,bv];have e1:(x+b*bv b l)%b=x:=by rw [Nat.add_mul_mod_self_left,Zap hx]
  have e2:(x+b*bv b l) / b=bv b l:=by rw [Nat.add_mul_div_left _ _ (by omega),Zep hx,Zbh]
  rw [e1,e2,<- ih]
theorem zbz {b x y c:Nat} (hx:x<b) (hy:y<b) (hc:c<=1):(x+y+c) / b<=1:=by
 have:(x+y+c) / b<2:=Zfq (by omega);omega
theorem qC {b:Nat} {l:List Nat} {i x:Nat} (h:l[i]? = some x):bv b (l.take (i+1))=bv b (l.take i)+b ^ i*x:=by
 have hi:i<l.length:=(List.getElem?_eq_some_iff.1 h).1;rw [Zas,h];show bv b (l.take i++[x])=_;rw [gJ,Zau,Zby (by omega)]
theorem zr3 {b P U V u1 u0 ul v1 v2 vl q r:Nat} (hU:U=(u1*b+u0)*P+ul) (hul:ul<P) (hV:V=(v1*b+v2)*P+vl)
  (hr:q*v1+r=u1) (h:r*b+u0<q*v2):U<q*V:=by
 have e1:q*(v1*b+v2)=q*v1*b+q*v2:=by rw [Zax,Zbe]
 have e2:u1*b=q*v1*b+r*b:=by rw [<- hr,Zam]
 have h1:u1*b+u0+1<=q*(v1*b+v2):=by omega
 have h2:(u1*b+u0+1)*P<=q*(v1*b+v2)*P:=Zai P h1;have e3:q*V=q*(v1*b+v2)*P+q*vl:=by rw [hV,Zax,Zbe]
 rw [Zam,Zbs] at h2;omega
theorem zvi {b P U V u1 u0 ul v1 v2 vl q r:Nat} (hU:U=(u1*b+u0)*P+ul) (hV:V=(v1*b+v2)*P+vl) (hvl:vl<P)
  (hr:q*v1+r=u1) (hq:q<=b) (h:q*v2<=r*b+u0) (hv:1<=v1):q*V<=U+V:=by
 have e1:q*(v1*b+v2)=q*v1*b+q*v2:=by rw [Zax,Zbe]
 have e2:u1*b=q*v1*b+r*b:=by rw [<- hr,Zam]
 have h1:q*(v1*b+v2)<=u1*b+u0:=by omega
 have h2:q*(v1*b+v2)*P<=(u1*b+u0)*P:=Zai P h1;have e3:q*V=q*(v1*b+v2)*P+q*vl:=by rw [hV,Zax,Zbe]
 have h3:q*vl<=b*P:=Zbd hq (by omega)
 have h4:b*P<=(v1*b+v2)*P:=Zai P (by
  have:1*b<=v1*b:=Zai b hv;omega)
 omega
theorem zkf {b P U V u1 u0 ul v1 v2 vl q r:Nat} (hU:U=(u1*b+u0)*P+ul) (hul:ul<P) (hu:u0<b) (hV:V=(v1*b+v2)*P+vl)
  (hr:q*v1+r=u1) (h:r<v1):U<(q+1)*V:=by
 have h1:u1+1<=(q+1)*v1:=by rw [Zam];omega
 have h2:(u1+1)*b<=(q+1)*v1*b:=Zai b h1;have h3:u1*b+u0+1<=(q+1)*(v1*b+v2):=by
  rw [Zax,<- Zbe];rw [Zam,Zbs] at h2;omega
 have h4:(u1*b+u0+1)*P<=(q+1)*(v1*b+v2)*P:=Zai P h3;have e3:(q+1)*V=(q+1)*(v1*b+v2)*P+(q+1)*vl:=by rw [hV,Zax,Zbe]
 rw [Zam,Zbs] at h4;omega
theorem zb0 {U V q r:Nat} (h:U=q*V+r) (hr:r<V):U / V=q/\U%V=r:=by
 have hv:0<V:=by omega
 subst h;refine ⟨?_,?_⟩
 ·rw [Zda,Nat.add_mul_div_right _ _ hv,Zep hr,Zbh]
 ·rw [Zda,Nat.add_mul_mod_self_right,Zap hr]
end Go.Ev
namespace Go.Ev
open Go Go.Proofs
variable {B:Nat}
set_option maxRecDepth 100000
theorem yX {B:Nat}:dL Tryz.prog B Prop:=mB mixed
abbrev U (m:Nat):AV:=.int .u64 (m:Int)
def um (l:List Nat):AV:=.lst 1 l.length (l.map U)
theorem zgk {z:Int} (h:0<=z/\z<18446744073709551616):IntKind.wrap .u64 z=z:=by
 have e:IntKind.wrap .u64 z=z%18446744073709551616:=by
  unfold IntKind.wrap;first | rfl | simp [IntKind.bits,IntKind.signed] | skip
 rw [e];omega
theorem zit {m:Nat}:IntKind.wrap .u64 (m:Int)=((m%18446744073709551616:Nat):Int):=by
 have e:IntKind.wrap .u64 (m:Int)=(m:Int)%18446744073709551616:=by
  unfold IntKind.wrap;first | rfl | simp [IntKind.bits,IntKind.signed] | skip
 rw [e];omega
theorem zr4 {z:Int}:IntKind.wrap .u64 z=z%18446744073709551616:=by
 unfold IntKind.wrap;first | rfl | simp [IntKind.bits,IntKind.signed]
theorem uAdd {a b:Nat} {K:AV->OP}:zh .add .int (U a) (U b) K=K (U ((a+b)%18446744073709551616)):=by
 rw [zxe,show (a:Int)+(b:Int)=((a+b:Nat):Int) by omega,zit]
theorem aN {a b:Nat} {K:AV->OP}:zh .mul .int (U a) (U b) K=K (U ((a*b)%18446744073709551616)):=by
 rw [qda,show (a:Int)*(b:Int)=((a*b:Nat):Int) by simp,zit]
theorem uSub {a b:Nat} {K:AV->OP} (h:b<=a) (ha:a<18446744073709551616):zh .sub .int (U a) (U b) K=K (U (a-b)):=by
 rw [zxf,zgk (by omega),show (a:Int)-(b:Int)=((a-b:Nat):Int) by omega]
theorem zx1 {a b c:Nat} {K:AV->OP} (h:(c+b)%18446744073709551616=a%18446744073709551616) (hc:c<18446744073709551616):zh .sub .int (U a) (U b) K=K (U c):=by
 rw [zxf,zr4,show ((a:Int)-(b:Int))%18446744073709551616=(c:Int) by omega]
theorem uShr {m n:Nat} {k:IntKind} {K:AV->OP} (hn:n<=64):zh .shr .int (U m) (.int k (n:Int)) K=K (U (m / 2 ^ n)):=by
 have e:zh .shr .int (U m) (.int k (n:Int)) K=(bif ilt (n:Int) 0 then Out.no 5 else ql ((m:Int).fdiv (2 ^ (min (n:Int).toNat IntKind.u64.bits))) fun z=>K (.int .u64 z)):=by cases k <;> rfl
 have h0:ilt (n:Int) 0=false:=rfl;rw [e,h0,cond_false,gI];have hb:IntKind.u64.bits=64:=rfl;rw [hb,Zei,Zby hn,Int.fdiv_eq_ediv_of_nonneg _ (Int.pow_nonneg (by omega))]
 congr 2
theorem dX {m:Nat} {k:IntKind} {K:AV->OP}:zh .shr .int (U m) (.int k 32) K=K (U (m / 4294967296)):=uShr (n:=32) (by omega)
theorem uAnd {m:Nat} {K:AV->OP} (hm:m<18446744073709551616):zh .and .int (U m) (.int .u64 4294967295) K=K (U (m%4294967296)):=by
 have e:zh .and .int (U m) (U 4294967295) K=ql (IntKind.u64.wrap ((BitVec.ofInt 64 (m:Int) &&& BitVec.ofInt 64 ((4294967295:Nat):Int)).toNat:Int)) fun z=>K (.int .u64 z):=rfl;have h1:(BitVec.ofInt 64 (m:Int) &&& BitVec.ofInt 64 ((4294967295:Nat):Int)).toNat=m%4294967296:=by
  rw [BitVec.ofInt_natCast,BitVec.ofInt_natCast,BitVec.toNat_and,BitVec.toNat_ofNat,BitVec.toNat_ofNat,Zap hm];exact Nat.and_two_pow_sub_one_eq_mod m 32
 have e2:zh .and .int (U m) (.int .u64 4294967295) K=zh .and .int (U m) (U 4294967295) K:=rfl;rw [e2,e,gI,h1,zgk (by omega)]
theorem uLss {a b:Nat} {K:AV->OP}:zh .lss .int (U a) (U b) K=K (.bool (decide (a<b))):=by rw [uf];simp only [Int.ofNat_lt]
theorem uLeq {a b:Nat} {K:AV->OP}:zh .leq .int (U a) (U b) K=K (.bool (decide (a<=b))):=by rw [nY];simp only [Int.ofNat_le]
theorem uGeq {a b:Nat} {K:AV->OP}:zh .geq .int (U a) (U b) K=K (.bool (decide (b<=a))):=by rw [bT];simp only [Int.ofNat_le]
theorem uGtr {a b:Nat} {K:AV->OP}:zh .gtr .int (U a) (U b) K=K (.bool (decide (b<a))):=by rw [fJ];simp only [Int.ofNat_lt]
theorem uNeq {a b:Nat} {K:AV->OP}:zh .neq .int (U a) (U b) K=K (.bool (!decide (a=b))):=by rw [di];simp only [Int.natCast_inj]
theorem uEql {a b:Nat} {K:AV->OP}:zh .eql .int (U a) (U b) K=K (.bool (decide (a=b))):=by rw [dm];simp only [Int.natCast_inj]
theorem zc8 {a:Nat} {K:AV->OP}:zh .eql .int (U a) (.int .u64 0) K=K (.bool (decide (a=0))):=uEql (b:=0)
theorem zr5 {k:IntKind} {z:Int} {m:Nat} {K:AV->OP} (h:z=(m:Int)) (hm:m<18446744073709551616):qN .u64 (.int k z) K=K (U m):=by
 show ql (u9 .u64 z) (fun z=>K (.int .u64 z))=_;rw [gI,qJ,zgk (by omega),h]
theorem zz5 {k:IntKind} {z:Int} {K:AV->OP} (h : -9223372036854775808<=z/\z<0):qN .u64 (.int k z) K=K (U (z+18446744073709551616).toNat):=by
 show ql (u9 .u64 z) (fun z=>K (.int .u64 z))=_;rw [gI,qJ,zr4,show z%18446744073709551616=((z+18446744073709551616).toNat:Int) by omega]
theorem mP {k:IntKind} {z:Int} {K:AV->OP} (h : -9223372036854775808<=z/\z<=9223372036854775807):qN .i64 (.int k z) K=K (I z):=by
 show ql (u9 .i64 z) (fun z=>K (.int .i64 z))=_;rw [gI,qJ,qE h]
theorem uNeg {z:Int} {K:AV->OP} (h : -9223372036854775807<=z/\z<=9223372036854775808):sNeg (I z) K=K (I (-z)):=by
 show ql (u9 .i64 (0-z)) (fun z=>K (.int .i64 z))=_;rw [gI,qJ,qE (by omega),Int.zero_sub]
theorem qeb {K:AV->OP}:sNeg (I (-9223372036854775808)) K=K (I (-9223372036854775808)):=nr rfl
theorem zr6 (l:List Nat):∀ v∈l.map U,fO v=true:=fun v hv=>by obtain ⟨x,_,rfl⟩:=List.mem_map.1 hv;rfl
theorem gX (l:List Nat):fO (um l)=true:=zbl (zr6 l)
theorem uGet {l:List Nat} {i x:Nat} (h:l[i]? = some x):(l.map U)[i]? = some (U x):=by rw [List.getElem?_map,h];rfl
theorem fU {l:List Nat} {K:AV->OP}:sLen (um l) K=K (I l.length):=zZ ..
theorem uIx {l:List Nat} {i:Nat} {j:Int} {op:AV->OP} (hj:j=(i:Int)) (hi:i<l.length):zM 1 (um l) (I j) op=op (.fp ((l.map U).drop (i*1))):=ni hj hi
theorem uLd {l:List Nat} {i x:Nat} {h:T Blk} {op:AV->OP} (hx:l[i]? = some x):zH (.fp ((l.map U).drop (i*1))) h op=op (U x):=ldL (uGet hx)
theorem ug.ziu {N:Pa->Prop} {O:AV->Prop} {h:T Blk} {id:Pa} {l:List AV} {cap:Option Nat} {n:Nat} (H:ug h id l) (hid:N id) (hcap:capLe n cap) (hn:n<=l.length) (hf:∀ v∈l,fO v=true):Frz True N O h (.sl id 0 n cap 1) (.lst 1 n (l.take n)):=by
 obtain ⟨op,t,h1,h2⟩:=H;refine .sl _ _ _ _ _ op _ t _ hid hcap h1 (by omega) (by rw [Zau];omega) (List.all_eq_true.2 fun v hv=>fO.uy (hf v (Zcz hv))) fun i v hi => ?_;rw [List.getElem?_take] at hi;split at hi
 ·have:=yK t 0 l.length i (List.getElem?_eq_some_iff.1 hi).1;rw [h2,hi] at this;rw [<- Option.some.inj this];exact yB (hf v (Zad hi))
 ·cases hi
theorem Hp.ziu {h0 h:T Blk} {nx id:Pa} {L:List Ob} {k n:Nat} {l:List AV} {cap:Option Nat} (H:Hp h0 h nx L) (hk:L[k]? = some (.arr id l)) (hcap:capLe n cap) (hn:n<=l.length) (hf:∀ v∈l,fO v=true):sS h0 h (.sl id 0 n cap 1) (.lst 1 n (l.take n)) :=
 ug.ziu (H.own _ (Zad hk)) (H.off id (List.mem_flatMap.2 ⟨_,Zad hk,by simp [Ob.names]⟩)) hcap hn hf
theorem Hp.zr7 {h0 h:T Blk} {nx id:Pa} {L:List Ob} {l:List AV} (H:Hp h0 h nx (.arr id l::L)):Hp h0 (T.set .no .no id h) nx L:=by
 have hid:T.get .no id h0=.no:=H.off id (by simp [Ob.names]);have H3:=H.drop;have nd:=H.nd;simp only [Zcd,Ob.names] at nd;have hni:id∉L.flatMap Ob.names:=fun hi=>(List.nodup_append.1 nd).2.2 id (by simp) id hi rfl;have other:∀ j,j≠id->T.get .no j (T.set .no .no id h)=T.get .no j h:=fun j hj=>T.yh _ _ _ _ _ hj;refine ⟨fun j hj => ?_,fun y hy => ?_,H3.off,H3.nd,fun j hj => ?_⟩
 ·rw [other j (by rintro rfl;exact hj hid)];exact H.keep j hj
 ·exact (H3.own y hy).congr fun m hm=>other m (by rintro rfl;exact hni (List.mem_flatMap.2 ⟨y,hy,hm⟩))
 ·by_cases e:j=id
  ·subst e;exact T.get_set_same _ _ _ _
  ·rw [other j e];exact H.fr j hj
theorem Hp.letU {h0 h:T Blk} {nx:Pa} {L:List Ob} {id:Pa} {l:List Nat} {n:Nat} (H:Hp h0 h nx (.arr id (l.map U)::L)) (hn:l.length=n):∃ h',kJ h' h/\Hp h0 h' nx L/\sS h' h (.sl id 0 n (some n) 1) (um l):=by
 subst hn;exact ⟨_,pE,H.zr7,ug.frz (H.own _ (Zal ..)) (T.get_set_same _ _ _ _) (Zaf _) (by simp) (zr6 l)⟩
theorem xY {x y c:Nat} (hc:c<=1):Pure Tryz.prog B 331 [U x,U y,U c] (· = .tup [U ((x+y+c)%18446744073709551616),U ((x+y+c) / 18446744073709551616)]) :=
 zf6 Tryz.func331 (by kernel_rfl) (by kernel_rfl) (by kernel_rfl) (by kernel_rfl) hc
theorem zeh {x y b:Nat} (hc:b<=1):Pure Tryz.prog B 333 [U x,U y,U b] (· = .tup [U ((x+18446744073709551616-y-b)%18446744073709551616),U (if x<y+b then 1 else 0)]) :=
 zf7 Tryz.func333 (by kernel_rfl) (by kernel_rfl) (by kernel_rfl) (by kernel_rfl) hc
theorem zei {a b:Nat} (ha:a<18446744073709551616) (hb:b<18446744073709551616):Pure Tryz.prog B 274 [U a,U b] (· = .tup [U (a*b / 18446744073709551616),U (a*b%18446744073709551616)]):=by
 intro p h nx K hK;refine zQ zW yX 10 fun hf => ?_;rw [jh.go,jh.t23,zA,jh.jk,zA,jh.ji,uAnd ha,zA,jh.qh,dX,zA,jh.nU,uAnd hb,zA,jh.ny,dX];have ha0:a%4294967296<4294967296:=by omega
 have ha1:a / 4294967296<4294967296:=by omega
 have hb0:b%4294967296<4294967296:=by omega
 have hb1:b / 4294967296<4294967296:=by omega
 have ea:a=a / 4294967296*4294967296+a%4294967296:=by omega
 have eb:b=b / 4294967296*4294967296+b%4294967296:=by omega
 generalize a / 4294967296=a1 at *
 generalize a%4294967296=a0 at *
 generalize b / 4294967296=b1 at *
 generalize b%4294967296=b0 at *
 have m00:a0*b0<=4294967295*4294967295:=Zbd (by omega) (by omega);have m10:a1*b0<=4294967295*4294967295:=Zbd (by omega) (by omega);have m01:a0*b1<=4294967295*4294967295:=Zbd (by omega) (by omega);have m11:a1*b1<=4294967295*4294967295:=Zbd (by omega) (by omega);have hp:a*b=a1*b1*18446744073709551616+(a1*b0+a0*b1)*4294967296+a0*b0:=by
  rw [ea,eb];simp only [Zam,Zax];have e1:a1*4294967296*(b1*4294967296)=a1*b1*18446744073709551616:=by
   rw [Nat.mul_mul_mul_comm]
  have e2:a1*4294967296*b0=a1*b0*4294967296:=by rw [Zfw]
  have e3:a0*(b1*4294967296)=a0*b1*4294967296:=by rw [Zbe]
  rw [e1,e2,e3];omega
 rw [zA,jh.bV,aN,Zap (show a0*b0<18446744073709551616 by omega),zA,jh.bf,aN,Zap (show a1*b0<18446744073709551616 by omega),dX,uAdd,Zap (show a1*b0+a0*b0 / 4294967296<18446744073709551616 by omega),zA,jh.rD,uAnd (by omega),zA,jh.sD,dX,zA,jh.ax,aN,Zap (show a0*b1<18446744073709551616 by omega),uAdd,zA,jh.nR,aN,Zap (show a1*b1<18446744073709551616 by omega),uAdd,dX,uAdd,zA,jh.fM,aN];simp only [zK,zR];rw [jh.ret];refine hK _ ?_ hf;rw [hp]
 generalize a0*b0=p00 at *
 generalize a1*b0=p10 at *
 generalize a0*b1=p01 at *
 generalize a1*b1=p11 at *
 congr 3
 congr 1
 omega
theorem zej {z:Int} (h : -9223372036854775808<=z/\z<=9223372036854775807):Pure Tryz.prog B 275 [I z] (· = U z.natAbs):=by
 refine yC fun hh nx K H0 hK=>zQ zW yX 100 fun hf => ?_;have ret:∀ {m:Nat},m=z.natAbs->K (U m) hh nx=.ok True:=fun e=>hK _ _ _ _ _ H0 (yB rfl) (by rw [e]);rw [xh.go,xh.t9,zA,xh.jk,zA,zA,xh.ji,uf,zB,xh.v2];by_cases c:z<0
 ·rw [Zac c,zE,zA,xh.qh];by_cases d:z = -9223372036854775808
  ·subst d;rw [qeb,zz5 (by omega)];simp only [zK,zR];rw [xh.ret];exact ret (by decide)
  ·rw [uNeg (by omega),zr5 (m:=z.natAbs) (by omega) (by omega)];simp only [zK,zR];rw [xh.ret];exact ret rfl
 ·rw [Zab c,zC,zF,zA,xh.bf,zr5 (m:=z.natAbs) (by omega) (by omega)];simp only [zK,zR];rw [xh.ret];exact ret rfl
theorem zr8 {l:List Nat} {i:Nat} {op:AV->OP} (hl:1<=l.length) (hi:i<=l.length):kX 1 (um l) none (some (I (i:Int))) none op=op (um (l.take i)):=by
 show (bif Nat.beq 1 1&&Nat.ble 1 l.length then (match bnd (some (I (i:Int))) l.length l.length with | none=>Out.no 17 | some h=>match bnd none h 0 with | none=>.no 17 | some q=>op (.lst 1 (h-q) (((l.map U).drop (q*1)).take ((h-q)*1)))) else .no 17)=_;rw [Zag hl];have:bnd (some (I (i:Int))) l.length l.length=some i:=by
  show (bif Nat.ble i l.length then some i else none)=_;rw [Zag hi];rfl
 rw [this];show op (.lst 1 (i-0) (((l.map U).drop (0*1)).take ((i-0)*1)))=_;unfold um;rw [Zau,Zby hi,Zfg];simp
theorem zvj {l:List Nat} {k x:Nat} (h:l[k]? = some x) (hx:x≠0):Nm (l.take (k+1)):=by
 unfold Nm;rw [Zas,h];show (l.take k++[x]).getLast? ≠ _;rw [List.getLast?_concat];intro q;cases q;exact hx rfl
theorem Dg.take {b n:Nat} {l:List Nat} (h:Dg b l):Dg b (l.take n):=fun x hx=>h x (Zcz hx)
theorem wB {l:List Nat} (hd:Dg 18446744073709551616 l) (hl1:1<=l.length) (hl:l.length<=1000000):Pure Tryz.prog B 332 [um l] (· = um (dg 18446744073709551616 (bv 18446744073709551616 l))):=by
 refine yC fun h nx K H0 hK=>zQ zW yX 1000010 fun hf => ?_;rw [jq.go,jq.t14,zA,jq.jk,zA,jq.ji,fU,zA,zL];refine jq.t8_L (fun m x2 h' nx'=>x2=I (m:Int)/\m<=l.length/\bv 18446744073709551616 (l.take m)=bv 18446744073709551616 l/\Hp h h' nx' []) (m:=l.length) (by omega) ⟨rfl,by omega,by rw [Zfj],H0⟩ ?_;rintro m z2 z3 h3 nx3 R ⟨rfl,hm,hb,H3⟩ hR;have fin:Nm (l.take m)->K (um (l.take m)) h3 nx3=.ok True:=fun hn=>hK _ _ _ _ _ H3 (yB (gX _)) (by rw [<- hb,<- zc7 (by decide) hd.take hn]);rw [jq.t7,zA,zA,jq.qh,jq.r2_0,jq.zyf,fJ];cases m with
 | zero =>
  rw [Zab (by omega)];simp only [yM];rw [jq.r2_1,jq.zne];simp only [yM,zT];rw [zB,jq.v3,zC,zX,yF,zA,jq.nR,zr8 hl1 hm];simp only [zK,zR];rw [jq.ret];exact fin (by simp [Nm])
 | succ k =>
  have e:l[k]? = some (l.getD k 0):=by rw [Zaa,List.getElem?_eq_getElem (show k<l.length by omega)];rfl
  rw [Zac (by omega)];simp only [yT];rw [vw (by omega),show ((k+1:Nat):Int)-1=((k:Nat):Int) by omega,uIx (i:=k) rfl (by omega),uLd e,jq.r2_1,jq.zne,yT,zc8,zV,zB,jq.v3];by_cases d:l.getD k 0=0
  ·rw [Zac d,zE,zF,zL,jq.bV,vw (by omega)];refine hR k _ _ _ _ (by omega) ⟨by congr 1;omega,by omega,?_,H3⟩;rw [qC e,d] at hb;simpa using hb
  ·rw [Zab d,zC,zX,yF,zA,jq.nR,zr8 hl1 hm];simp only [zK,zR];rw [jq.ret];exact fin (zvj e d)
def cmpT (a b:List Nat):Nat->Int
 | 0=>0
 | k+1=>if a.getD k 0=b.getD k 0 then cmpT a b k else if a.getD k 0<b.getD k 0 then -1 else 1
def cmpW (a b:List Nat):Int:=if a.length≠b.length then (if a.length<b.length then -1 else 1) else cmpT a b a.length
theorem getD_some {l:List Nat} {k:Nat} (h:k<l.length):l[k]? = some (l.getD k 0):=by rw [Zaa,List.getElem?_eq_getElem h];rfl
theorem y0 {b:Nat} {l:List Nat} {k:Nat} (hb:0<b) (h:Dg b l):l.getD k 0<b:=by
 by_cases c:k<l.length
 ·exact h _ (Zad (getD_some c))
 ·rw [Zaa,List.getElem?_eq_none (by omega)];exact hb
theorem zc9 {b:Nat} {x y:List Nat} (hb:0<b) (hx:Dg b x) (hy:Dg b y):∀ {k:Nat},k<=x.length->k<=y.length->cmpT x y k=(if bv b (x.take k)<bv b (y.take k) then -1 else if bv b (y.take k)<bv b (x.take k) then 1 else 0)
 | 0,_,_=>by simp [cmpT,bv]
 | k+1,h1,h2=>by
  have e1:=getD_some (l:=x) (k:=k) (by omega);have e2:=getD_some (l:=y) (k:=k) (by omega);have l1:=vB hb (hx.take (n:=k));have l2:=vB hb (hy.take (n:=k));rw [Zau,Zby (by omega)] at l1 l2;rw [cmpT,qC e1,qC e2,zc9 hb hx hy (by omega) (by omega)]
  generalize bv b (x.take k)=X at *
  generalize bv b (y.take k)=Y at *
  generalize x.getD k 0=u at *
  generalize y.getD k 0=v at *
  generalize b ^ k=P at *
  by_cases c:u=v
  ·rw [if_pos c,c];simp only [Nat.add_lt_add_iff_right]
  ·rw [if_neg c];by_cases d:u<v
   ·have q:P*(u+1)<=P*v:=Zbc P d;rw [Zax,Zca] at q;have q1:X+P*u<Y+P*v:=by omega
    rw [if_pos d,if_pos q1]
   ·have q:P*(v+1)<=P*u:=Zbc P (by omega);rw [Zax,Zca] at q;have q1:Y+P*v<X+P*u:=by omega
    have q2:¬ X+P*u<Y+P*v:=by omega
    rw [if_neg d,if_neg q2,if_pos q1]
theorem m7 {b z n:Nat} (hb:2<=b) (h:z<b ^ n):(dg b z).length<=n:=by
 induction n generalizing z with
 | zero=>rw [show z=0 by simp at h;exact h,kE];simp
 | succ n ih =>
  by_cases hz:z=0
  ·rw [hz,kE];simp
  ·rw [wO hb hz,Zbx];have:=ih (z:=z / b) (by rw [Zcj (by omega),<- Zbg];exact h);omega
theorem zmw {b z n:Nat} (hb:2<=b) (h:b ^ n<=z):n<(dg b z).length:=by
 induction n generalizing z with
 | zero=>rw [wO hb (by simp at h;omega)];simp
 | succ n ih =>
  have hp:0<b ^ (n+1):=Zct (by omega);rw [wO hb (by omega),Zbx];have:=ih (z:=z / b) (by rw [Nat.le_div_iff_mul_le (by omega),<- Zbg];exact h);omega
theorem wG {b y z:Nat} (hb:2<=b) (h:(dg b y).length<(dg b z).length):y<z:=by
 rcases Zdr y z with q | q
 ·exact q
 ·exfalso
  have h1:=m7 hb (z:=z) (n:=(dg b y).length) (Zeh q (by
   have:=vB (b:=b) (by omega) (kF hb y).2.1
   rwa [(kF hb y).1] at this))
  omega
def cmpN (a b:Nat):Int:=if a<b then -1 else if b<a then 1 else 0
theorem zvk {b x y:Nat} (hb:2<=b):cmpW (dg b x) (dg b y)=cmpN x y:=by
 unfold cmpW cmpN;by_cases c:(dg b x).length=(dg b y).length
 ·rw [if_neg (by simpa using c),zc9 (by omega) (kF hb x).2.1 (kF hb y).2.1 (Zaf _) (by omega),Zfj,c,Zfj,(kF hb x).1,(kF hb y).1]
 ·rw [if_pos c];by_cases d:(dg b x).length<(dg b y).length
  ·rw [if_pos d,if_pos (wG hb d)]
  ·have:=wG hb (y:=y) (z:=x) (by omega);rw [if_neg d,if_neg (by omega),if_pos this]
theorem ziv {a b:List Nat} (ha:a.length<=1000000) (hb:b.length<=1000000):Pure Tryz.prog B 270 [um a,um b] (· = I (cmpW a b)):=by
 refine yC fun h nx K H0 hK=>zQ zW yX 1000010 fun hf' => ?_;have ret:∀ {h1 nx1 L} {z:Int},Hp h h1 nx1 L->z=cmpW a b->K (I z) h1 nx1=.ok True:=fun H e=>hK _ _ _ _ _ H (yB rfl) (by rw [e]);rw [yw.go,yw.t38,zA,yw.jk,zA,zA,yw.ji,fU,fU,di,zB,yw.v4];by_cases c:a.length=b.length
 case neg =>
  rw [Zab (by omega),Zak,zE,zA,zA,yw.qh,fU,fU,uf,zB,yw.v5];by_cases d:a.length<b.length
  ·rw [Zac (by omega),zE,zA,yw.nU];simp only [zK,zR];rw [yw.ret];exact ret H0 (by rw [cmpW,if_pos c,if_pos d])
  ·rw [Zab (by omega),zC,zF,zA,yw.rD];simp only [zK,zR];rw [yw.ret];exact ret H0 (by rw [cmpW,if_pos c,if_neg d])
 rw [Zac (by omega),Zaj,zC,zF,zA,zA,yw.nS,fU,vw (by omega),zL];refine yw.znf (fun m x3 h' nx'=>∃ k:Nat,x3=I ((k:Int)-1)/\m=k/\k<=a.length/\cmpT a b k=cmpT a b a.length/\Hp h h' nx' []) (m:=a.length) (by omega) ⟨a.length,rfl,rfl,by omega,rfl,H0⟩ ?_;rintro m z2 z3 z6 z7 z8 h3 nx3 R ⟨k,rfl,rfl,hk,hc,H3⟩ hR;rw [yw.t30,zA,zA,yw.ng,bT];cases m with
 | zero =>
  rw [Zab (by omega),zB,yw.v6,zC,zX,yF,zA,yw.zac];simp only [zK,zR];rw [yw.ret];exact ret H3 (by rw [cmpW,if_neg (fun q=>q c),<- hc];rfl)
 | succ k =>
  have ea:=getD_some (l:=a) (k:=k) (by omega);have eb:=getD_some (l:=b) (k:=k) (by omega);rw [cmpT] at hc;rw [Zac (by omega),zB,yw.v6,zE,zF,zA,zL,zA,yw.nZ,uIx (i:=k) (by omega) (by omega),uLd ea,uIx (i:=k) (by omega) (by omega),uLd eb,uNeq,zB,yw.v7];by_cases d:a.getD k 0=b.getD k 0
  ·rw [if_pos d] at hc;rw [Zac d,Zaj,zC,zF,yw.tC,vw (by omega)];exact hR k _ _ _ _ _ _ _ (by omega) ⟨k,by congr 1;omega,rfl,by omega,hc,H3⟩
  ·rw [if_neg d] at hc;rw [Zab d,Zak,zE,zA,zA,yw.rV,uIx (i:=k) (by omega) (by omega),uLd ea,uIx (i:=k) (by omega) (by omega),uLd eb,uLss,zB,yw.v8];by_cases e:a.getD k 0<b.getD k 0
   ·rw [if_pos e] at hc;rw [Zac e,zE,zA,yw.ah];simp only [zK,uC,zR];rw [yw.ret];exact ret H3 (by rw [cmpW,if_neg (fun q=>q c),<- hc])
   ·rw [if_neg e] at hc;rw [Zab e,zC,zF,zA,yw.oP];simp only [zK,uC,zR];rw [yw.ret];exact ret H3 (by rw [cmpW,if_neg (fun q=>q c),<- hc])
def Sz (z:Nat):Prop:=(dg 18446744073709551616 z).length<=100000
theorem zr9 {x y:Nat} (hx:Sz x) (hy:Sz y):Pure Tryz.prog B 270 [um (dg 18446744073709551616 x),um (dg 18446744073709551616 y)] (· = I (cmpN x y)):=by
 rw [<- zvk (b:=18446744073709551616) (by decide)];unfold Sz at hx hy;exact ziv (by omega) (by omega)
theorem gQ {α:Type} {A C:List α} {x y:α} {i:Nat} (h:A.length=i):(A++x::C).set i y=A++y::C:=by
 subst h;rw [Zel _ _ (Zaf _),Zdq];rfl
theorem zkg (n:Nat):List.replicate n (U 0)=(List.replicate n 0).map U:=by rw [List.map_replicate]
theorem zz6 (b n:Nat):bv b (List.replicate n 0)=0:=by
 induction n with
 | zero=>rfl
 | succ n ih=>rw [Zcb,bv,ih];simp
theorem Dg.append {b:Nat} {l m:List Nat} (h1:Dg b l) (h2:Dg b m):Dg b (l++m):=fun x hx=>by
 rcases List.mem_append.1 hx with q | q
 ·exact h1 x q
 ·exact h2 x q
theorem Dg.one {b x:Nat} (h:x<b):Dg b [x]:=fun y hy=>by rw [List.mem_singleton.1 hy];exact h
theorem Dg.rep {b n:Nat} (h:0<b):Dg b (List.replicate n 0):=fun x hx=>by rw [(List.mem_replicate.1 hx).2];exact h
theorem zY {b:Nat} {l:List Nat} {i:Nat}:bv b (l.take (i+1))=bv b (l.take i)+b ^ i*l.getD i 0:=by
 by_cases c:i<l.length
 ·exact qC (getD_some c)
 ·rw [Zae (by omega),Zae (by omega),Zaa,List.getElem?_eq_none (by omega)];simp
theorem zb1 {P b X Y x y c Z:Nat} (h:Z+P*c=X+Y):(Z+P*((x+y+c)%b))+P*b*((x+y+c) / b)=(X+P*x)+(Y+P*y):=by
 have e:P*((x+y+c)%b)+P*b*((x+y+c) / b)=P*(x+y+c):=by rw [Zbe,<- Zax,Zdc]
 have e2:P*(x+y+c)=P*x+P*y+P*c:=by rw [Zax,Zax]
 omega
theorem sMk1 {n:Nat} {x:Int} {h0 h:T Blk} {nx:Pa} {L:List Ob} {K:Kw Prop} (H:Hp h0 h nx L) (hx:x=(n:Int)) (hn:n<=1000000)
  (hK:∀ id h' nx',Hp h0 h' nx' (.arr id ((List.replicate n 0).map U)::L)->K (.sl id 0 n (some n) 1) h' nx'=.ok True):uL 1 8 [(.int .u64 0)] (I x) (I x) h nx K=.ok True :=
 H.mk1 n hx hx hn (by omega) fun id h' nx' H'=>hK id h' nx' (by rw [<- zkg];exact H')
theorem zkh {x y:List Nat} (hx:Dg 18446744073709551616 x) (hy:Dg 18446744073709551616 y) (lx:x.length<=100000) (hxy:y.length<=x.length) {h0:T Blk} {K:Kw Prop} {h:T Blk} {nx:Pa} {x2 x3 x4 x5 x6 x7 x8 x9 x10 x11:AV} (H0:Hp h0 h nx [])
  (hK:∀ (v:AV) (h':T Blk) (nx':Pa) (L:List Ob) (v':AV),Hp h0 h' nx' L->sS h0 h' v v'->v'=um (dg 18446744073709551616 (bv 18446744073709551616 x+bv 18446744073709551616 y))->K v h' nx'=.ok True) :
  IR.run zu.t34 (CS Tryz.prog B) 1000010 (fnO zu.res K) (yu zu.res K) (zu.fr (um x) (um y) x2 x3 x4 x5 x6 x7 x8 x9 x10 x11) h nx=.ok True:=by
 rw [zu.t34,zA,zu.bV,fU,gu (by omega)];refine sMk1 (n:=x.length+1) H0 (by omega) (by omega) fun id h1 nx1 H1 => ?_;rw [zA,zu.bf,zA,zA,zu.rD,fU,zL];refine zu.zni (fun m x4 x9 h' nx'=>∃ (i c:Nat) (Z:List Nat),x4=U c/\x9=I (i:Int)/\m+i=x.length/\Z.length=i/\Dg 18446744073709551616 Z/\c<=1/\bv 18446744073709551616 Z+18446744073709551616 ^ i*c=bv 18446744073709551616 (x.take i)+bv 18446744073709551616 (y.take i)/\Hp h0 h' nx' [.arr id ((Z++List.replicate (m+1) 0).map U)]) (m:=x.length) (by omega) ⟨0,0,[],rfl,rfl,rfl,rfl,fun _ h=>by simp at h,by omega,by simp [bv],H1⟩ ?_;rintro m z4 z5 z6 z9 z10 z11 h3 nx3 R ⟨i,c,Z,rfl,rfl,hm,hZ,hd,hc,hs,H3⟩ hR;rw [zu.t24,zA,zu.sD,uf];by_cases ci:i<x.length
 case neg =>
  have hm0:m=0:=by omega
  subst hm0;rw [Zab (by omega),zA,zB,zu.v10,zC,zX,yF,zA,zu.tC,fU,sIx (i:=x.length) (by omega) (by omega)];refine H3.store (k:=0) rfl (by simp;omega) rfl fun h4 H4 => ?_;rw [zA,zu.zeu];have e:((Z++List.replicate (0+1) 0).map U).set x.length (U c)=(Z++[c]).map U:=by
   rw [Zav,Zav];exact gQ (by rw [Zaz];omega)
  simp only [Zbq] at H4;rw [e] at H4;have hl:(Z++[c]).length=x.length+1:=by simp;omega
  have hcW:c<18446744073709551616:=by omega
  obtain ⟨h5,hkp,H5,hF⟩:=H4.letU hl;refine xZ hkp (.cons hF .nil) ?_;refine wB (hd.append (Dg.one hcW)) (by omega) (by omega) _ _ _ _ ?_;rintro _ rfl _;simp only [zK,zR];rw [zu.ret];refine hK _ _ _ _ _ H5 (yB (gX _)) ?_;rw [gJ,hZ];rw [hs,Zae (by omega),Zae (by omega)]
 have ex:=getD_some (l:=x) (k:=i) ci;rw [Zac (by omega),zA,zB,zu.v10,zE,zF,zA,zL,zA,zu.nR,zA,zu.fM,zA,zA,zu.nS,fU,uf,zB,zu.v11];by_cases cj:i<y.length
 ·rw [Zac (by omega),zE,zu.ng,uIx (i:=i) rfl cj,uLd (getD_some cj)];rw [zu.nZ,zu.oQ,zu.zaa,uIx (i:=i) rfl ci,uLd ex,zu.zc2,zu.zab];refine xY hc _ _ _ _ ?_;rintro _ rfl _;rw [zu.zrj,zu.zja,yJ,yH,sIx (i:=i) rfl (by omega)];refine H3.store (k:=0) rfl (by simp;omega) rfl fun h4 H4 => ?_;rw [zu.zri,zu.zjb,zu.sU,gu (by omega)];refine hR (m-1) _ _ _ _ _ _ _ _ (by omega) ⟨i+1,(x.getD i 0+y.getD i 0+c) / 18446744073709551616,Z++[(x.getD i 0+y.getD i 0+c)%18446744073709551616],rfl,by congr 1,by omega,by simp;omega,hd.append (Dg.one (Zbl _ (by decide))),?_,?_,?_⟩
  ·exact zbz (y0 (by decide) hx) (y0 (by decide) hy) hc
  ·rw [gJ,hZ,zY,zY,Zbg];exact zb1 hs
  ·have e:((Z++List.replicate (m+1) 0).map U).set i (U ((x.getD i 0+y.getD i 0+c)%18446744073709551616))=((Z++[(x.getD i 0+y.getD i 0+c)%18446744073709551616])++List.replicate (m-1+1) 0).map U:=by
    rw [Zav,Zcb,Zbt,gQ (by rw [Zaz];omega),Zav,Zav,Zbk,show m-1+1=m by omega];rfl
   rw [<- e];exact H4
 ·have e0:y.getD i 0=0:=by rw [Zaa,List.getElem?_eq_none (by omega)];rfl
  rw [Zab (by omega),zC,zF,show AV.int .u64 0=U (y.getD i 0) by rw [e0];rfl];rw [zu.nZ,zu.oQ,zu.zaa,uIx (i:=i) rfl ci,uLd ex,zu.zc2,zu.zab];refine xY hc _ _ _ _ ?_;rintro _ rfl _;rw [zu.zrj,zu.zja,yJ,yH,sIx (i:=i) rfl (by omega)];refine H3.store (k:=0) rfl (by simp;omega) rfl fun h4 H4 => ?_;rw [zu.zri,zu.zjb,zu.sU,gu (by omega)];refine hR (m-1) _ _ _ _ _ _ _ _ (by omega) ⟨i+1,(x.getD i 0+y.getD i 0+c) / 18446744073709551616,Z++[(x.getD i 0+y.getD i 0+c)%18446744073709551616],rfl,by congr 1,by omega,by simp;omega,hd.append (Dg.one (Zbl _ (by decide))),?_,?_,?_⟩
  ·exact zbz (y0 (by decide) hx) (y0 (by decide) hy) hc
  ·rw [gJ,hZ,zY,zY,Zbg];exact zb1 hs
  ·have e:((Z++List.replicate (m+1) 0).map U).set i (U ((x.getD i 0+y.getD i 0+c)%18446744073709551616))=((Z++[(x.getD i 0+y.getD i 0+c)%18446744073709551616])++List.replicate (m-1+1) 0).map U:=by
    rw [Zav,Zcb,Zbt,gQ (by rw [Zaz];omega),Zav,Zav,Zbk,show m-1+1=m by omega];rfl
   rw [<- e];exact H4
theorem zz7 {x y:List Nat} (hx:Dg 18446744073709551616 x) (hy:Dg 18446744073709551616 y) (lx:x.length<=100000) (ly:y.length<=100000):Pure Tryz.prog B 269 [um x,um y] (· = um (dg 18446744073709551616 (bv 18446744073709551616 x+bv 18446744073709551616 y))):=by
 refine yC fun h nx K H0 hK=>zQ zW yX 1000010 fun hf => ?_;rw [zu.go,zu.t36,zA,zu.jk,zA,zA,zu.ji,fU,fU,uf,zB,zu.v7];by_cases c:x.length<y.length
 ·rw [Zac (by omega),zE,zu.qh];exact zkh hy hx ly (by omega) H0 fun v h' nx' L v' a b e=>hK v h' nx' L v' a b (by rw [e,Zda])
 ·rw [Zab (by omega),zC,zF];exact zkh hx hy lx (by omega) H0 hK
theorem zda {P b X Y x y c Z:Nat} (hx:x<b) (hy:y<b) (hc:c<=1) (h:Z+Y=X+P*c) (hb:1<=b) :
  (Z+P*((x+b-y-c)%b))+(Y+P*y)=(X+P*x)+P*b*(if x<y+c then 1 else 0):=by
 have q:(x+b-y-c)%b+y+c=x+b*(if x<y+c then 1 else 0):=by
  by_cases d:x<y+c
  ·rw [if_pos d,Zap (by omega)];omega
  ·rw [if_neg d,show x+b-y-c=(x-y-c)+b by omega,Zgb,Zap (by omega)];omega
 have e:=congrArg (P * ·) q;simp only [Zax] at e;rw [Zbe P b];omega
theorem zz8 {x y:List Nat} (hx:Dg 18446744073709551616 x) (hy:Dg 18446744073709551616 y) (l1:1<=x.length) (lx:x.length<=100000) (ly:y.length<=x.length) (hv:bv 18446744073709551616 y<=bv 18446744073709551616 x):Pure Tryz.prog B 271 [um x,um y] (· = um (dg 18446744073709551616 (bv 18446744073709551616 x-bv 18446744073709551616 y))):=by
 refine yC fun h nx K H0 hK=>zQ zW yX 1000010 fun hf => ?_;rw [yc.go,yc.t29,zA,yc.jk,zA,yc.ji,fU];refine sMk1 (n:=x.length) H0 rfl (by omega) fun id h1 nx1 H1 => ?_;rw [zA,yc.qh,zA,zA,yc.nU,fU,zL];refine yc.znk (fun m x4 x8 h' nx'=>∃ (i c:Nat) (Z:List Nat),x4=U c/\x8=I (i:Int)/\m+i=x.length/\Z.length=i/\Dg 18446744073709551616 Z/\c<=1/\bv 18446744073709551616 Z+bv 18446744073709551616 (y.take i)=bv 18446744073709551616 (x.take i)+18446744073709551616 ^ i*c/\Hp h h' nx' [.arr id ((Z++List.replicate m 0).map U)]) (m:=x.length) (by omega) ⟨0,0,[],rfl,rfl,rfl,rfl,fun _ h=>by simp at h,by omega,by simp [bv],H1⟩ ?_;rintro m z4 z5 z6 z8 z9 z10 h3 nx3 R ⟨i,c,Z,rfl,rfl,hm,hZ,hd,hc,hs,H3⟩ hR;rw [yc.t20,zA,yc.ny,uf];by_cases ci:i<x.length
 case neg =>
  have hm0:m=0:=by omega
  subst hm0;rw [Zab (by omega),zA,zB,yc.v9,zC,zX,yF,zA,yc.eH];simp only [Zet,Zcg] at H3;obtain ⟨h5,hkp,H5,hF⟩:=H3.letU (n:=x.length) (by omega);refine xZ hkp (.cons hF .nil) ?_;refine wB hd (by omega) (by omega) _ _ _ _ ?_;rintro _ rfl _;simp only [zK,zR];rw [yc.ret];refine hK _ _ _ _ _ H5 (yB (gX _)) ?_;rw [Zae (by omega),Zae (by omega)] at hs;have hlt:=vB (b:=18446744073709551616) (by decide) hd;rw [hZ] at hlt;have c0:c=0:=by
   rcases Zce c with q | q
   ·exact q
   ·have:18446744073709551616 ^ i*1<=18446744073709551616 ^ i*c:=Zbc _ q;omega
  subst c0
  congr 2
  omega
 have ex:=getD_some (l:=x) (k:=i) ci;rw [Zac (by omega),zA,zB,yc.v9,zE,zF,zA,zL,zA,yc.bf,zA,yc.rD,zA,zA,yc.sD,fU,uf,zB,yc.v10];by_cases cj:i<y.length
 ·rw [Zac (by omega),zE,yc.ax,uIx (i:=i) rfl cj,uLd (getD_some cj)];rw [yc.nS,yc.r9_0,yc.zdk,uIx (i:=i) rfl ci,uLd ex,yc.r9_1,yc.oH];refine zeh hc _ _ _ _ ?_;rintro _ rfl _;rw [yc.r9_2,yc.oI,yJ,yH,sIx (i:=i) rfl (by omega)];refine H3.store (k:=0) rfl (by simp;omega) rfl fun h4 H4 => ?_;rw [yc.r9_3,yc.znj,yc.rV,gu (by omega)];refine hR (m-1) _ _ _ _ _ _ _ _ (by omega) ⟨i+1,if x.getD i 0<y.getD i 0+c then 1 else 0,Z++[(x.getD i 0+18446744073709551616-y.getD i 0-c)%18446744073709551616],rfl,by congr 1,by omega,by simp;omega,hd.append (Dg.one (Zbl _ (by decide))),?_,?_,?_⟩
  ·split <;> omega
  ·rw [gJ,hZ,zY,zY,Zbg];exact zda (y0 (by decide) hx) (y0 (by decide) hy) hc hs (by decide)
  ·have e:((Z++List.replicate m 0).map U).set i (U ((x.getD i 0+18446744073709551616-y.getD i 0-c)%18446744073709551616))=((Z++[(x.getD i 0+18446744073709551616-y.getD i 0-c)%18446744073709551616])++List.replicate (m-1) 0).map U:=by
    obtain ⟨k,rfl⟩:∃ k,m=k+1:=⟨m-1,by omega⟩;rw [Zav,Zcb,Zbt,gQ (by rw [Zaz];omega),Zav,Zav,Zbk];rfl
   rw [<- e];exact H4
 ·have e0:y.getD i 0=0:=by rw [Zaa,List.getElem?_eq_none (by omega)];rfl
  rw [Zab (by omega),zC,zF,show AV.int .u64 0=U (y.getD i 0) by rw [e0];rfl];rw [yc.nS,yc.r9_0,yc.zdk,uIx (i:=i) rfl ci,uLd ex,yc.r9_1,yc.oH];refine zeh hc _ _ _ _ ?_;rintro _ rfl _;rw [yc.r9_2,yc.oI,yJ,yH,sIx (i:=i) rfl (by omega)];refine H3.store (k:=0) rfl (by simp;omega) rfl fun h4 H4 => ?_;rw [yc.r9_3,yc.znj,yc.rV,gu (by omega)];refine hR (m-1) _ _ _ _ _ _ _ _ (by omega) ⟨i+1,if x.getD i 0<y.getD i 0+c then 1 else 0,Z++[(x.getD i 0+18446744073709551616-y.getD i 0-c)%18446744073709551616],rfl,by congr 1,by omega,by simp;omega,hd.append (Dg.one (Zbl _ (by decide))),?_,?_,?_⟩
  ·split <;> omega
  ·rw [gJ,hZ,zY,zY,Zbg];exact zda (y0 (by decide) hx) (y0 (by decide) hy) hc hs (by decide)
  ·have e:((Z++List.replicate m 0).map U).set i (U ((x.getD i 0+18446744073709551616-y.getD i 0-c)%18446744073709551616))=((Z++[(x.getD i 0+18446744073709551616-y.getD i 0-c)%18446744073709551616])++List.replicate (m-1) 0).map U:=by
    obtain ⟨k,rfl⟩:∃ k,m=k+1:=⟨m-1,by omega⟩;rw [Zav,Zcb,Zbt,gQ (by rw [Zaz];omega),Zav,Zav,Zbk];rfl
   rw [<- e];exact H4
theorem zsa {N P Q b p z c X Y y x:Nat} (h:N+P*Q*c=X+P*(x*Y)) (hp:p=x*y) :
  (N+P*Q*((p+z+c)%b))+P*(Q*b)*((p+z+c) / b)=(X+P*Q*z)+P*(x*(Y+Q*y)):=by
 have e:P*Q*((p+z+c)%b)+P*(Q*b)*((p+z+c) / b)=P*Q*(p+z+c):=by
  rw [<- Zbe P Q b,Zbe (P*Q) b,<- Zax,Zdc]
 have e2:P*Q*(p+z+c)=P*Q*p+P*Q*z+P*Q*c:=by rw [Zax,Zax]
 have e3:P*(x*(Y+Q*y))=P*(x*Y)+P*Q*p:=by
  rw [hp,Zax,Zax,<- Zbe x Q y,Zaq x Q,Zbe Q x y,<- Zbe P Q]
 omega
theorem zz9 {a b:List Nat} (ha:Dg 18446744073709551616 a) (hb:Dg 18446744073709551616 b) (l1:1<=a.length+b.length) (la:a.length<=100000) (lb:b.length<=100000):Pure Tryz.prog B 276 [um a,um b] (· = um (dg 18446744073709551616 (bv 18446744073709551616 a*bv 18446744073709551616 b))):=by
 refine yC fun h nx K H0 hK=>zQ zW yX 1000010 fun hf => ?_;rw [zo.go,zo.t47,zA,zo.jk,zA,zo.ji,fU,fU,gu (by omega)];refine sMk1 (n:=a.length+b.length) H0 (by omega) (by omega) fun id h1 nx1 H1 => ?_;rw [zA,zA,zo.qh,fU,zL];refine zo.qas (fun m x14 h' nx'=>∃ (i:Nat) (Z:List Nat),x14=I (i:Int)/\m+i=a.length/\Z.length=i+b.length/\Dg 18446744073709551616 Z/\bv 18446744073709551616 Z=bv 18446744073709551616 (a.take i)*bv 18446744073709551616 b/\Hp h h' nx' [.arr id ((Z++List.replicate m 0).map U)]) (m:=a.length) (by omega) ⟨0,List.replicate b.length 0,rfl,rfl,by simp,Dg.rep (by decide),by rw [zz6];simp [bv],by rw [List.replicate_append_replicate,Zda];exact H1⟩ ?_;rintro m z4 z5 z6 z7 z8 z9 z10 z11 z14 z15 z16 z17 z18 z19 h3 nx3 R ⟨i,Z,rfl,hm,hZ,hd,hs,H3⟩ hR;rw [zo.t39,zA,zo.nU,uf];by_cases ci:i<a.length
 case neg =>
  have hm0:m=0:=by omega
  subst hm0;rw [Zab (by omega),zA,zB,zo.v15,zC,zX,yF,zA,zo.zck];simp only [Zet,Zcg] at H3;obtain ⟨h5,hkp,H5,hF⟩:=H3.letU (n:=a.length+b.length) (by omega);refine xZ hkp (.cons hF .nil) ?_;refine wB hd (by omega) (by omega) _ _ _ _ ?_;rintro _ rfl _;simp only [zK,zR];rw [zo.ret];refine hK _ _ _ _ _ H5 (yB (gX _)) ?_;rw [hs,Zae (by omega)]
 have ex:=getD_some (l:=a) (k:=i) ci;have hxW:=y0 (k:=i) (by decide) ha;rw [Zac (by omega),zA,zB,zo.v15,zE,zF,zA,zL,zA,zo.bV,uIx (i:=i) rfl ci,uLd ex,zA,zo.bf,zA,zA,zo.rD,fU,zL];obtain ⟨k,rfl⟩:∃ k,m=k+1:=⟨m-1,by omega⟩
 generalize hx:a.getD i 0=x at *
 refine zo.qar (fun n x6 x18 h' nx'=>∃ (j c:Nat) (N:List Nat),x6=U c/\x18=I (j:Int)/\n+j=b.length/\c<18446744073709551616/\N.length=i+j/\Dg 18446744073709551616 N/\bv 18446744073709551616 N+18446744073709551616 ^ i*18446744073709551616 ^ j*c=bv 18446744073709551616 (Z.take (i+j))+18446744073709551616 ^ i*(x*bv 18446744073709551616 (b.take j))/\Hp h h' nx' [.arr id ((N++(Z.drop (i+j)++List.replicate (k+1) 0)).map U)]) (m:=b.length) (by omega) ⟨0,0,Z.take i,rfl,rfl,rfl,by decide,by simp [hZ],hd.take,by simp [bv],by rw [Zcc,<- Zbk,Zdl];exact H3⟩ ?_;rintro n y6 y7 y8 y9 y10 y11 y18 y19 h4 nx4 R4 ⟨j,c,N,rfl,rfl,hn,hc,hN,hdN,hsN,H4⟩ hR4;rw [zo.t27,zA,zo.sD,uf];by_cases cj:j<b.length
 case neg =>
  have hj:j=b.length:=by omega
  subst hj;rw [Zab (by omega),zA,zB,zo.v19,zC,zX,yF,zo.zey,fU,gu (by omega),sIx (i:=i+b.length) (by omega) (by omega)];rw [show Z.drop (i+b.length)=[] from Zfe (by omega),Zcs,Zcb] at H4;refine H4.store (k:=0) rfl (by simp;omega) rfl fun h5 H5 => ?_;rw [zo.ay,gu (by omega)];refine hR k _ _ _ _ _ _ _ _ _ _ _ _ _ _ _ _ (by omega) ⟨i+1,N++[c],by congr 1,by omega,by simp;omega,hdN.append (Dg.one hc),?_,?_⟩
  ·rw [gJ,hN,Zdj,hsN,Zae (by omega),Zae (by omega),hs,zY,hx,Zam,Zbe]
  ·simp only [Zbq] at H5;rw [Zav,Zbt,gQ (by rw [Zaz];omega)] at H5;rw [Zav,Zav,Zbk];exact H5
 have ey:=getD_some (l:=b) (k:=j) cj;have hyW:=y0 (k:=j) (by decide) hb;have ez:=getD_some (l:=Z) (k:=i+j) (by omega);have hzW:=y0 (k:=i+j) (by decide) hd;rw [Zac (by omega),zA,zB,zo.v19,zE,zF,zA,zL,zA,zo.nR,uIx (i:=j) rfl cj,uLd ey,zA,zo.fM]
 generalize hy:b.getD j 0=y at *
 generalize hz:Z.getD (i+j) 0=z at *
 refine zei hxW hyW _ _ _ _ ?_;rintro _ rfl _;have hp:x*y<=340282366920938463426481119284349108225:=Zbd (show x<=18446744073709551615 by omega) (show y<=18446744073709551615 by omega);have hsplit:Z.drop (i+j)++List.replicate (k+1) 0=z::(Z.drop (i+(j+1))++List.replicate (k+1) 0):=by
  rw [Zay (show i+j<Z.length by omega),Zco];rw [List.getElem?_eq_getElem (show i+j<Z.length by omega)] at ez;rw [Option.some.inj ez];rfl
 rw [hsplit] at H4;have ld:((N++z::(Z.drop (i+(j+1))++List.replicate (k+1) 0)).map U)[i+j]? = some (U z):=uGet (by rw [List.getElem?_append_right (by omega),show i+j-N.length=0 by omega];rfl);rw [yJ,yH,zA,zo.nS,zA,zo.ng,zo.oQ,zo.zaa,gu (by omega),sIx (i:=i+j) (by omega) (by omega),H4.load (k:=0) rfl ld];refine xY (c:=0) (by omega) _ _ _ _ ?_;rintro _ rfl _;rw [zo.zc2,zo.zab,yJ,yH,zA,zo.rq,uAdd,zA,zo.sF];refine xY (c:=0) (by omega) _ _ _ _ ?_;rintro _ rfl _;rw [yJ,yH,zo.nZ,gu (by omega),uAdd,sIx (i:=i+j) (by omega) (by omega)];refine H4.store (k:=0) rfl (by simp;omega) rfl fun h5 H5 => ?_;rw [zo.eH,gu (by omega)];have e1:((x*y%18446744073709551616+z+0)%18446744073709551616+c+0)%18446744073709551616=(x*y+z+c)%18446744073709551616:=by omega
 have e2:((x*y / 18446744073709551616+(x*y%18446744073709551616+z+0) / 18446744073709551616)%18446744073709551616+((x*y%18446744073709551616+z+0)%18446744073709551616+c+0) / 18446744073709551616)%18446744073709551616=(x*y+z+c) / 18446744073709551616:=by
  generalize x*y=p at *
  omega
 rw [e1] at H5;rw [e2];refine hR4 (n-1) _ _ _ _ _ _ _ _ _ _ (by omega) ⟨j+1,(x*y+z+c) / 18446744073709551616,N++[(x*y+z+c)%18446744073709551616],rfl,by congr 1,by omega,?_,by simp;omega,hdN.append (Dg.one (Zbl _ (by decide))),?_,?_⟩
 ·generalize x*y=p at *
  omega
 ·rw [gJ,hN,Zdj,show i+(j+1)=(i+j)+1 by omega,zY,zY,hz,hy,Zbg,Zdj];exact zsa hsN rfl
 ·simp only [Zbq] at H5;rw [Zav,Zbt,gQ (by rw [Zaz];omega)] at H5;rw [Zav,Zav,Zbk];exact H5
theorem uShl {m n:Nat} {k:IntKind} {K:AV->OP} (hn:n<=64):zh .shl .int (U m) (.int k (n:Int)) K=K (U (m*2 ^ n%18446744073709551616)):=by
 have e:zh .shl .int (U m) (.int k (n:Int)) K=(bif ilt (n:Int) 0 then Out.no 5 else ql (IntKind.u64.wrap ((m:Int)*(2 ^ (min (n:Int).toNat IntKind.u64.bits)))) fun z=>K (.int .u64 z)):=by cases k <;> rfl
 have h0:ilt (n:Int) 0=false:=rfl;rw [e,h0,cond_false,gI];have hb:IntKind.u64.bits=64:=rfl;rw [hb,Zei,Zby hn,show (m:Int)*2 ^ n=((m*2 ^ n:Nat):Int) by rw [Zcr,Int.natCast_pow];rfl,zit]
theorem ziw {a n i:Nat} (h:a<2 ^ i):a ||| n*2 ^ i=a+n*2 ^ i:=by
 have e:=Nat.shiftLeft_add_eq_or_of_lt h n;rw [Nat.shiftLeft_eq] at e;rw [Nat.or_comm,<- e,Zda]
theorem uOr {a b c:Nat} {K:AV->OP} (ha:a<18446744073709551616) (hb:b<18446744073709551616) (h:a ||| b=c):zh .or .int (U a) (U b) K=K (U c):=by
 have e:zh .or .int (U a) (U b) K=ql (IntKind.u64.wrap ((BitVec.ofInt 64 (a:Int) ||| BitVec.ofInt 64 (b:Int)).toNat:Int)) fun z=>K (.int .u64 z):=rfl;have h1:(BitVec.ofInt 64 (a:Int) ||| BitVec.ofInt 64 (b:Int)).toNat=c:=by
  rw [BitVec.ofInt_natCast,BitVec.ofInt_natCast,BitVec.toNat_or,BitVec.toNat_ofNat,BitVec.toNat_ofNat,Zap ha,Zap hb,h]
 have h2:c<18446744073709551616:=by
  rw [<- h];exact Nat.or_lt_two_pow (n:=64) ha hb
 rw [e,gI,h1,zgk (by omega)]
def zb2:List UInt8:=[0,1,2,2,3,3,3,3,4,4,4,4,4,4,4,4,5,5,5,5,5,5,5,5,5,5,5,5,5,5,5,5,6,6,6,6,6,6,6,6,6,6,6,6,6,6,6,6,6,6,6,6,6,6,6,6,6,6,6,6,6,6,6,6,7,7,7,7,7,7,7,7,7,7,7,7,7,7,7,7,7,7,7,7,7,7,7,7,7,7,7,7,7,7,7,7,7,7,7,7,7,7,7,7,7,7,7,7,7,7,7,7,7,7,7,7,7,7,7,7,7,7,7,7,7,7,7,7,8,8,8,8,8,8,8,8,8,8,8,8,8,8,8,8,8,8,8,8,8,8,8,8,8,8,8,8,8,8,8,8,8,8,8,8,8,8,8,8,8,8,8,8,8,8,8,8,8,8,8,8,8,8,8,8,8,8,8,8,8,8,8,8,8,8,8,8,8,8,8,8,8,8,8,8,8,8,8,8,8,8,8,8,8,8,8,8,8,8,8,8,8,8,8,8,8,8,8,8,8,8,8,8,8,8,8,8,8,8,8,8,8,8,8,8,8,8,8,8,8,8,8,8,8,8,8,8]
theorem zmx:∀ i<256,(zb2[i]?).all (fun t=>decide (t.toNat<=8/\i<2 ^ t.toNat/\(0<i->2 ^ t.toNat<=2*i)))=true/\(zb2[i]?).isSome=true:=by decide
def zb3 (x n:Nat):Prop:=n<=64/\x<2 ^ n/\(0<x->2 ^ n<=2*x)
theorem zb4 {x n k:Nat} (h:zb3 (x / 2 ^ k) n) (hx:2 ^ k<=x) (hn:n+k<=64):zb3 x (n+k):=by
 obtain ⟨h1,h2,h3⟩:=h;have hp:0<2 ^ k:=Zct (by omega);have h4:0<x / 2 ^ k:=Nat.div_pos hx hp;refine ⟨hn,?_,fun _ => ?_⟩
 ·rw [Zdj];exact (Zcj hp).1 h2
 ·rw [Zdj];have:=Zai (2 ^ k) (h3 h4);have h5:=Zft x (2 ^ k);rw [Zbe] at this;omega
theorem zki {x n:Nat} {K:Kw Prop} {h:T Blk} {nx:Pa} {x2 x3 x4:AV} (hx:x<256) (hn:n<=1000) (hK:∀ t,zb3 x t->t<=8->K (I ((n+t:Nat):Int)) h nx=.ok True) :
  IR.run yx.t20 (CS Tryz.prog B) 100 (fnO yx.res K) (yu yx.res K) (yx.fr (U x) (I (n:Int)) x2 x3 x4) h nx=.ok True:=by
 obtain ⟨a,b⟩:=zmx x hx;obtain ⟨t,ht⟩:=Option.isSome_iff_exists.1 b;rw [ht] at a;simp only [Option.all_some,decide_eq_true_eq] at a;have hs:∀ K:AV->OP,znl (.str zb2) (.int .u8 (x:Int)) K=K (.int .u8 (t.toNat:Int)):=fun K=>by
  show (match zb2[x]? with
   | some b=>xw b.toNat fun n=>K (.int .u8 (.ofNat n))
   | none=>.no 16)=_
  rw [ht];simp only [yQ];rfl
 have hc:∀ K:AV->OP,qN .u8 (U x) K=K (.int .u8 (x:Int)):=fun K=>by
  show ql (u9 .u8 (x:Int)) (fun z=>K (.int .u8 z))=_;rw [gI,qJ];have e:IntKind.wrap .u8 (x:Int)=(x:Int)%256:=by
   unfold IntKind.wrap;first | rfl | simp [IntKind.bits,IntKind.signed]
  rw [e,show (x:Int)%256=(x:Int) by omega]
 rw [yx.t20,zA,yx.sV,hc];rw [show (AV.str [0,1,2,2,3,3,3,3,4,4,4,4,4,4,4,4,5,5,5,5,5,5,5,5,5,5,5,5,5,5,5,5,6,6,6,6,6,6,6,6,6,6,6,6,6,6,6,6,6,6,6,6,6,6,6,6,6,6,6,6,6,6,6,6,7,7,7,7,7,7,7,7,7,7,7,7,7,7,7,7,7,7,7,7,7,7,7,7,7,7,7,7,7,7,7,7,7,7,7,7,7,7,7,7,7,7,7,7,7,7,7,7,7,7,7,7,7,7,7,7,7,7,7,7,7,7,7,7,8,8,8,8,8,8,8,8,8,8,8,8,8,8,8,8,8,8,8,8,8,8,8,8,8,8,8,8,8,8,8,8,8,8,8,8,8,8,8,8,8,8,8,8,8,8,8,8,8,8,8,8,8,8,8,8,8,8,8,8,8,8,8,8,8,8,8,8,8,8,8,8,8,8,8,8,8,8,8,8,8,8,8,8,8,8,8,8,8,8,8,8,8,8,8,8,8,8,8,8,8,8,8,8,8,8,8,8,8,8,8,8,8,8,8,8,8,8,8,8,8,8,8,8,8,8,8,8])=.str zb2 from rfl,hs,mP (by omega),gu (by omega)];simp only [zK,zR];rw [yx.ret,show (n:Int)+(t.toNat:Int)=((n+t.toNat:Nat):Int) by omega];exact hK _ ⟨by omega,a.2⟩ a.1
theorem qaa {x:Nat} (hx:x<18446744073709551616):Pure Tryz.prog B 348 [U x] (fun v=>∃ n:Nat,v=I (n:Int)/\zb3 x n):=by
 intro p h nx K hK;refine zQ zW yX 100 fun hf => ?_;have fin:∀ {n},zb3 x n->K (I (n:Int)) h nx=.ok True:=fun h'=>hK _ ⟨_,rfl,h'⟩ hf;have s3:∀ (y n:Nat) (x2 x3 x4:AV),y<65536->n<=48->(∀ t,zb3 y t->t<=16->K (I ((n+t:Nat):Int)) h nx=.ok True)->IR.run yx.t21 (CS Tryz.prog B) 100 (fnO yx.res K) (yu yx.res K) (yx.fr (U y) (I (n:Int)) x2 x3 x4) h nx=.ok True:=fun y n x2 x3 x4 hy hn hK'=>by
  rw [yx.t21,zA,zA,yx.ng,show (AV.int .u64 256)=U 256 from rfl,uGeq,zB,yx.v4];by_cases c:256<=y
  ·rw [Zac c,zE,zA,yx.rq,show (AV.int .u64 8)=.int .u64 ((8:Nat):Int) from rfl,uShr (by omega),yx.sF,gu (by omega),show (n:Int)+8=((n+8:Nat):Int) by omega];exact zki (by omega) (by omega) fun t h1 h2=>by
    have:=hK' (t+8) (zb4 h1 c (by omega)) (by omega)
    rwa [show n+(t+8)=n+8+t by omega] at this
  ·rw [Zab c,zC,zF];exact zki (by omega) (by omega) fun t h1 h2=>hK' t h1 (by omega)
 have s2:∀ (y n:Nat) (x2 x3 x4:AV),y<4294967296->n<=32->(∀ t,zb3 y t->t<=32->K (I ((n+t:Nat):Int)) h nx=.ok True)->IR.run yx.t22 (CS Tryz.prog B) 100 (fnO yx.res K) (yu yx.res K) (yx.fr (U y) (I (n:Int)) x2 x3 x4) h nx=.ok True:=fun y n x2 x3 x4 hy hn hK'=>by
  rw [yx.t22,zA,zA,yx.rD,show (AV.int .u64 65536)=U 65536 from rfl,uGeq,zB,yx.v3];by_cases c:65536<=y
  ·rw [Zac c,zE,zA,yx.sD,show (AV.int .u64 16)=.int .u64 ((16:Nat):Int) from rfl,uShr (by omega),yx.ax,gu (by omega),show (n:Int)+16=((n+16:Nat):Int) by omega];exact s3 _ _ _ _ _ (by omega) (by omega) fun t h1 h2=>by
    have:=hK' (t+16) (zb4 h1 c (by omega)) (by omega)
    rwa [show n+(t+16)=n+16+t by omega] at this
  ·rw [Zab c,zC,zF];exact s3 _ _ _ _ _ (by omega) (by omega) fun t h1 h2=>hK' t h1 (by omega)
 rw [yx.go,yx.t24,zA,yx.jk,zA,zA,yx.ji,show (AV.int .u64 4294967296)=U 4294967296 from rfl,uGeq,zB,yx.v2];by_cases c:4294967296<=x
 ·rw [Zac c,zE,zA,yx.qh,show (AV.int .u64 32)=.int .u64 ((32:Nat):Int) from rfl,uShr (by omega),yx.nU];exact s2 _ 32 _ _ _ (by omega) (by omega) fun t h1 h2=>by
   have:=fin (zb4 h1 c (by omega))
   rwa [show t+32=32+t by omega] at this
 ·rw [Zab c,zC,zF];exact s2 _ 0 _ _ _ (by omega) (by omega) fun t h1 h2=>by
   have:=fin h1
   rwa [show t=0+t by omega] at this
theorem zkj {x:Nat} (h1:1<=x) (hx:x<18446744073709551616):Pure Tryz.prog B 336 [U x] (fun v=>∃ s:Nat,v=I (s:Int)/\s<=63/\x*2 ^ s<18446744073709551616/\9223372036854775808<=x*2 ^ s):=by
 intro p h nx K hK;refine zQ zW yX 100 fun hf => ?_;rw [bZ.go,bZ.t3,zA,bZ.jk,zA,bZ.ji];refine qaa hx _ _ _ _ ?_;rintro _ ⟨n,rfl,hn,h2,h3⟩ _;rw [vw (by omega)];simp only [zK,zR];rw [bZ.ret,show (64:Int)-(n:Int)=((64-n:Nat):Int) by omega];have hn1:1<=n:=by
  rcases Zce n with q | q
  ·subst q;simp at h2;omega
  ·exact q
 have e:2 ^ n*2 ^ (64-n)=18446744073709551616:=by rw [<- Zdj,show n+(64-n)=64 by omega]
 have hp:0<2 ^ (64-n):=Zct (by omega);have g1:x*2 ^ (64-n)<2 ^ n*2 ^ (64-n):=Zen h2 hp;have g2:2 ^ n*2 ^ (64-n)<=2*x*2 ^ (64-n):=Zai _ (h3 (by omega));rw [Zbe 2] at g2;exact hK _ ⟨_,rfl,by omega,by omega,by omega⟩ hf
def Gs (b u1 u0 v1 v2 q r:Nat):Prop:=q*v1+r=u1/\u1*b+u0<(q+1)*(v1*b+v2)/\r<b
theorem zkk {b u1 u0 v1 v2:Nat} (hv:1<=v1) (hvb:v1<=b) (hu:u0<b):Gs b u1 u0 v1 v2 (u1 / v1) (u1%v1):=by
 have hr:u1 / v1*v1+u1%v1=u1:=by rw [Zaq];exact Zdg u1 v1
 have h:=Zbl u1 (show 0<v1 by omega);refine ⟨hr,?_,by omega⟩;exact zkf (b:=b) (P:=1) (U:=u1*b+u0) (V:=v1*b+v2) (v2:=v2) (ul:=0) (vl:=0) (by simp) (by omega) hu (by simp) hr h
theorem zek {b u1 u0 v1 v2 q r:Nat} (h:Gs b u1 u0 v1 v2 q r) (hu:u1<v1*b+v2) (hu0:u0<b) (ht:b<=q\/r*b+u0<q*v2):1<=q/\(q-1)*v1+(r+v1)=u1/\u1*b+u0<(q-1+1)*(v1*b+v2):=by
 obtain ⟨h1,h2,h3⟩:=h;have k:u1*b+u0<q*(v1*b+v2):=by
  rcases ht with c | c
  ·have e1:(u1+1)*b<=(v1*b+v2)*b:=Zai b hu;have e2:b*(v1*b+v2)<=q*(v1*b+v2):=Zai _ c;rw [Zam,Zbs] at e1;rw [Zaq (v1*b+v2) b] at e1;omega
  ·exact zr3 (b:=b) (P:=1) (U:=u1*b+u0) (V:=v1*b+v2) (v1:=v1) (ul:=0) (vl:=0) (by simp) (by omega) (by simp) h1 c
 have hq:1<=q:=by
  rcases Zce q with e | e
  ·subst e;simp at k
  ·exact e
 refine ⟨hq,?_,by rw [Zez hq];exact k⟩;have:(q-1)*v1+v1=q*v1:=by rw [<- Zdu,Nat.succ_eq_add_one,Zez hq]
 omega
theorem zsb {b u1 u0 v1 v2 q r:Nat} (h1:q*v1+r=u1) (ht:q*v2<=r*b+u0):q*(v1*b+v2)<=u1*b+u0:=by
 have e1:q*(v1*b+v2)=q*v1*b+q*v2:=by rw [Zax,Zbe]
 have e2:u1*b=q*v1*b+r*b:=by rw [<- h1,Zam]
 omega
theorem bM {b u1 u0 v1 v2 q r:Nat} (h1:q*v1+r=u1) (hu:u1<v1*b+v2) (hv2:v2<b) (hr:b<=r):q<b/\q*v2<=r*b+u0:=by
 have hq:q<b:=by
  rcases Zdr q b with c | c
  ·exact c
  ·have:=Zai v1 c;rw [Zaq b v1] at this;omega
 refine ⟨hq,?_⟩;have e1:q*v2<=b*b:=Zbd (by omega) (by omega);have e2:b*b<=r*b:=Zai b hr;omega
theorem qab {q t:Nat} (hq:q<4294967296) (ht:t<4294967296):(q*4294967296%18446744073709551616+t)%18446744073709551616=q*4294967296+t:=by omega
theorem uQuo {a b:Nat} {K:AV->OP} (hb:1<=b) (ha:a<18446744073709551616):zh .quo .int (U a) (U b) K=K (U (a / b)):=by
 have e:zh .quo .int (U a) (U b) K=(bif ieq (b:Int) 0 then Out.no 5 else ql (IntKind.u64.wrap ((a:Int).tdiv b)) fun z=>K (.int .u64 z)):=rfl;have h0:ieq (b:Int) 0=false:=by
  cases b with
  | zero=>omega
  | succ b=>rfl
 have h1:a / b<=a:=Zdd a b;rw [e,h0,cond_false,gI,show (a:Int).tdiv b=((a / b:Nat):Int) from rfl]
 generalize a / b=q at *
 rw [zgk (by omega)]
theorem uRem {a b:Nat} {K:AV->OP} (hb:1<=b) (ha:a<18446744073709551616):zh .rem .int (U a) (U b) K=K (U (a%b)):=by
 have e:zh .rem .int (U a) (U b) K=(bif ieq (b:Int) 0 then Out.no 5 else ql ((a:Int).tmod b) fun z=>K (.int .u64 z)):=rfl;have h0:ieq (b:Int) 0=false:=by
  cases b with
  | zero=>omega
  | succ b=>rfl
 rw [e,h0,cond_false,gI,show (a:Int).tmod b=((a%b:Nat):Int) from rfl]
theorem zvl {hi lo y s u l l1 l0 v1 v2 V q r N:Nat} {x19 x20:AV} {K:Kw Prop} {h3:T Blk} {nx3:Pa} (hN:18446744073709551616<=N) (hs:s<=63) (hall:(hi*18446744073709551616+lo)*2 ^ s=u*18446744073709551616+l) (hV:y*2 ^ s=V) (hv:V<18446744073709551616) (hVe:V=v1*4294967296+v2) (hv1:1<=v1) (hv1b:v1<=4294967296) (hv2b:v2<4294967296) (hle:l=l1*4294967296+l0) (hl1:l1<4294967296) (hl0:l0<4294967296) (huV':u<V)
  (e1:q*v1+r=u) (e2:u*4294967296+l1<(q+1)*(v1*4294967296+v2)) (e3:q<4294967296) (e4:q*v2<=r*4294967296+l1)
  (hK:K (.tup [U ((hi*18446744073709551616+lo) / y),U ((hi*18446744073709551616+lo)%y)]) h3 nx3=.ok True) :
  IR.run zk.t58 (CS Tryz.prog B) N (fnO zk.res K) (yu zk.res K) (zk.fr (U hi) (U lo) (U V) (.int .u64 0) (.int .u64 0) (U s) (U v1) (U v2) (U u) (U l) (U l1) (U l0) (U q) (U r) .u .u (.bool false) (.bool false) (.bool false) x19 x20 .u .u) h3 nx3=.ok True:=by
 have hp:0<2 ^ s:=Zct (by omega);have e5:q*V<=u*4294967296+l1:=by rw [hVe];exact zsb e1 e4
 rw [<- hVe] at e2;have e6:u*4294967296+l1-q*V<V:=by rw [Zam,Zbs] at e2;omega
 rw [zk.t58,zA,zk.ay,show (AV.int .u64 4294967296)=U 4294967296 from rfl,aN,uAdd,aN,zx1 (c:=u*4294967296+l1-q*V) (by
  generalize q*V=A at *
  omega) (by omega),zA,zk.zaf]
 generalize hw:u*4294967296+l1-q*V=w at *
 have hwm:w-w / v1*v1=w%v1:=by
  have:=Zdg w v1;rw [Zaq] at this;omega
 have hwd:w / v1*v1<=w:=Zft w v1;rw [uQuo (by omega) (by omega),zA,zk.ze0,aN,Zap (by omega),uSub hwd (by omega),hwm,zA,zL];refine zk.qau (fun m x13 x15 h' nx'=>∃ q r:Nat,x15=U q/\x13=U r/\m=q/\q<18446744073709551616/\Gs 4294967296 w l0 v1 v2 q r/\h'=h3/\nx'=nx3) (m:=w / v1) (by have:=Zdd w v1;omega) ⟨_,_,rfl,rfl,rfl,by have:=Zdd w v1;omega,zkk hv1 hv1b hl0,rfl,rfl⟩ ?_;rintro m z13 z15 z21 z22 h4 nx4 R ⟨t,r,rfl,rfl,hm,htW,hg,rfl,rfl⟩ hR;have hwV:w<v1*4294967296+v2:=by omega
 have fin2:∀ (t r:Nat) (x21 x22:AV),t*v1+r=w->w*4294967296+l0<(t+1)*(v1*4294967296+v2)->t<4294967296->t*v2<=r*4294967296+l0 ->
   IR.run zk.t54 (CS Tryz.prog B) N (fnO zk.res K) (yu zk.res K) (zk.fr (U hi) (U lo) (U V) (.int .u64 0) (.int .u64 0) (U s) (U v1) (U v2) (U u) (U l) (U l1) (U l0) (U q) (U r) (U w) (U t) (.bool false) (.bool false) (.bool false) x19 x20 x21 x22) h4 nx4=.ok True:=by
  intro t r x21 x22 f1 f2 f3 f4;have f5:t*V<=w*4294967296+l0:=by rw [hVe];exact zsb f1 f4
  rw [<- hVe] at f2;have f6:w*4294967296+l0-t*V<V:=by rw [Zam,Zbs] at f2;omega
  rw [zk.t54,zA,zk.ze2,zk.zns,zk.ztf,show (AV.int .u64 4294967296)=U 4294967296 from rfl,aN,uAdd,aN,uAdd,zk.zxq,zk.ztg,aN,zx1 (c:=w*4294967296+l0-t*V) (by
   generalize t*V=A at *
   omega) (by omega),uShr (by omega)]
  simp only [zK,zR];rw [zk.ret];have g:(hi*18446744073709551616+lo)*2 ^ s=(q*4294967296+t)*(y*2 ^ s)+(w*4294967296+l0-t*V):=by
   rw [hV,hall,Zam];have:q*4294967296*V=q*V*4294967296:=by rw [Zfw]
   omega
  obtain ⟨r,hr⟩:∃ r,w*4294967296+l0-t*V=r:=⟨_,rfl⟩;rw [hr] at g f6 ⊢;have d1:2 ^ s∣r:=by
   refine (Nat.dvd_add_right (Nat.dvd_trans (Nat.dvd_mul_left (2 ^ s) y) (Nat.dvd_mul_left (y*2 ^ s) (q*4294967296+t)))).1 ?_;rw [<- g];exact Nat.dvd_mul_left _ _
  obtain ⟨z,hz⟩:=d1;have ez:r / 2 ^ s=z:=by rw [hz];exact Nat.mul_div_cancel_left _ hp
  have g3:hi*18446744073709551616+lo=(q*4294967296+t)*y+z:=by
   refine Nat.eq_of_mul_eq_mul_right hp ?_;have e:=Zam ((q*4294967296+t)*y) z (2 ^ s);rw [e,g,hz,Zbe (q*4294967296+t) y,Zaq (2 ^ s) z]
  have g4:z<y:=by
   rw [<- ez,Zcj hp,hV];exact f6
  obtain ⟨a1,a2⟩:=zb0 g3 g4;rw [a1,a2] at hK;rw [ez,qab e3 f3];exact hK
 have g3:=hg.2.2;rw [zk.t50,zA,zA,zk.ze1,zk.znp,zk.zte,show (AV.int .u64 4294967296)=U 4294967296 from rfl,uGeq];by_cases c1:4294967296<=t
 ·rw [Zac c1];simp only [jK];rw [zk.zrm,zk.zje];simp only [jK,zV];obtain ⟨d1,d2,d3⟩:=zek hg hwV hl0 (.inl c1);rw [zB,zk.v21,zE,zF,zL,zA,zk.zjf,show (AV.int .u64 1)=U 1 from rfl,uSub d1 htW,zA,zk.zck,uAdd,Zap (show r+v1<18446744073709551616 by omega),zA,zk.zcn,show (AV.int .u64 4294967296)=U 4294967296 from rfl,uGeq,zB,zk.v22];by_cases c3:4294967296<=r+v1
  ·obtain ⟨o1,o2⟩:=bM (u0:=l0) d2 hwV hv2b c3;rw [Zac c3,zE,zX,xE (id:=3) (i:=2) _ (by decide),yF];exact fin2 (t-1) (r+v1) _ _ d2 d3 o1 o2
  ·rw [Zab c3,zC,zF];exact hR (t-1) _ _ _ _ _ _ (by omega) ⟨t-1,r+v1,rfl,rfl,rfl,by omega,⟨d2,d3,by omega⟩,rfl,rfl⟩
 ·rw [Zab c1];simp only [yS];rw [aN,aN,zk.zrm,zk.zje];simp only [yS];rw [uAdd,uGtr];simp only [zT];have hpr:t*v2<=4294967295*4294967295:=Zbd (by omega) (by omega);rw [Zap (show t*v2<18446744073709551616 by omega),Zap (show 4294967296*r<18446744073709551616 by omega),Zap (show 4294967296*r+l0<18446744073709551616 by omega),Zaq 4294967296 r];by_cases c2:r*4294967296+l0<t*v2
  ·rw [Zac c2];obtain ⟨d1,d2,d3⟩:=zek hg hwV hl0 (.inr c2);rw [zB,zk.v21,zE,zF,zL,zA,zk.zjf,show (AV.int .u64 1)=U 1 from rfl,uSub d1 htW,zA,zk.zck,uAdd,Zap (show r+v1<18446744073709551616 by omega),zA,zk.zcn,show (AV.int .u64 4294967296)=U 4294967296 from rfl,uGeq,zB,zk.v22];by_cases c3:4294967296<=r+v1
   ·obtain ⟨o1,o2⟩:=bM (u0:=l0) d2 hwV hv2b c3;rw [Zac c3,zE,zX,xE (id:=3) (i:=2) _ (by decide),yF];exact fin2 (t-1) (r+v1) _ _ d2 d3 o1 o2
   ·rw [Zab c3,zC,zF];exact hR (t-1) _ _ _ _ _ _ (by omega) ⟨t-1,r+v1,rfl,rfl,rfl,by omega,⟨d2,d3,by omega⟩,rfl,rfl⟩
  ·rw [Zab c2,zB,zk.v21,zC,zX,yF];exact fin2 t r _ _ hg.1 hg.2.1 (by omega) (by omega)
theorem zsc {hi lo y:Nat} (h1:hi<y) (hy:y<18446744073709551616) (hlo:lo<18446744073709551616):Pure Tryz.prog B 335 [U hi,U lo,U y] (· = .tup [U ((hi*18446744073709551616+lo) / y),U ((hi*18446744073709551616+lo)%y)]):=by
 intro p h nx K hK;refine zQ zW yX 18446744073709551700 fun hf => ?_;have hN:18446744073709551616<=18446744073709551700:=by decide
 generalize 18446744073709551700=N at hN ⊢
 rw [zk.go,zk.t73,zA,zk.jk,zA,zA,zk.ji,zc8,Zab (by omega),zB,zk.v16,zC,zF,zA,zA,zk.ny,uLeq,Zab (by omega),zB,zk.v17,zC,zF,zA,zA,zk.rD,zc8,zB,zk.v18];by_cases c0:hi=0
 ·rw [Zac c0,zE,zA,zk.sD,uQuo (by omega) hlo,uRem (by omega) hlo];simp only [zK,zR];rw [zk.ret];exact hK _ (by rw [c0];simp) hf
 rw [Zab c0,zC,zF,zA,zk.nS];refine zkj (by omega) hy _ _ _ _ ?_;rintro _ ⟨s,rfl,hs,hv,hv2⟩ _;rw [zr5 (m:=s) rfl (by omega),zA,zk.ng,uShl (by omega),Zap hv,zA,zk.rq,dX,zA,zk.sF,uAnd hv,zA,zk.nZ,uShl (by omega)];have hp:0<2 ^ s:=Zct (by omega);have hps:2 ^ s*2 ^ (64-s)=18446744073709551616:=by rw [<- Zdj,show s+(64-s)=64 by omega]
 have hq0:0<2 ^ (64-s):=Zct (by omega);have hhi:hi*2 ^ s+2 ^ s<=y*2 ^ s:=by rw [<- Zdu];exact Zai _ h1
 have hlo1:lo / 2 ^ (64-s)<2 ^ s:=by rw [Zcj hq0,hps];exact hlo
 rw [Zap (show hi*2 ^ s<18446744073709551616 by omega),show (AV.int .u64 64)=U 64 from rfl,uSub (by omega) (by omega),uShr (by omega),uOr (c:=hi*2 ^ s+lo / 2 ^ (64-s)) (by omega) (by omega) (by rw [Nat.or_comm,ziw hlo1,Zda]),zA,zk.rV,uShl (by omega)];have hlm:=Zbl (lo*2 ^ s) (show 0<18446744073709551616 by decide);have hld:lo*2 ^ s / 18446744073709551616=lo / 2 ^ (64-s):=by rw [<- hps,Zaq (2 ^ s) (2 ^ (64-s))];exact Zfm _ _ hp
 have hlz:lo*2 ^ s%18446744073709551616+18446744073709551616*(lo / 2 ^ (64-s))=lo*2 ^ s:=by rw [<- hld];exact Zdc _ _
 have hall:(hi*18446744073709551616+lo)*2 ^ s=(hi*2 ^ s+lo / 2 ^ (64-s))*18446744073709551616+lo*2 ^ s%18446744073709551616:=by
  rw [Zam,Zam,Zfw];omega
 generalize lo*2 ^ s%18446744073709551616=l at *
 generalize hu:hi*2 ^ s+lo / 2 ^ (64-s)=u at *
 have huv:u<y*2 ^ s:=by omega
 generalize hV:y*2 ^ s=V at *
 rw [zA,zk.ah,dX,zA,zk.sV,uAnd hlm,zA,zk.zez,uQuo (by omega) (by omega),zA,zk.sU,aN];have hVe:V=V / 4294967296*4294967296+V%4294967296:=by omega
 have hv1:1<=V / 4294967296:=by omega
 have hv1b:V / 4294967296<=4294967296:=by omega
 have hv2b:V%4294967296<4294967296:=by omega
 have hle:l=l / 4294967296*4294967296+l%4294967296:=by omega
 have hl1:l / 4294967296<4294967296:=by omega
 have hl0:l%4294967296<4294967296:=by omega
 generalize V / 4294967296=v1 at *
 generalize V%4294967296=v2 at *
 generalize l / 4294967296=l1 at *
 generalize l%4294967296=l0 at *
 have hdm:u / v1*v1<=u:=Zft u v1;have hmod:u-u / v1*v1=u%v1:=by
  have:=Zdg u v1;rw [Zaq] at this;omega
 rw [Zap (by omega),uSub hdm (by omega),hmod,zA,zL];refine zk.qat (fun m x12 x13 h' nx'=>∃ q r:Nat,x12=U q/\x13=U r/\m=q/\q<18446744073709551616/\Gs 4294967296 u l1 v1 v2 q r/\h'=h/\nx'=nx) (m:=u / v1) (by have:=Zdd u v1;omega) ⟨_,_,rfl,rfl,rfl,by have:=Zdd u v1;omega,zkk hv1 hv1b hl1,rfl,rfl⟩ ?_;rintro m z12 z13 z19 z20 h3 nx3 R ⟨q,r,rfl,rfl,hm,hqW,hg,rfl,rfl⟩ hR;have huV:u<v1*4294967296+v2:=by omega
 have fin1:∀ (q r:Nat) (x19 x20:AV),q*v1+r=u->u*4294967296+l1<(q+1)*(v1*4294967296+v2)->q<4294967296->q*v2<=r*4294967296+l1 ->
   IR.run zk.t58 (CS Tryz.prog B) N (fnO zk.res K) (yu zk.res K) (zk.fr (U hi) (U lo) (U V) (.int .u64 0) (.int .u64 0) (U s) (U v1) (U v2) (U u) (U l) (U l1) (U l0) (U q) (U r) .u .u (.bool false) (.bool false) (.bool false) x19 x20 .u .u) h3 nx3=.ok True:=fun q r x19 x20 e1 e2 e3 e4 =>
  zvl hN hs hall hV hv hVe hv1 hv1b hv2b hle hl1 hl0 huv e1 e2 e3 e4 (hK _ rfl hf)
 have g3:=hg.2.2;rw [zk.t33,zA,zA,zk.oP,zk.znm,zk.ztd,show (AV.int .u64 4294967296)=U 4294967296 from rfl,uGeq];by_cases c1:4294967296<=q
 ·rw [Zac c1];simp only [jK];rw [zk.zrl,zk.zjc];simp only [jK,zV];obtain ⟨d1,d2,d3⟩:=zek hg huV hl1 (.inl c1);rw [zB,zk.v19,zE,zF,zL,zA,zk.zcl,show (AV.int .u64 1)=U 1 from rfl,uSub d1 hqW,zA,zk.zjd,uAdd,Zap (show r+v1<18446744073709551616 by omega),zA,zk.zcm,show (AV.int .u64 4294967296)=U 4294967296 from rfl,uGeq,zB,zk.v20];by_cases c3:4294967296<=r+v1
  ·obtain ⟨o1,o2⟩:=bM (u0:=l1) d2 huV hv2b c3;rw [Zac c3,zE,zX,xE (id:=1) (i:=0) _ (by decide),yF];exact fin1 (q-1) (r+v1) _ _ d2 d3 o1 o2
  ·rw [Zab c3,zC,zF];exact hR (q-1) _ _ _ _ _ _ (by omega) ⟨q-1,r+v1,rfl,rfl,rfl,by omega,⟨d2,d3,by omega⟩,rfl,rfl⟩
 ·rw [Zab c1];simp only [yS];rw [aN,aN,zk.zrl,zk.zjc];simp only [yS];rw [uAdd,uGtr];simp only [zT];have hpr:q*v2<=4294967295*4294967295:=Zbd (by omega) (by omega);rw [Zap (show q*v2<18446744073709551616 by omega),Zap (show 4294967296*r<18446744073709551616 by omega),Zap (show 4294967296*r+l1<18446744073709551616 by omega),Zaq 4294967296 r];by_cases c2:r*4294967296+l1<q*v2
  ·rw [Zac c2];obtain ⟨d1,d2,d3⟩:=zek hg huV hl1 (.inr c2);rw [zB,zk.v19,zE,zF,zL,zA,zk.zcl,show (AV.int .u64 1)=U 1 from rfl,uSub d1 hqW,zA,zk.zjd,uAdd,Zap (show r+v1<18446744073709551616 by omega),zA,zk.zcm,show (AV.int .u64 4294967296)=U 4294967296 from rfl,uGeq,zB,zk.v20];by_cases c3:4294967296<=r+v1
   ·obtain ⟨o1,o2⟩:=bM (u0:=l1) d2 huV hv2b c3;rw [Zac c3,zE,zX,xE (id:=1) (i:=0) _ (by decide),yF];exact fin1 (q-1) (r+v1) _ _ d2 d3 o1 o2
   ·rw [Zab c3,zC,zF];exact hR (q-1) _ _ _ _ _ _ (by omega) ⟨q-1,r+v1,rfl,rfl,rfl,by omega,⟨d2,d3,by omega⟩,rfl,rfl⟩
  ·rw [Zab c2,zB,zk.v19,zC,zX,yF];exact fin1 q r _ _ hg.1 hg.2.1 (by omega) (by omega)
theorem oM {id:Pa} {off n i:Nat} {cap:Option Nat} {e':Nat} {kk:IntKind} {j:Int} {op:AV->OP} (hj:j=(i:Int)) (hi:i<n):zM 1 (.sl id off n cap e') (.int kk j) op=op (.ptr id (off+i)):=by
 subst hj;rw [wU hi];simp
theorem pS {A W C:List Nat} {i:Nat} (h:i<W.length):(A++(W++C))[A.length+i]? = some (W.getD i 0):=by
 rw [List.getElem?_append_right (by omega),Zcy,List.getElem?_append_left h,getD_some h]
theorem bL {A X Y C:List Nat} {x:Nat} {i:Nat} (h:X.length=i) {y:Nat}:((A++(X++x::Y++C)).map U).set (A.length+i) (U y)=(A++((X++[y])++Y++C)).map U:=by
 have e:A++(X++x::Y++C)=(A++X)++x::(Y++C):=by simp
 rw [e,Zav,Zbt,gQ (by rw [Zaz,Zan];omega)];simp
theorem zkl {b:Nat} {l:List Nat} {m:Nat} (h:l.length=m+3):bv b l=((l.getD (m+2) 0*b+l.getD (m+1) 0)*b+l.getD m 0)*b ^ m+bv b (l.take m):=by
 have e:bv b l=bv b (l.take (m+2+1)):=by rw [Zae (by omega)]
 have p1:b ^ (m+1)=b ^ m*b:=Zbg ..;have p2:b ^ (m+2)=b ^ m*b*b:=by rw [show m+2=m+1+1 from rfl,Zbg,Zbg]
 rw [e,zY,zY,zY,p2,p1]
 generalize bv b (l.take m)=z
 generalize l.getD (m+2) 0=x2
 generalize l.getD (m+1) 0=x1
 generalize l.getD m 0=x0
 generalize b ^ m=P
 simp only [Zam];have a1:P*b*b*x2=x2*b*b*P:=by simp only [Zaq,Zds]
 have a2:P*b*x1=x1*b*P:=by simp only [Zaq,Zds]
 have a3:P*x0=x0*P:=Zaq _ _;omega
theorem zkm {b:Nat} {l:List Nat} {m:Nat} (h:l.length=m+2):bv b l=(l.getD (m+1) 0*b+l.getD m 0)*b ^ m+bv b (l.take m):=by
 have e:bv b l=bv b (l.take (m+1+1)):=by rw [Zae (by omega)]
 rw [e,zY,zY,Zbg]
 generalize bv b (l.take m)=z
 generalize l.getD (m+1) 0=x1
 generalize l.getD m 0=x0
 generalize b ^ m=P
 simp only [Zam];have a2:P*b*x1=x1*b*P:=by simp only [Zaq,Zds]
 have a3:P*x0=x0*P:=Zaq _ _;omega
theorem q0 {b:Nat} {l:List Nat} {m:Nat} (hb:0<b) (h:Dg b l) (hm:m<=l.length):bv b (l.take m)<b ^ m:=by
 have:=vB hb (h.take (n:=m))
 rwa [Zau,Zby hm] at this
theorem zmy {P b X u v c w q Vi Ui:Nat} (h:X+q*Vi=Ui+P*(c+w)) (hu:u<b) (hlo:(q*v+c)%b<b) (hw:w<=1) :
  (X+P*((u+b-(q*v+c)%b-w)%b))+q*(Vi+P*v)=(Ui+P*u)+P*b*((q*v+c) / b+(if u<(q*v+c)%b+w then 1 else 0)):=by
 have k:(u+b-(q*v+c)%b-w)%b+(q*v+c)%b+w=u+b*(if u<(q*v+c)%b+w then 1 else 0):=by
  generalize (q*v+c)%b=lo at *
  by_cases d:u<lo+w
  ·rw [if_pos d];by_cases e:lo+w=b/\u+b-lo-w=u+0
   ·rw [e.2,Zcc,Zap hu];omega
   ·rw [Zap (by omega)];omega
  ·rw [if_neg d,show u+b-lo-w=(u-lo-w)+b by omega,Zgb,Zap (by omega)];omega
 have k2:=Zdc (q*v+c) b;have e:=congrArg (P * ·) k;have e2:=congrArg (P * ·) k2;simp only [Zax] at e e2;have e3:q*(Vi+P*v)=q*Vi+P*(q*v):=by rw [Zax,Zds]
 rw [e3,Zax (P*b),Zbe P b,Zbe P b];rw [Zax] at h;omega
theorem zsd {id:Pa} {A C X v:List Nat} {q R N:Nat} {L:List Ob} {h0 h:T Blk} {nx:Pa} {K:Kw Prop} {cap:Option Nat} {x5 x6 x7 x8 x9 x10 x11 x12 x13 x14 x15 x16 x17 x18 x19 x20 x21 x22 x23 x24 x25 x26 x2:AV}
  (H:Hp h0 h nx (.arr id ((A++(X++C)).map U)::L)) (hN:1000010<=N) (hX:X.length=v.length+1) (hdX:Dg 18446744073709551616 X) (hdv:Dg 18446744073709551616 v) (hn:v.length<=100000)
  (hval:bv 18446744073709551616 X+bv 18446744073709551616 v=18446744073709551616 ^ (v.length+1)+R) (hR0:R<18446744073709551616 ^ v.length) (hq:1<=q) (hqW:q<18446744073709551616)
  (hK:∀ (Y:List Nat) (h':T Blk) (nx':Pa),Y.length=v.length+1->Dg 18446744073709551616 Y->bv 18446744073709551616 Y=R->Hp h0 h' nx' (.arr id ((A++(Y++C)).map U)::L)->K (U (q-1)) h' nx'=.ok True) :
  IR.run zf.t76 (CS Tryz.prog B) N (fnO zf.res K) (yu zf.res K) (zf.fr (.sl id A.length (v.length+1) cap 1) (um v) x2 (I v.length) (U q) x5 x6 x7 x8 x9 x10 x11 x12 x13 x14 x15 x16 x17 x18 x19 x20 x21 x22 x23 x24 x25 x26) h nx=.ok True:=by
 rw [zf.t76,zA,zf.qax,zA,zA,zf.zjg,zL];refine zf.qaz (fun m x15 x25 h' nx'=>∃ (i c:Nat) (Y:List Nat),x15=U c/\x25=I (i:Int)/\m+i=v.length/\Y.length=i/\Dg 18446744073709551616 Y/\c<=1/\bv 18446744073709551616 Y+18446744073709551616 ^ i*c=bv 18446744073709551616 (X.take i)+bv 18446744073709551616 (v.take i)/\Hp h0 h' nx' (.arr id ((A++((Y++X.drop i)++C)).map U)::L)) (m:=v.length) (by omega) ⟨0,0,[],rfl,rfl,rfl,rfl,fun _ h=>by simp at h,by omega,by simp [bv],by simpa using H⟩ ?_;rintro m z15 z16 z25 z26 h3 nx3 R' ⟨i,c,Y,rfl,rfl,hm,hY,hd,hc,hs,H3⟩ hR;rw [zf.t67,zA,zf.qay,uf];by_cases ci:i<v.length
 case neg =>
  have hi:i=v.length:=by omega
  subst hi;have ed:X.drop v.length=[X.getD v.length 0]:=by
   have:=getD_some (l:=X) (k:=v.length) (by omega);rw [List.getElem?_eq_getElem (by omega)] at this;rw [Zay (by omega),Option.some.inj this,Zfe (by omega)]
  rw [ed] at H3;have hxW:=y0 (k:=v.length) (by decide) hdX;have hXv:bv 18446744073709551616 X=bv 18446744073709551616 (X.take v.length)+18446744073709551616 ^ v.length*X.getD v.length 0:=by
   rw [<- zY,Zae (by omega)]
  rw [Zae (Zaf _)] at hs
  generalize hx:X.getD v.length 0=x at *
  have hYlt:=vB (b:=18446744073709551616) (by decide) hd;rw [hY] at hYlt;have hxc:x+c=18446744073709551616/\bv 18446744073709551616 Y=R:=by
   have e:bv 18446744073709551616 Y+18446744073709551616 ^ v.length*(x+c)=18446744073709551616 ^ v.length*18446744073709551616+R:=by rw [Zax,<- Zbg];omega
   have hP:0<18446744073709551616 ^ v.length:=Zct (by decide)
   generalize 18446744073709551616 ^ v.length=P at *
   rcases Nat.lt_trichotomy (x+c) 18446744073709551616 with q | q | q
   ·have:P*(x+c+1)<=P*18446744073709551616:=Zbc P q;rw [Zax,Zca] at this;omega
   ·rw [q] at e;exact ⟨q,by omega⟩
   ·omega
  have ld:(((A++((Y++[x])++C))).map U)[A.length+v.length]? = some (U x):=by
   have:=uGet (pS (A:=A) (W:=Y++[x]) (C:=C) (i:=v.length) (by simp;omega));rw [this]
   congr 1
   rw [Zaa,List.getElem?_append_right (by omega),show v.length-Y.length=0 by omega];rfl
  rw [Zab (by omega),zA,zB,zf.v26,zC,zX,yF,zA,zf.zn8,oM (i:=v.length) rfl (by omega),H3.load (k:=0) rfl ld,uAdd,oM (i:=v.length) rfl (by omega)];refine H3.store (k:=0) rfl (by simp;omega) rfl fun h4 H4 => ?_;rw [zA,zf.ze7,show (AV.int .u64 1)=U 1 from rfl,uSub hq hqW];simp only [zK,zR];rw [zf.ret];simp only [Zbq] at H4;rw [show (Y++[x])++C=Y++x::[]++C by simp,bL hY,hxc.1,Nat.mod_self,Zcg] at H4;refine hK (Y++[0]) _ _ (by simp;omega) (hd.append (Dg.one (by decide))) (by rw [gJ,hxc.2];simp) H4
 have ev:=getD_some (l:=v) (k:=i) ci;have esp:Y++X.drop i=Y++X.getD i 0::X.drop (i+1):=by
  have:=getD_some (l:=X) (k:=i) (by omega);rw [List.getElem?_eq_getElem (by omega)] at this;rw [Zay (by omega),Option.some.inj this]
 rw [esp] at H3;have ld:(((A++((Y++X.getD i 0::X.drop (i+1))++C))).map U)[A.length+i]? = some (U (X.getD i 0)):=by
  rw [uGet (pS (A:=A) (W:=Y++X.getD i 0::X.drop (i+1)) (C:=C) (i:=i) (by simp;omega))]
  congr 2
  rw [Zaa,List.getElem?_append_right (by omega),show i-Y.length=0 by omega];rfl
 rw [Zac (by omega),zA,zB,zf.v26,zE,zF,zA,zL,zA,zf.ze6,zf.zjh,oM (i:=i) rfl (by omega),H3.load (k:=0) rfl ld,uIx (i:=i) rfl ci,uLd ev];refine xY hc _ _ _ _ ?_;rintro _ rfl _;simp only [zG];rw [yJ,yH,oM (i:=i) rfl (by omega)];refine H3.store (k:=0) rfl (by simp;omega) rfl fun h4 H4 => ?_;rw [yH];simp only [zG];rw [zf.zn7,gu (by omega)];refine hR (m-1) _ _ _ _ _ _ (by omega) ⟨i+1,(X.getD i 0+v.getD i 0+c) / 18446744073709551616,Y++[(X.getD i 0+v.getD i 0+c)%18446744073709551616],rfl,by congr 1,by omega,by simp;omega,hd.append (Dg.one (Zbl _ (by decide))),zbz (y0 (by decide) hdX) (y0 (by decide) hdv) hc,?_,?_⟩
 ·rw [gJ,hY,zY,zY,Zbg];exact zb1 hs
 ·simp only [Zbq] at H4;rw [bL hY] at H4;exact H4
theorem zvm {id:Pa} {A C W v:List Nat} {q N:Nat} {L:List Ob} {h0 h:T Blk} {nx:Pa} {K:Kw Prop} {cap:Option Nat} {x5 x6 x7 x8 x9 x10 x11 x12 x13 x14 x15 x16 x17 x18 x19 x20 x21 x22 x23 x24 x25 x26 x2:AV}
  (H:Hp h0 h nx (.arr id ((A++(W++C)).map U)::L)) (hN:1000010<=N) (hW:W.length=v.length+1) (hdW:Dg 18446744073709551616 W) (hdv:Dg 18446744073709551616 v) (hn:v.length<=100000)
  (hqW:q<18446744073709551616) (hu:bv 18446744073709551616 W<(q+1)*bv 18446744073709551616 v) (hl:q*bv 18446744073709551616 v<=bv 18446744073709551616 W+bv 18446744073709551616 v)
  (hK:∀ (Y:List Nat) (h':T Blk) (nx':Pa),Y.length=v.length+1->Dg 18446744073709551616 Y->bv 18446744073709551616 Y=bv 18446744073709551616 W%bv 18446744073709551616 v->Hp h0 h' nx' (.arr id ((A++(Y++C)).map U)::L)->K (U (bv 18446744073709551616 W / bv 18446744073709551616 v)) h' nx'=.ok True) :
  IR.run zf.t80 (CS Tryz.prog B) N (fnO zf.res K) (yu zf.res K) (zf.fr (.sl id A.length (v.length+1) cap 1) (um v) x2 (I v.length) (U q) x5 x6 x7 x8 x9 x10 x11 x12 x13 x14 x15 x16 x17 x18 x19 x20 x21 x22 x23 x24 x25 x26) h nx=.ok True:=by
 have hvlt:=vB (b:=18446744073709551616) (by decide) hdv;have hWlt:=vB (b:=18446744073709551616) (by decide) hdW;rw [hW] at hWlt;rw [zf.t80,zA,zf.zcm,zA,zA,zf.tC,zL];refine zf.qav (fun m x9 x10 x21 h' nx'=>∃ (i c w:Nat) (X:List Nat),x9=U w/\x10=U c/\x21=I (i:Int)/\m+i=v.length/\X.length=i/\Dg 18446744073709551616 X/\w<=1/\c<18446744073709551616/\bv 18446744073709551616 X+q*bv 18446744073709551616 (v.take i)=bv 18446744073709551616 (W.take i)+18446744073709551616 ^ i*(c+w)/\Hp h0 h' nx' (.arr id ((A++((X++W.drop i)++C)).map U)::L)) (m:=v.length) (by omega) ⟨0,0,0,[],rfl,rfl,rfl,rfl,rfl,fun _ h=>by simp at h,by omega,by decide,by simp [bv],by simpa using H⟩ ?_;rintro m z9 z10 z11 z12 z13 z14 z21 z22 h3 nx3 R' ⟨i,c,w,X,rfl,rfl,rfl,hm,hX,hd,hw,hc,hs,H3⟩ hR;have esp:X++W.drop i=X++W.getD i 0::W.drop (i+1):=by
  have:=getD_some (l:=W) (k:=i) (by omega);rw [List.getElem?_eq_getElem (by omega)] at this;rw [Zay (by omega),Option.some.inj this]
 rw [esp] at H3;have ld:(((A++((X++W.getD i 0::W.drop (i+1))++C))).map U)[A.length+i]? = some (U (W.getD i 0)):=by
  rw [uGet (pS (A:=A) (W:=X++W.getD i 0::W.drop (i+1)) (C:=C) (i:=i) (by simp;omega))]
  congr 2
  rw [Zaa,List.getElem?_append_right (by omega),show i-X.length=0 by omega];rfl
 have huW:=y0 (k:=i) (by decide) hdW;rw [zf.t46,zA,zf.zeu,uf];by_cases ci:i<v.length
 case neg =>
  have hi:i=v.length:=by omega
  subst hi;rw [Zab (by omega),zA,zB,zf.v22,zC,zX,yF,zA,zf.ze5,zf.zn2,zf.ztl,oM (i:=v.length) rfl (by omega),H3.load (k:=0) rfl ld,zf.zxw,zf.ztm];refine zeh hw _ _ _ _ ?_;rintro _ rfl _;rw [zf.zxv,zf.ztn,yJ,yH,oM (i:=v.length) rfl (by omega)];refine H3.store (k:=0) rfl (by simp;omega) rfl fun h4 H4 => ?_;rw [zf.zxu,zf.zto,zA,zA,zf.zaj,zc8,zB,zf.v23];simp only [Zbq] at H4;rw [bL hX,Zfe (by omega),Zcg] at H4;have hWv:bv 18446744073709551616 W=bv 18446744073709551616 (W.take v.length)+18446744073709551616 ^ v.length*W.getD v.length 0:=by
   rw [<- zY,Zae (by omega)]
  rw [Zae (Zaf _)] at hs
  generalize W.getD v.length 0=u at *
  have hdX:Dg 18446744073709551616 (X++[(u+18446744073709551616-c-w)%18446744073709551616]):=hd.append (Dg.one (Zbl _ (by decide)));have hlX:(X++[(u+18446744073709551616-c-w)%18446744073709551616]).length=v.length+1:=by simp;omega
  have hXlt:=vB (b:=18446744073709551616) (by decide) hdX;rw [hlX] at hXlt;have main:bv 18446744073709551616 (X++[(u+18446744073709551616-c-w)%18446744073709551616])+q*bv 18446744073709551616 v=bv 18446744073709551616 W+18446744073709551616 ^ (v.length+1)*(if u<c+w then 1 else 0):=by
   have k:(u+18446744073709551616-c-w)%18446744073709551616+c+w=u+18446744073709551616*(if u<c+w then 1 else 0):=by
    by_cases d:u<c+w
    ·rw [if_pos d];by_cases e:c+w=18446744073709551616
     ·omega
     ·rw [Zap (by omega)];omega
    ·rw [if_neg d,show u+18446744073709551616-c-w=(u-c-w)+18446744073709551616 by omega,Zgb,Zap (by omega)];omega
   have e:=congrArg (18446744073709551616 ^ v.length * ·) k;simp only [Zax] at e;rw [gJ,hX,hWv,Zbg,Zbe (18446744073709551616 ^ v.length)];rw [Zax] at hs;omega
  generalize X++[(u+18446744073709551616-c-w)%18446744073709551616]=Y at *
  by_cases d:u<c+w
  ·rw [if_pos d] at main ⊢;rw [Zab (by decide),zC,zF];rw [Zca] at main;have hq1:1<=q:=by
    rcases Zce q with e | e
    ·subst e;omega
    ·exact e
   obtain ⟨k,rfl⟩:∃ k,q=k+1:=⟨q-1,by omega⟩;have ek:(k+1)*bv 18446744073709551616 v=k*bv 18446744073709551616 v+bv 18446744073709551616 v:=Zdu ..;have hk1:k*bv 18446744073709551616 v<=bv 18446744073709551616 W:=by omega
   have hr:bv 18446744073709551616 W-k*bv 18446744073709551616 v<bv 18446744073709551616 v:=by omega
   obtain ⟨a1,a2⟩:=zb0 (U:=bv 18446744073709551616 W) (q:=k) (r:=bv 18446744073709551616 W-k*bv 18446744073709551616 v) (by omega) hr
   refine zsd H4 hN hlX hdX hdv hn (R:=bv 18446744073709551616 W-k*bv 18446744073709551616 v) (by
    rw [ek] at main;omega) (Nat.lt_trans hr hvlt) hq1 hqW fun Y' h' nx' g1 g2 g3 g4 => ?_
   have:=hK Y' h' nx' g1 g2 (by rw [g3,a2]) g4
   rwa [a1] at this
  ·rw [if_neg d] at main ⊢;rw [Zac rfl,zE,zA,zf.qaw];simp only [zK,zR];rw [zf.ret];have hr:bv 18446744073709551616 Y<bv 18446744073709551616 v:=by rw [Zam,Zbs] at hu;omega
   obtain ⟨a1,a2⟩:=zb0 (U:=bv 18446744073709551616 W) (q:=q) (r:=bv 18446744073709551616 Y) (by omega) hr;have:=hK Y _ _ hlX hdX a2.symm H4
   rwa [a1] at this
 have ev:=getD_some (l:=v) (k:=i) ci;have hvW:=y0 (k:=i) (by decide) hdv;rw [Zac (by omega),zA,zB,zf.v22,zE,zF,zA,zL,zA,zf.zey,zA,zf.znv,uIx (i:=i) rfl ci,uLd ev]
 generalize hvi:v.getD i 0=y at *
 generalize hui:W.getD i 0=u at *
 refine zei hqW hvW _ _ _ _ ?_;rintro _ rfl _;rw [yJ,yH,zA,zf.oU,zA,zf.zac];refine xY (c:=0) (by omega) _ _ _ _ ?_;rintro _ rfl _;rw [yJ,yH,zA,zf.znw,uAdd,zf.ay,zf.znx,zf.zth,oM (i:=i) rfl (by omega),H3.load (k:=0) rfl ld,zf.zxt,zf.zti];refine zeh hw _ _ _ _ ?_;rintro _ rfl _;rw [zf.zxs,zf.ztj,yJ,yH,oM (i:=i) rfl (by omega)];refine H3.store (k:=0) rfl (by simp;omega) rfl fun h4 H4 => ?_;rw [zf.zxr,zf.ztk,zf.zck,gu (by omega)];have hp:q*y<=340282366920938463426481119284349108225:=Zbd (show q<=18446744073709551615 by omega) (show y<=18446744073709551615 by omega);have e1:(q*y%18446744073709551616+c+0)%18446744073709551616=(q*y+c)%18446744073709551616:=by omega
 have e2:(q*y / 18446744073709551616+(q*y%18446744073709551616+c+0) / 18446744073709551616)%18446744073709551616=(q*y+c) / 18446744073709551616:=by
  generalize q*y=p at *
  omega
 rw [e1] at H4 ⊢;rw [e2];refine hR (m-1) _ _ _ _ _ _ _ _ _ _ (by omega) ⟨i+1,(q*y+c) / 18446744073709551616,if u<(q*y+c)%18446744073709551616+w then 1 else 0,X++[(u+18446744073709551616-(q*y+c)%18446744073709551616-w)%18446744073709551616],rfl,rfl,by congr 1,by omega,by simp;omega,hd.append (Dg.one (Zbl _ (by decide))),by split <;> omega,?_,?_,?_⟩
 ·generalize q*y=p at *
  omega
 ·rw [gJ,hX,zY,zY,hvi,hui,Zbg];exact zmy hs huW (Zbl _ (by decide)) hw
 ·simp only [Zbq] at H4;rw [bL hX] at H4;exact H4
theorem zdb {id:Pa} {A C W v:List Nat} {k q r o N:Nat} {L:List Ob} {h0 h:T Blk} {nx:Pa} {K:Kw Prop} {cap:Option Nat} {x7 x8 x9 x10 x11 x12 x13 x14 x15 x16 x17 x18 x19 x20 x21 x22 x23 x24 x25 x26 x2:AV}
  (H:Hp h0 h nx (.arr id ((A++(W++C)).map U)::L)) (hN:18446744073709551617<=N) (hk:v.length=k+2) (hW:W.length=v.length+1) (hdW:Dg 18446744073709551616 W) (hdv:Dg 18446744073709551616 v) (hn:v.length<=100000)
  (hqW:q<18446744073709551616) (hrW:r<18446744073709551616) (ho:o<=1) (hv1:1<=v.getD (k+1) 0) (hr:q*v.getD (k+1) 0+(r+18446744073709551616*o)=W.getD (k+2) 0*18446744073709551616+W.getD (k+1) 0) (hu:bv 18446744073709551616 W<(q+1)*bv 18446744073709551616 v)
  (hK:∀ (Y:List Nat) (h':T Blk) (nx':Pa),Y.length=v.length+1->Dg 18446744073709551616 Y->bv 18446744073709551616 Y=bv 18446744073709551616 W%bv 18446744073709551616 v->Hp h0 h' nx' (.arr id ((A++(Y++C)).map U)::L)->K (U (bv 18446744073709551616 W / bv 18446744073709551616 v)) h' nx'=.ok True) :
  IR.run zf.t81 (CS Tryz.prog B) N (fnO zf.res K) (yu zf.res K) (zf.fr (.sl id A.length (v.length+1) cap 1) (um v) x2 (I v.length) (U q) (U r) (U o) x7 x8 x9 x10 x11 x12 x13 x14 x15 x16 x17 x18 x19 x20 x21 x22 x23 x24 x25 x26) h nx=.ok True:=by
 have dU:=zkl (b:=18446744073709551616) (l:=W) (m:=k) (by omega);have dV:=zkm (b:=18446744073709551616) (l:=v) (m:=k) hk;have lU:=q0 (b:=18446744073709551616) (m:=k) (by decide) hdW (by omega);have lV:=q0 (b:=18446744073709551616) (m:=k) (by decide) hdv (by omega);have hu0:=y0 (k:=k) (by decide) hdW;have hv2:=y0 (k:=k) (by decide) hdv;have hv1W:=y0 (k:=k+1) (by decide) hdv;rw [zf.t81,zA,zL];refine zf.zni (fun m x4 x5 x6 h' nx'=>∃ q r o:Nat,x4=U q/\x5=U r/\x6=U o/\m=q/\q<18446744073709551616/\r<18446744073709551616/\o<=1/\q*v.getD (k+1) 0+(r+18446744073709551616*o)=W.getD (k+2) 0*18446744073709551616+W.getD (k+1) 0/\bv 18446744073709551616 W<(q+1)*bv 18446744073709551616 v/\h'=h/\nx'=nx) (m:=q) (by omega) ⟨q,r,o,rfl,rfl,rfl,rfl,hqW,hrW,ho,hr,hu,rfl,rfl⟩ ?_;rintro m z4 z5 z6 z7 z8 z18 z19 h3 nx3 R ⟨q,r,o,rfl,rfl,rfl,hm,hqW,hrW,ho,hr,hu,rfl,rfl⟩ hR;have fin:∀ (x7 x8 x18 x19:AV),q*v.getD k 0<=(r+18446744073709551616*o)*18446744073709551616+W.getD k 0->IR.run zf.t80 (CS Tryz.prog B) N (fnO zf.res K) (yu zf.res K) (zf.fr (.sl id A.length (v.length+1) cap 1) (um v) x2 (I v.length) (U q) (U r) (U o) x7 x8 x9 x10 x11 x12 x13 x14 x15 x16 x17 x18 x19 x20 x21 x22 x23 x24 x25 x26) h3 nx3=.ok True:=fun _ _ _ _ e =>
  zvm H (by omega) hW hdW hdv hn hqW hu (zvi dU dV lV hr (by omega) e hv1) hK
 rw [zf.t24,zA,zA,zf.fM,zc8,zB,zf.v18];by_cases c0:o=0
 case neg =>
  rw [Zab c0,zC,zX,yF];refine fin _ _ _ _ ?_;have h1:q*v.getD k 0<=18446744073709551616*18446744073709551616:=Zbd (by omega) (by omega);have h2:18446744073709551616*18446744073709551616<=(r+18446744073709551616*o)*18446744073709551616:=Zai _ (by omega);omega
 subst c0;rw [Zac rfl,zE,zF,zL,zA,zf.rq,vw (by omega),uIx (i:=k) (by omega) (by omega),uLd (getD_some (by omega))];refine zei hqW hv2 _ _ _ _ ?_;rintro _ rfl _;rw [yJ,yH,zA,zA,zf.sF,zf.r9_0,zf.zdk,uLss];have hsp:q*v.getD k 0 / 18446744073709551616*18446744073709551616+q*v.getD k 0%18446744073709551616=q*v.getD k 0:=by rw [Zaq];exact Zdg _ _
 have hlo:=Zbl (q*v.getD k 0) (show 0<18446744073709551616 by decide);have ld:∀ op:AV->OP,zH (.ptr id (A.length+k)) h3 op=op (U (W.getD k 0)):=fun op=>H.load (k:=0) rfl (uGet (pS (by omega)));rw [Zeb,Zcc] at fin;rw [Zeb,Zcc] at hr
 generalize hhi:q*v.getD k 0 / 18446744073709551616=hi at *
 generalize hlo':q*v.getD k 0%18446744073709551616=lo at *
 have DECL:r*18446744073709551616+W.getD k 0<q*v.getD k 0->1<=q/\(q-1)*v.getD (k+1) 0+((r+v.getD (k+1) 0+0)%18446744073709551616+18446744073709551616*((r+v.getD (k+1) 0+0) / 18446744073709551616))=W.getD (k+2) 0*18446744073709551616+W.getD (k+1) 0/\bv 18446744073709551616 W<(q-1+1)*bv 18446744073709551616 v:=fun e=>by
  have k1:=zr3 dU lU dV hr e;have hq:1<=q:=by
   rcases Zce q with e | e
   ·subst e;simp at k1
   ·exact e
  refine ⟨hq,?_,by rw [Zez hq];exact k1⟩;have e2:(q-1)*v.getD (k+1) 0+v.getD (k+1) 0=q*v.getD (k+1) 0:=by rw [<- Zdu,Nat.succ_eq_add_one,Zez hq]
  have e3:=Zdc (r+v.getD (k+1) 0+0) 18446744073709551616;omega
 by_cases c1:hi<r
 ·rw [Zac c1];simp only [jK];rw [zf.r9_1,zf.oH];simp only [wV,jK];rw [zf.r9_2,zf.oI];simp only [zV];rw [zB,zf.v19,zE,zX,xE (id:=1) (i:=0) _ (by decide),yF];refine fin _ _ _ _ ?_;have:(hi+1)*18446744073709551616<=r*18446744073709551616:=Zai _ c1;omega
 rw [Zab c1];simp only [yS];rw [uEql];by_cases c2:hi=r
 ·rw [Zac c2,zf.r9_1,zf.oH];simp only [yT];rw [vw (by omega),oM (i:=k) (by omega) (by omega),ld,uLeq];simp only [yS,zV];rw [zf.r9_2,zf.oI];simp only [zT];by_cases c3:lo<=W.getD k 0
  ·rw [Zac c3,zB,zf.v19,zE,zX,xE (id:=1) (i:=0) _ (by decide),yF];refine fin _ _ _ _ ?_;rw [<- hsp,c2];omega
  ·rw [Zab c3];have e:r*18446744073709551616+W.getD k 0<q*v.getD k 0:=by rw [<- hsp,c2];omega
   obtain ⟨d1,d2,d3⟩:=DECL e;rw [zB,zf.v19,zC,zF,zA,zf.ah,show (AV.int .u64 1)=U 1 from rfl,uSub d1 hqW,zf.sV,vw (by omega),uIx (i:=k+1) (by omega) (by omega),uLd (getD_some (by omega))];refine xY (c:=0) (by omega) _ _ _ _ ?_;rintro _ rfl _;rw [yJ,yH];exact hR (q-1) _ _ _ _ _ _ _ _ _ (by omega) ⟨q-1,_,_,rfl,rfl,rfl,rfl,by omega,Zbl _ (by decide),by omega,d2,d3,rfl,rfl⟩
 ·rw [Zab c2,zf.r9_1,zf.oH];simp only [yM,yS,zT];rw [zf.r9_2,zf.oI];simp only [zT];have e:r*18446744073709551616+W.getD k 0<q*v.getD k 0:=by
   have:(r+1)*18446744073709551616<=hi*18446744073709551616:=Zai _ (by omega);omega
  obtain ⟨d1,d2,d3⟩:=DECL e;rw [zB,zf.v19,zC,zF,zA,zf.ah,show (AV.int .u64 1)=U 1 from rfl,uSub d1 hqW,zf.sV,vw (by omega),uIx (i:=k+1) (by omega) (by omega),uLd (getD_some (by omega))];refine xY (c:=0) (by omega) _ _ _ _ ?_;rintro _ rfl _;rw [yJ,yH];exact hR (q-1) _ _ _ _ _ _ _ _ _ (by omega) ⟨q-1,_,_,rfl,rfl,rfl,rfl,by omega,Zbl _ (by decide),by omega,d2,d3,rfl,rfl⟩
theorem top_le {b P U V u2 u1 u0 ul v1 v0 vl:Nat} (hU:U=((u2*b+u1)*b+u0)*P+ul) (hV:V=(v1*b+v0)*P+vl) (hvl:vl<P) (hv0:v0<b) (h:U<b*V):u2<=v1:=by
 rcases Zdr v1 u2 with q | q
 ·exfalso
  have a1:v1*b+v0+1<=(v1+1)*b:=by rw [Zam];omega
  have a2:(v1*b+v0+1)*P<=(v1+1)*b*P:=Zai _ a1;have a3:(v1+1)*b<=u2*b:=Zai _ q;have a4:V<=(v1+1)*b*P:=by rw [Zam (v1*b+v0),Zbs] at a2;omega
  have a5:b*V<=b*((v1+1)*b*P):=Zbc _ a4
  have a6:(v1+1)*b*b*P<=((u2*b+u1)*b+u0)*P:=Zai _ (by
   have:=Zai b a3;rw [Zam (u2*b)];omega)
  have a7:b*((v1+1)*b*P)=(v1+1)*b*b*P:=by simp only [Zaq,Zds]
  omega
 ·exact q
theorem qac {q v r u b:Nat} (h:q*v+r=u):q*v+(r+b*0)=u:=by rw [Zeb,Zcc];exact h
theorem zvn {id p0:Pa} {A C W v:List Nat} {L:List Ob} {h0 h:T Blk} {nx:Pa} {K:Kw Prop} {cap:Option Nat}
  (H:Hp h0 h nx (.arr id ((A++(W++C)).map U)::L)) (h2:2<=v.length) (hW:W.length=v.length+1) (hdW:Dg 18446744073709551616 W) (hdv:Dg 18446744073709551616 v) (hn:v.length<=100000)
  (hv1:1<=v.getD (v.length-1) 0) (hlt:bv 18446744073709551616 W<18446744073709551616*bv 18446744073709551616 v)
  (hK:∀ (Y:List Nat) (h':T Blk) (nx':Pa),Y.length=v.length+1->Dg 18446744073709551616 Y->bv 18446744073709551616 Y=bv 18446744073709551616 W%bv 18446744073709551616 v->Hp h0 h' nx' (.arr id ((A++(Y++C)).map U)::L)->K (U (bv 18446744073709551616 W / bv 18446744073709551616 v)) h' nx'=.ok True) :
  (CS Tryz.prog B).fn 338 p0 [.sl id A.length (v.length+1) cap 1,um v] h nx K=.ok True:=by
 obtain ⟨k,hk⟩:∃ k,v.length=k+2:=⟨v.length-2,by omega⟩;rw [show v.length-1=k+1 by omega] at hv1;refine gB (p:=.of 338) (K:=K) (zQ zW yX 18446744073709551700 fun hf => ?_) fun _ _ _ _ q=>q;have hN:18446744073709551617<=18446744073709551700:=by decide
 generalize 18446744073709551700=N at hN ⊢
 have dU:=zkl (b:=18446744073709551616) (l:=W) (m:=k) (by omega);have dV:=zkm (b:=18446744073709551616) (l:=v) (m:=k) hk;have lU:=q0 (b:=18446744073709551616) (m:=k) (by decide) hdW (by omega);have lV:=q0 (b:=18446744073709551616) (m:=k) (by decide) hdv (by omega);have hu0:=y0 (k:=k) (by decide) hdW;have hu1:=y0 (k:=k+1) (by decide) hdW;have hu2:=y0 (k:=k+2) (by decide) hdW;have hv2:=y0 (k:=k) (by decide) hdv;have hv1W:=y0 (k:=k+1) (by decide) hdv;have lw:∀ (i:Nat) (op:AV->OP),i<W.length->zH (.ptr id (A.length+i)) h op=op (U (W.getD i 0)):=fun i op hi=>H.load (k:=0) rfl (uGet (pS hi));have htop:W.getD (k+2) 0<=v.getD (k+1) 0:=top_le dU dV lV hv2 hlt;rw [zf.go,zf.t86,zA,zf.jk,zA,zf.ji,fU,zA,zf.qh,zA,zf.nU,zA,zA,zf.ny,oM (i:=k+2) (by omega) (by omega),lw _ _ (by omega),vw (by omega),uIx (i:=k+1) (by omega) (by omega),uLd (getD_some (by omega)),uGeq,zB,zf.v17];by_cases c:v.getD (k+1) 0<=W.getD (k+2) 0
 ·have ce:W.getD (k+2) 0=v.getD (k+1) 0:=by omega
  obtain ⟨q,hq⟩:∃ q,q+1=18446744073709551616:=⟨18446744073709551615,rfl⟩;have hqe:(AV.int .u64 18446744073709551615)=U q:=by
   rw [show q=18446744073709551615 by omega];rfl
  rw [Zac c,zE,zA,zf.bV,hqe,zf.bf,zf.r5_0,zf.zah,vw (by omega),oM (i:=k+1) (by omega) (by omega),lw _ _ (by omega),vw (by omega),zf.r5_1,zf.zai,uIx (i:=k+1) (by omega) (by omega),uLd (getD_some (by omega))];refine xY (c:=0) (by omega) _ _ _ _ ?_;rintro _ rfl _;rw [zf.r5_2,zf.zyg,yJ,yH];have e3:=Zdc (W.getD (k+1) 0+v.getD (k+1) 0+0) 18446744073709551616
  dsimp only
  exact zdb (q:=q) H hN hk hW hdW hdv hn (by omega) (Zbl _ (by decide)) (by omega) hv1 (by
   rw [ce];have:(q+1)*v.getD (k+1) 0=q*v.getD (k+1) 0+v.getD (k+1) 0:=Zdu ..;rw [hq] at this;omega) (by rw [hq];exact hlt) hK
 ·rw [Zab c,zC,zf.sD,zf.r6_0,zf.zyh,oM (i:=k+2) (by omega) (by omega),lw _ _ (by omega),vw (by omega),oM (i:=k+1) (by omega) (by omega),zf.r6_1,zf.zyi,lw _ _ (by omega),vw (by omega),uIx (i:=k+1) (by omega) (by omega),uLd (getD_some (by omega))];refine zsc (by omega) hv1W hu1 _ _ _ _ ?_;rintro _ rfl _;rw [zf.r6_2,zf.zyj,yJ,yH];have hr:(W.getD (k+2) 0*18446744073709551616+W.getD (k+1) 0) / v.getD (k+1) 0*v.getD (k+1) 0+(W.getD (k+2) 0*18446744073709551616+W.getD (k+1) 0)%v.getD (k+1) 0=W.getD (k+2) 0*18446744073709551616+W.getD (k+1) 0:=by
   rw [Zaq];exact Zdg _ _
  have hm:=Zbl (W.getD (k+2) 0*18446744073709551616+W.getD (k+1) 0) (show 0<v.getD (k+1) 0 by omega);have hq:(W.getD (k+2) 0*18446744073709551616+W.getD (k+1) 0) / v.getD (k+1) 0<18446744073709551616:=by
   rw [Zcj (by omega)];have:(W.getD (k+2) 0+1)*18446744073709551616<=v.getD (k+1) 0*18446744073709551616:=Zai _ (by omega);omega
  dsimp only
  exact zdb (o:=0) H hN hk hW hdW hdv hn hq (Nat.lt_trans hm hv1W) (by decide) hv1 (qac hr) (zkf dU lU hu0 dV hr hm) hK
theorem zvo {P b p X x c Z:Nat} (h:Z+P*c=X*p):(Z+P*((c+x*p)%b))+P*b*((c+x*p) / b)=(X+P*x)*p:=by
 have e:P*((c+x*p)%b)+P*b*((c+x*p) / b)=P*(c+x*p):=by rw [Zbe,<- Zax,Zdc]
 rw [Zax] at e;have e2:(P*x)*p=P*(x*p):=Zbe ..;rw [Zam];omega
theorem zgl {p0:Pa} {l:List Nat} {s:Nat} {L:List Ob} {h0 h:T Blk} {nx:Pa} {K:Kw Prop} (H:Hp h0 h nx L) (hd:Dg 18446744073709551616 l) (hl:l.length<=100000) (hs:s<=63)
  (hK:∀ (id:Pa) (Z:List Nat) (h':T Blk) (nx':Pa),Z.length=l.length+1->Dg 18446744073709551616 Z->bv 18446744073709551616 Z=bv 18446744073709551616 l*2 ^ s->Hp h0 h' nx' (.arr id (Z.map U)::L)->K (.sl id 0 (l.length+1) (some (l.length+1)) 1) h' nx'=.ok True) :
  (CS Tryz.prog B).fn 337 p0 [um l,I (s:Int)] h nx K=.ok True:=by
 refine gB (p:=.of 337) (K:=K) (zQ zW yX 1000010 fun hf => ?_) fun _ _ _ _ q=>q;have hp:0<2 ^ s:=Zct (by omega);have hps:2 ^ s*2 ^ (64-s)=18446744073709551616:=by rw [<- Zdj,show s+(64-s)=64 by omega]
 have hq0:0<2 ^ (64-s):=Zct (by omega);rw [jd.go,jd.t25,zA,jd.jk,zA,jd.ji,fU,gu (by omega)];refine H.mk1 (l.length+1) (by omega) (by omega) (by omega) (by omega) fun id h1 nx1 H1 => ?_;rw [show (AV.int .u64 0)=U 0 from rfl,zkg] at H1;rw [zA,zA,jd.qh,fU,zL];refine jd.zn9 (fun m x8 h' nx'=>∃ (i c:Nat) (Z:List Nat),x8=I (i:Int)/\m+i=l.length/\Z.length=i/\Dg 18446744073709551616 Z/\c<2 ^ s/\bv 18446744073709551616 Z+18446744073709551616 ^ i*c=bv 18446744073709551616 (l.take i)*2 ^ s/\Hp h0 h' nx' (.arr id ((Z++c::List.replicate m 0).map U)::L)) (m:=l.length) (by omega) ⟨0,0,[],rfl,rfl,rfl,fun _ h=>by simp at h,hp,by simp [bv],by simpa [Zcb] using H1⟩ ?_;rintro m z4 z5 z8 z9 z10 h3 nx3 R ⟨i,c,Z,rfl,hm,hZ,hdZ,hc,hsm,H3⟩ hR;have hcW:c<18446744073709551616:=by
  have:2 ^ s*1<=2 ^ s*2 ^ (64-s):=Zbc _ hq0;omega
 rw [jd.t17,zA,jd.nU,uf];by_cases ci:i<l.length
 case neg =>
  have hm0:m=0:=by omega
  subst hm0;rw [Zab (by omega),zA,zB,jd.v9,zC,zX,yF,zA,jd.sU];simp only [zK,zR];rw [jd.ret];refine hK id (Z++[c]) _ _ (by simp;omega) (hdZ.append (Dg.one hcW)) ?_ (by simpa using H3);rw [gJ,hZ,hsm,Zae (by omega)]
 obtain ⟨k,rfl⟩:∃ k,m=k+1:=⟨m-1,by omega⟩;have ex:=getD_some (l:=l) (k:=i) ci;have hxW:=y0 (k:=i) (by decide) hd
 generalize hx:l.getD i 0=x at *
 have ld:((Z++c::List.replicate (k+1) 0).map U)[i]? = some (U c):=uGet (by rw [List.getElem?_append_right (by omega),show i-Z.length=0 by omega];rfl);have hxs:x*2 ^ s%18446744073709551616=(x%2 ^ (64-s))*2 ^ s:=by rw [<- hps,Zaq (2 ^ s) (2 ^ (64-s)),Zfn]
 have hxd:x*2 ^ s / 18446744073709551616=x / 2 ^ (64-s):=by rw [<- hps,Zaq (2 ^ s) (2 ^ (64-s)),Zfm _ _ hp]
 have hxm:=Zbl (x*2 ^ s) (show 0<18446744073709551616 by decide);have hx2:x / 2 ^ (64-s)<2 ^ s:=by rw [Zcj hq0,hps];exact hxW
 have hsum:c+x*2 ^ s%18446744073709551616<18446744073709551616:=by
  have a1:x%2 ^ (64-s)+1<=2 ^ (64-s):=Zbl _ hq0;have a2:(x%2 ^ (64-s)+1)*2 ^ s<=2 ^ (64-s)*2 ^ s:=Zai _ a1;rw [Zaq (2 ^ (64-s)),hps,Zam,Zbs,<- hxs] at a2;omega
 have hmod:(c+x*2 ^ s)%18446744073709551616=c+x*2 ^ s%18446744073709551616:=by
  generalize x*2 ^ s=y at *
  omega
 have hdiv:(c+x*2 ^ s) / 18446744073709551616=x / 2 ^ (64-s):=by
  rw [<- hxd]
  generalize x*2 ^ s=y at *
  omega
 rw [Zac (by omega),zA,zB,jd.v9,zE,zF,zA,zL,zA,jd.bV,uIx (i:=i) rfl ci,uLd ex,zA,jd.bf,sIx (i:=i) rfl (by omega),H3.load (k:=0) rfl ld,uShl (by omega),uOr (c:=c+x*2 ^ s%18446744073709551616) hcW hxm (by rw [hxs];exact ziw hc),sIx (i:=i) rfl (by omega)];refine H3.store (k:=0) rfl (by simp;omega) rfl fun h4 H4 => ?_;simp only [Zbq] at H4;rw [Zav,Zbt,gQ (by rw [Zaz];omega)] at H4;rw [zA,jd.rD,fJ,zB,jd.v10];have hst:=zvo (x:=x) (b:=18446744073709551616) hsm;rw [hmod,hdiv] at hst;by_cases cs:0<s
 ·rw [Zac (by omega),zE,jd.sD,gu (by omega),vw (by omega),show (64:Int)-(s:Int)=((64-s:Nat):Int) by omega,uShr (by omega),sIx (i:=i+1) (by omega) (by omega)];refine H4.store (k:=0) rfl (by simp;omega) rfl fun h5 H5 => ?_;simp only [Zbq] at H5;rw [Zcb,Zbt,show Z.map U++U (c+x*2 ^ s%18446744073709551616)::U 0::(List.replicate k 0).map U=(Z.map U++[U (c+x*2 ^ s%18446744073709551616)])++U 0::(List.replicate k 0).map U by simp,gQ (by simp;omega)] at H5;rw [jd.rq,gu (by omega)];refine hR k _ _ _ _ _ _ _ (by omega) ⟨i+1,x / 2 ^ (64-s),Z++[c+x*2 ^ s%18446744073709551616],by congr 1,by omega,by simp;omega,hdZ.append (Dg.one hsum),hx2,?_,?_⟩
  ·rw [gJ,hZ,zY,hx,Zbg];exact hst
  ·simpa using H5
 ·have s0:s=0:=by omega
  have hz:x / 2 ^ (64-s)=0:=by subst s0;exact Zep (by simpa using hxW)
  rw [hz] at hst;rw [Zab (by omega),zC,zF,jd.rq,gu (by omega)];refine hR k _ _ _ _ _ _ _ (by omega) ⟨i+1,0,Z++[c+x*2 ^ s%18446744073709551616],by congr 1,by omega,by simp;omega,hdZ.append (Dg.one hsum),hp,?_,?_⟩
  ·rw [gJ,hZ,zY,hx,Zbg];exact hst
  ·simpa [Zcb] using H4
theorem Hp.qad {h0 h:T Blk} {nx:Pa} {L:List Ob} {id:Pa} {l:List Nat} {n m:Nat} (H:Hp h0 h nx (.arr id (l.map U)::L)) (hn:n<=l.length) (hm:n<=m):∃ h',kJ h' h/\Hp h0 h' nx L/\sS h' h (.sl id 0 n (some m) 1) (um (l.take n)):=by
 have e:um (l.take n)=.lst 1 n ((l.map U).take n):=by unfold um;rw [Zau,Zby hn,Zfg]
 rw [e];exact ⟨_,pE,H.zr7,ug.ziu (H.own _ (Zal ..)) (T.get_set_same _ _ _ _) hm (by simpa using hn) (zr6 l)⟩
theorem zx2 {id:Pa} {n i:Nat} {op:AV->OP} (hn:1<=n) (hi:i<=n):kX 1 (.sl id 0 n (some n) 1) none (some (I (i:Int))) none op=op (.sl id 0 i (some n) 1):=by
 have e:kX 1 (.sl id 0 n (some n) 1) none (some (I (i:Int))) none op=(match bnd (some (I (i:Int))) n n with
  | none=>Out.no 17
  | some h=>bif Nat.beq n 0 then op (.sl id 0 (h-0) (some 0) 1) else xw (0+0*1) fun off=>xw (h-0) fun h=>xw (n-0) fun m=>op (.sl id off h (some m) 1)):=rfl
 rw [e,zbq hi];cases n with
 | zero=>omega
 | succ n=>simp only [yQ,Nat.sub_zero];rfl
theorem one_step {b q r d a z A:Nat} (h:A=z*d+r) (hq:(r*b+a)=q*d+(r*b+a)%d):a+b*A=(q+b*z)*d+(r*b+a)%d:=by
 rw [h,Zam,Zax,Zbe,Zaq b r];omega
theorem zgm {k:Nat} {Q:List Nat}:List.replicate (k+1) 0++Q=List.replicate k 0++0::Q:=by
 rw [List.replicate_succ',Zbk];rfl
theorem qae {l:List Nat} {d N:Nat} {h0 h:T Blk} {nx:Pa} {K:Kw Prop} {Kq:Ks Prop} {x2 x3 x4 x5 x6 x7 x8 x9 x10 x11 x12 x13 x14 x15 x16 x17 x18 x19 x20 x21:AV} (H:Hp h0 h nx []) (hN:1000010<=N) (hd:1<=d) (hdW:d<18446744073709551616) (hl:Dg 18446744073709551616 l) (hl1:1<=l.length) (hs:l.length<=100000)
  (hK:∀ v h' nx' L v',Hp h0 h' nx' L->sS h0 h' v v'->v'=.tup [um (dg 18446744073709551616 (bv 18446744073709551616 l / d)),um (dg 18446744073709551616 (bv 18446744073709551616 l%d))]->K v h' nx'=.ok True) :
  IR.run zi.t25 (CS Tryz.prog B) N (fnO zi.res K) Kq (zi.fr (um l) (um [d]) x2 x3 x4 x5 x6 x7 x8 x9 x10 x11 x12 x13 x14 x15 x16 x17 x18 x19 x20 x21) h nx=.ok True:=by
 rw [zi.t25,zA,zi.rD,fU];refine sMk1 (n:=l.length) H rfl (by omega) fun id h1 nx1 H1 => ?_;rw [zA,zi.sD,zA,zA,zi.ax,fU,vw (by omega),zL];refine zi.zn9 (fun m x5 x6 h' nx'=>∃ (r:Nat) (Q:List Nat),x5=U r/\x6=I ((m:Int)-1)/\m<=l.length/\Q.length=l.length-m/\Dg 18446744073709551616 Q/\r<d/\bv 18446744073709551616 (l.drop m)=bv 18446744073709551616 Q*d+r/\Hp h0 h' nx' [.arr id ((List.replicate m 0++Q).map U)]) (m:=l.length) (by omega) ⟨0,[],rfl,rfl,Zaf _,by simp,fun _ h=>by simp at h,hd,by simp [bv],by simpa using H1⟩ ?_;rintro m z5 z6 z16 h3 nx3 R ⟨r,Q,rfl,rfl,hm,hQ,hdQ,hr,hv,H3⟩ hR;rw [zi.t17,zA,zA,zi.nR,bT];cases m with
 | zero =>
  rw [Zab (by omega),zB,zi.v16,zC,zX,yF,zA,zi.sU];simp only [Zet,Zcs] at H3;obtain ⟨h5,hkp,H5,hF⟩:=H3.letU (n:=l.length) (by omega);refine xZ hkp (.cons hF .nil) ?_;refine wB hdQ (by omega) (by omega) _ _ _ _ ?_;rintro _ rfl _;refine H5.wz (l:=[U r]) rfl fun tb h6 nx6 H6 => ?_;obtain ⟨h7,hkp7,H7,hF7⟩:=H6.letU (l:=[r]) (n:=1) rfl;refine xZ hkp7 (.cons hF7 .nil) ?_;refine wB (Dg.one (by omega)) (by simp) (by simp) _ _ _ _ ?_;rintro _ rfl _;simp only [zK,zR];rw [zi.ret];refine hK _ _ _ _ _ H7 (j7 (yB (gX _)) (yB (gX _))) ?_;rw [Zdx] at hv;obtain ⟨a1,a2⟩:=zb0 hv hr;rw [a1,a2];first | rfl | simp [bv]
 | succ k =>
  have ea:=getD_some (l:=l) (k:=k) (by omega);have haW:=y0 (k:=k) (by decide) hl;rw [Zac (by omega),zB,zi.v16,zE,zF,zA,zL,zi.ng,uIx (i:=k) (by omega) (by omega),uLd ea,uIx (l:=[d]) (j:=0) (i:=0) rfl (by simp),uLd (x:=d) rfl];refine zsc (by omega) hdW haW _ _ _ _ ?_;rintro _ rfl _;simp only [zG];rw [yJ,yH,sIx (i:=k) (by omega) (by omega)];rw [zgm] at H3;refine H3.store (k:=0) rfl (by simp) rfl fun h4 H4 => ?_;rw [yH];simp only [zG];simp only [Zbq] at H4;rw [Zav,Zbt,gQ (by simp)] at H4;have e0:l.drop k=l.getD k 0::l.drop (k+1):=by
   rw [List.getElem?_eq_getElem (by omega)] at ea;rw [Zay (by omega),Option.some.inj ea]
  have hdm:r*18446744073709551616+l.getD k 0=(r*18446744073709551616+l.getD k 0) / d*d+(r*18446744073709551616+l.getD k 0)%d:=by
   rw [Zaq _ d];exact (Zdg _ _).symm
  have hqW:(r*18446744073709551616+l.getD k 0) / d<18446744073709551616:=by
   rw [Zcj (by omega)];have:(r+1)*18446744073709551616<=d*18446744073709551616:=Zai _ hr;omega
  rw [zi.sF,vw (by omega)];refine hR k _ _ _ _ _ (by omega) ⟨(r*18446744073709551616+l.getD k 0)%d,(r*18446744073709551616+l.getD k 0) / d::Q,rfl,by congr 1;omega,by omega,by simp;omega,?_,Zbl _ (by omega),?_,by simpa using H4⟩
  ·exact (Dg.one hqW).append hdQ
  ·rw [e0,bv,bv];exact one_step hv hdm
theorem zmz {P b Z X x y p q t:Nat} (h:p*Z+t=X+P*(x%p)) (hpq:p*q=b) :
  p*(Z+P*(x / p+y%p*q))+t=(X+P*x)+P*b*(y%p):=by
 have k:=Zdc x p;have e:=congrArg (P * ·) k;simp only [Zax] at e;have e1:p*(Z+P*(x / p+y%p*q))=p*Z+P*(p*(x / p))+P*b*(y%p):=by
  rw [Zax,Zax,Zax,<- hpq];have a1:p*(P*(x / p))=P*(p*(x / p)):=Zds ..;have a2:p*(P*(y%p*q))=P*(p*q)*(y%p):=by
   simp only [Zaq,Zds]
  omega
 omega
theorem zvp {W v Q:List Nat} {V s R N m:Nat} {id qid:Pa} {h0 h:T Blk} {nx:Pa} {K:Kw Prop} {Kq:Ks Prop} {x0 x1 x2 x3 x4 x5 x6 x8 x12 x13 x14 x15 x16 x17 x18 x19 x20 x21:AV} {qn:Nat}
  (H:Hp h0 h nx [.arr qid (Q.map U),.arr id (W.map U)]) (hN:1000010<=N) (hQ:Q.length=qn) (hQ1:1<=qn) (hQs:qn<=100001) (hdQ:Dg 18446744073709551616 Q) (hdW:Dg 18446744073709551616 W) (hm:m+1<=W.length) (hm1:1<=m) (hms:W.length<=100001) (hs:s<=63) (hval:bv 18446744073709551616 W=R*2 ^ s) (hlt:bv 18446744073709551616 W<18446744073709551616 ^ m)
  (hK:∀ v h' nx' L v',Hp h0 h' nx' L->sS h0 h' v v'->v'=.tup [um (dg 18446744073709551616 (bv 18446744073709551616 Q)),um (dg 18446744073709551616 R)]->K v h' nx'=.ok True) :
  IR.run zi.t66 (CS Tryz.prog B) N (fnO zi.res K) Kq (zi.fr x0 x1 x2 x3 x4 x5 x6 (I (s:Int)) x8 (.sl id 0 W.length (some W.length) 1) (I (m:Int)) (.sl qid 0 qn (some qn) 1) x12 x13 x14 x15 x16 x17 x18 x19 x20 x21) h nx=.ok True:=by
 have hp:0<2 ^ s:=Zct (by omega);have hps:2 ^ s*2 ^ (64-s)=18446744073709551616:=by rw [<- Zdj,show s+(64-s)=64 by omega]
 have hq0:0<2 ^ (64-s):=Zct (by omega);have hWt:bv 18446744073709551616 W=bv 18446744073709551616 (W.take m)+18446744073709551616 ^ m*bv 18446744073709551616 (W.drop m):=by
  have:=kN 18446744073709551616 (W.take m) (W.drop m)
  rwa [Zdl,Zau,Zby (by omega)] at this
 have hdz:bv 18446744073709551616 (W.drop m)=0:=by
  rcases Zce (bv 18446744073709551616 (W.drop m)) with q | q
  ·exact q
  ·have:18446744073709551616 ^ m*1<=18446744073709551616 ^ m*bv 18446744073709551616 (W.drop m):=Zbc _ q;omega
 have hwm:W.getD m 0=0:=by
  have e:=getD_some (l:=W) (k:=m) (by omega);rw [List.getElem?_eq_getElem (by omega)] at e;rw [Zay (by omega),Option.some.inj e,bv] at hdz;omega
 rw [hdz,Zeb,Zcc] at hWt;rw [zi.t66,zA,zA,zi.qa4,zL];refine zi.qa7 (fun n x19 h' nx'=>∃ (i:Nat) (Z:List Nat),x19=I (i:Int)/\n+i=m/\Z.length=i/\Dg 18446744073709551616 Z/\2 ^ s*bv 18446744073709551616 Z+W.getD 0 0%2 ^ s=bv 18446744073709551616 (W.take i)+18446744073709551616 ^ i*(W.getD i 0%2 ^ s)/\Hp h0 h' nx' [.arr qid (Q.map U),.arr id ((Z++W.drop i).map U)]) (m:=m) (by omega) ⟨0,[],rfl,rfl,rfl,fun _ h=>by simp at h,by simp [bv],by simpa using H⟩ ?_;rintro n z13 z19 z20 z21 h3 nx3 R' ⟨i,Z,rfl,hn,hZ,hdZ,hv,H3⟩ hR;rw [zi.t60,zA,zi.qa5,uf];by_cases ci:i<m
 case neg =>
  have hi:i=m:=by omega
  subst hi;rw [Zab (by omega),zA,zB,zi.v20,zC,zX,yF,zA,zi.zn7,zx2 (by omega) (by omega)];obtain ⟨h5,hkp,H5,hF⟩:=H3.letU (n:=qn) hQ;refine xZ hkp (.cons hF .nil) ?_;refine wB hdQ (by omega) (by omega) _ _ _ _ ?_;rintro _ rfl _;rw [zx2 (by omega) (by omega)];simp only [zG];obtain ⟨h6,hkp6,H6,hF6⟩:=H5.qad (n:=i) (m:=W.length) (by simp;omega) (by omega);refine xZ hkp6 (.cons hF6 .nil) ?_;rw [List.take_append_of_le_length (by omega),Zae (by omega)];refine wB hdZ (by omega) (by omega) _ _ _ _ ?_;rintro _ rfl _;simp only [zK,zR];rw [zi.ret];refine hK _ _ _ _ _ H6 (j7 (yB (gX _)) (yB (gX _))) ?_;rw [hwm,Nat.zero_mod,Zeb,Zcc,<- hWt,hval] at hv;have ht:=Zbl (W.getD 0 0) hp;have h0:W.getD 0 0%2 ^ s=0:=by
   have:=congrArg (· % 2 ^ s) hv;simp only [Nat.mul_add_mod,Nat.mul_mod_left,Nat.mod_mod] at this;exact this
  rw [h0,Zcc,Zaq] at hv;rw [Nat.eq_of_mul_eq_mul_right hp hv]
 have e0:W.drop i=W.getD i 0::W.drop (i+1):=by
  have ea:=getD_some (l:=W) (k:=i) (by omega);rw [List.getElem?_eq_getElem (by omega)] at ea;rw [Zay (by omega),Option.some.inj ea]
 have e1:W.drop (i+1)=W.getD (i+1) 0::W.drop (i+1+1):=by
  have ea:=getD_some (l:=W) (k:=i+1) (by omega);rw [List.getElem?_eq_getElem (by omega)] at ea;rw [Zay (by omega),Option.some.inj ea]
 have hxW:=y0 (k:=i) (by decide) hdW;have hyW:=y0 (k:=i+1) (by decide) hdW;have hst:=zmz (y:=W.getD (i+1) 0) hv hps;rw [e0] at H3
 generalize hx:W.getD i 0=x at *
 generalize hy:W.getD (i+1) 0=y at *
 have ld:((Z++x::W.drop (i+1)).map U)[i]? = some (U x):=uGet (by rw [List.getElem?_append_right (by omega),show i-Z.length=0 by omega];rfl);have hx2:x / 2 ^ s<2 ^ (64-s):=by rw [Zcj hp,Zaq,hps];exact hxW
 have hx3:x / 2 ^ s<=x:=Zdd ..;have hym:y*2 ^ (64-s)%18446744073709551616=y%2 ^ s*2 ^ (64-s):=by rw [<- hps,Zfn]
 have hyl:y%2 ^ s*2 ^ (64-s)+2 ^ (64-s)<=18446744073709551616:=by
  rw [<- hps,<- Zdu];exact Zai _ (Zbl _ hp)
 rw [Zac (by omega),zA,zB,zi.v20,zE,zF,zA,zL,zA,zi.qa6,zA,zi.zoe,sIx (i:=i) rfl (by omega),H3.load (k:=1) rfl ld,uShr (by omega),sIx (i:=i) rfl (by omega)];refine H3.store (k:=1) rfl (by simp;omega) rfl fun h4 H4 => ?_;simp only [Zey,Zbq] at H4;rw [Zav,Zbt,gQ (by simp;omega)] at H4;rw [zA,zi.ze5,zi.zof,zi.zts,fJ];by_cases cs:0<s
 ·rw [Zac (by omega)];simp only [yT];rw [gu (by omega),jA,uf,zi.zrk,zi.zji];simp only [zV];have l1:(Z.map U++U (x / 2 ^ s)::(W.drop (i+1)).map U)[i]? = some (U (x / 2 ^ s)):=by
   rw [List.getElem?_append_right (by simp;omega),Zaz,show i-Z.length=0 by omega];rfl
  have l2:(Z.map U++U (x / 2 ^ s)::(W.drop (i+1)).map U)[i+1]? = some (U y):=by
   rw [List.getElem?_append_right (by simp;omega),Zaz,show i+1-Z.length=1 by omega,e1];rfl
  rw [Zac (by omega),zB,zi.v21,zE,zi.zaj,zi.zoi,zi.ztt,sIx (i:=i) rfl (by omega),H4.load (k:=1) rfl l1,gu (by omega),sIx (i:=i+1) (by omega) (by omega),zi.zxp,zi.ztu,H4.load (k:=1) rfl l2,vw (by omega),show (64:Int)-(s:Int)=((64-s:Nat):Int) by omega,uShl (by omega),uOr (c:=x / 2 ^ s+y%2 ^ s*2 ^ (64-s)) (by omega) (by omega) (by rw [hym];exact ziw hx2),sIx (i:=i) rfl (by omega)];refine H4.store (k:=1) rfl (by simp;omega) rfl fun h5 H5 => ?_;simp only [Zey,Zbq] at H5;rw [gQ (by simp;omega)] at H5;rw [zi.zjg,gu (by omega)];refine hR (n-1) _ _ _ _ _ _ (by omega) ⟨i+1,Z++[x / 2 ^ s+y%2 ^ s*2 ^ (64-s)],by congr 1,by omega,by simp;omega,hdZ.append (Dg.one (by omega)),?_,?_⟩
  ·rw [gJ,hZ,zY,hx,hy,Zbg];exact hst
  ·simpa using H5
 ·have s0:s=0:=by omega
  subst s0;rw [Zab (by omega)];simp only [yM];rw [zi.zrk,zi.zji];simp only [zT];rw [zB,zi.v21,zC,zF,zi.zjg,gu (by omega)];have hz:x / 2 ^ 0+y%2 ^ 0*2 ^ (64-0)=x / 2 ^ 0:=by rw [Nat.pow_zero,Nat.mod_one,Zea,Zcc]
  rw [hz] at hst;refine hR (n-1) _ _ _ _ _ _ (by omega) ⟨i+1,Z++[x / 2 ^ 0],by congr 1,by omega,by simp;omega,hdZ.append (Dg.one (by omega)),?_,?_⟩
  ·rw [gJ,hZ,zY,hx,hy,Zbg];exact hst
  ·simpa using H4
theorem zvq {id:Pa} {n i j:Nat} {op:AV->OP} (hij:i<=j) (hj:j<=n) (hn:i<n):kX 1 (.sl id 0 n (some n) 1) (some (I (i:Int))) (some (I (j:Int))) none op=op (.sl id i (j-i) (some (n-i)) 1):=by
 have e:kX 1 (.sl id 0 n (some n) 1) (some (I (i:Int))) (some (I (j:Int))) none op=(match bnd (some (I (j:Int))) n n with
  | none=>Out.no 17
  | some h=>match bnd (some (I (i:Int))) h 0 with
   | none=>Out.no 17
   | some q=>bif Nat.beq n q then op (.sl id 0 (h-q) (some 0) 1) else xw (0+q*1) fun off=>xw (h-q) fun h=>xw (n-q) fun m=>op (.sl id off h (some m) 1)):=rfl
 rw [e,zbq hj]
 dsimp only
 rw [zbq hij]
 dsimp only
 have hb:Nat.beq n i=false:=by
  cases q:Nat.beq n i with
  | false=>rfl
  | true=>have:=Zek q;omega
 rw [hb,cond_false];simp only [yQ,Zca,Zbh]
theorem zse {P b A W0 V Q X:Nat} (h:X=(A+P*W0)+P*b*Q*V):X=(A+P*(W0%V))+P*(W0 / V+b*Q)*V:=by
 have k:=Zdc W0 V;have e:=congrArg (P * ·) k;simp only [Zax] at e;have e1:P*(W0 / V+b*Q)*V=P*(V*(W0 / V))+P*b*Q*V:=by
  rw [Zax,Zam,Zbe P (W0 / V) V,Zaq (W0 / V) V,<- Zbe P b Q]
 omega
theorem zb5 {b:Nat} {l:List Nat} {k:Nat} (h:k<=l.length):bv b l=bv b (l.take k)+b ^ k*bv b (l.drop k):=by
 have:=kN b (l.take k) (l.drop k)
 rwa [Zdl,Zau,Zby h] at this
theorem zsf {b:Nat} {l:List Nat} {k:Nat} (h:k<=l.length) (hv:bv b l<b ^ k):bv b (l.drop k)=0/\bv b (l.take k)=bv b l:=by
 have e:=zb5 (b:=b) h;rcases Zce (bv b (l.drop k)) with q | q
 ·rw [q,Zeb,Zcc] at e;exact ⟨q,e.symm⟩
 ·have:b ^ k*1<=b ^ k*bv b (l.drop k):=Zbc _ q;omega
theorem zvr {a d:Nat} {h:T Blk} {nx:Pa} {K:Kw Prop} {Kq:Ks Prop} {x2 x3 x4 x5 x6 x7 x8 x9 x10 x11 x12 x13 x14 x15 x16 x17 x18 x19 x20 x21:AV} (H0:Hp h h nx []) (hd:1<=d) (ha:(dg 18446744073709551616 a).length<=100000) (hds:(dg 18446744073709551616 d).length<=100000) (hn2:2<=(dg 18446744073709551616 d).length) (hla:(dg 18446744073709551616 d).length<=(dg 18446744073709551616 a).length) (hda:d<=a)
  (hK:∀ v h' nx' L v',Hp h h' nx' L->sS h h' v v'->v'=.tup [um (dg 18446744073709551616 (a / d)),um (dg 18446744073709551616 (a%d))]->K v h' nx'=.ok True) :
  IR.run zi.t72 (CS Tryz.prog B) 1000010 (fnO zi.res K) Kq (zi.fr (um (dg 18446744073709551616 a)) (um (dg 18446744073709551616 d)) x2 x3 x4 x5 x6 x7 x8 x9 x10 x11 x12 x13 x14 x15 x16 x17 x18 x19 x20 x21) h nx=.ok True:=by
 have oa:=kF (b:=18446744073709551616) (by decide) a;have od:=kF (b:=18446744073709551616) (by decide) d;obtain ⟨m,hm⟩:∃ m,(dg 18446744073709551616 d).length=m+1:=⟨(dg 18446744073709551616 d).length-1,by omega⟩;have htop:=getD_some (l:=dg 18446744073709551616 d) (k:=m) (by omega);have htW:=y0 (k:=m) (by decide) od.2.1;have ht1:1<=(dg 18446744073709551616 d).getD m 0:=by
  have:=od.2.2;unfold Nm at this;rw [List.getLast?_eq_getElem?,hm,Nat.add_sub_cancel,htop] at this;rcases Zce ((dg 18446744073709551616 d).getD m 0) with q | q
  ·rw [q] at this;exact absurd rfl this
  ·exact q
 have hdm:bv 18446744073709551616 ((dg 18446744073709551616 d).take m)+18446744073709551616 ^ m*(dg 18446744073709551616 d).getD m 0=d:=by
  rw [<- zY,Zae (by omega),od.1]
 have l1:=q0 (b:=18446744073709551616) (m:=m) (by decide) od.2.1 (by omega);rw [zi.t72,zA,zi.tC,fU,vw (by omega),uIx (i:=m) (by omega) (by omega),uLd htop];refine zkj ht1 htW _ _ _ _ ?_;rintro _ ⟨s,rfl,hs,hts,hts2⟩ _
 generalize (dg 18446744073709551616 d).getD m 0=top at *
 have hp:0<2 ^ s:=Zct (by omega);have hps:2 ^ s*2 ^ (64-s)=18446744073709551616:=by rw [<- Zdj,show s+(64-s)=64 by omega]
 have hpw:18446744073709551616 ^ (m+1)=18446744073709551616 ^ m*18446744073709551616:=Zbg ..;have hPm:0<18446744073709551616 ^ m:=Zct (by decide);have hVlt:d*2 ^ s<18446744073709551616 ^ (m+1):=by
  have b1:top<2 ^ (64-s):=by
   refine Nat.lt_of_mul_lt_mul_right (a:=2 ^ s) ?_;rw [Zaq (2 ^ (64-s)),hps];exact hts
  have b2:(top+1)*2 ^ s<=2 ^ (64-s)*2 ^ s:=Zai _ b1;rw [Zaq (2 ^ (64-s)),hps] at b2;have b3:d<18446744073709551616 ^ m*(top+1):=by rw [Zax,Zca];omega
  have b4:d*2 ^ s<18446744073709551616 ^ m*(top+1)*2 ^ s:=Zen b3 hp;have b5:18446744073709551616 ^ m*((top+1)*2 ^ s)<=18446744073709551616 ^ m*18446744073709551616:=Zbc _ b2;rw [Zbe] at b4;omega
 have hdge:18446744073709551616 ^ m<=d:=by
  have:18446744073709551616 ^ m*1<=18446744073709551616 ^ m*top:=Zbc _ ht1;omega
 have hVge:18446744073709551616 ^ m*2 ^ s<=d*2 ^ s:=Zai _ hdge;have qec:18446744073709551616 ^ m<=d*2 ^ s:=by
  have:18446744073709551616 ^ m*1<=18446744073709551616 ^ m*2 ^ s:=Zbc _ hp;omega
 have oV:=kF (b:=18446744073709551616) (by decide) (d*2 ^ s);have hvl:(dg 18446744073709551616 (d*2 ^ s)).length=m+1:=by
  have c1:=m7 (b:=18446744073709551616) (by decide) hVlt;have c2:=zmw (b:=18446744073709551616) (by decide) qec;omega
 have haW:a<18446744073709551616 ^ (dg 18446744073709551616 a).length:=by
  have:=vB (b:=18446744073709551616) (by decide) oa.2.1
  rwa [oa.1] at this
 rw [zA,zi.zeu];refine zgl (L:=[]) H0 od.2.1 hds hs fun vid Z h1 nx1 g1 g2 g3 H1 => ?_;obtain ⟨h2,hkp,H2,hF⟩:=H1.letU (n:=(dg 18446744073709551616 d).length+1) g1;refine xZ hkp (.cons hF .nil) ?_;refine wB g2 (by omega) (by omega) _ _ _ _ ?_;rintro _ rfl _;rw [g3,od.1,zA,zi.qa1];refine zgl (L:=[]) H2 oa.2.1 ha hs fun uid Z2 h3 nx3 f1 f2 f3 H3 => ?_;rw [oa.1] at f3;have qee:1<=(dg 18446744073709551616 (d*2 ^ s)).getD ((dg 18446744073709551616 (d*2 ^ s)).length-1) 0:=by
  have:=oV.2.2;unfold Nm at this;rw [List.getLast?_eq_getElem?,getD_some (l:=dg 18446744073709551616 (d*2 ^ s)) (by omega)] at this;rcases Zce ((dg 18446744073709551616 (d*2 ^ s)).getD ((dg 18446744073709551616 (d*2 ^ s)).length-1) 0) with q | q
  ·rw [q] at this;exact absurd rfl this
  ·exact q
 have zx3:0<d*2 ^ s:=Nat.mul_pos hd hp;have fin:∀ Q R:Nat,a*2 ^ s=R+Q*(d*2 ^ s)->R<d*2 ^ s->Q=a / d/\R=a%d*2 ^ s:=fun Q R e hR=>by
  obtain ⟨c1,c2⟩:=zb0 (U:=a*2 ^ s) (V:=d*2 ^ s) (q:=Q) (r:=R) (by omega) hR;rw [Zfm _ _ hp] at c1;rw [Zfn] at c2;exact ⟨c1.symm,c2.symm⟩
 rw [zA,zi.zey,fU,hvl,zA,zi.znv,fU,vw (by omega),gu (by omega)]
 generalize hLa:(dg 18446744073709551616 a).length=la at *
 obtain ⟨qn,hqn⟩:∃ qn,la=m+qn:=⟨la-m,by omega⟩;refine sMk1 (n:=qn) H3 (by omega) (by omega) fun qid h4 nx4 H4 => ?_;rw [zA,zA,zi.oU,fU,hLa,vw (by omega),zL];refine zi.qa3 (fun k x12 h' nx'=>∃ Q Ul:List Nat,x12=I ((k:Int)-1)/\k<=qn/\Q.length=qn-k/\Dg 18446744073709551616 Q/\Ul.length=la+1/\Dg 18446744073709551616 Ul/\a*2 ^ s=bv 18446744073709551616 Ul+18446744073709551616 ^ k*bv 18446744073709551616 Q*(d*2 ^ s)/\bv 18446744073709551616 (Ul.drop k)<d*2 ^ s/\Hp h h' nx' [.arr qid ((List.replicate k 0++Q).map U),.arr uid (Ul.map U)]) (m:=qn) (by omega) ⟨[],Z2,by congr 1;omega,Zaf _,by simp,fun _ h=>by simp at h,f1,f2,by simp [bv,f3],?_,by simpa using H4⟩ ?_
 ·have e:=zb5 (b:=18446744073709551616) (l:=Z2) (k:=qn) (by omega);rw [f3] at e;rcases Zdr (bv 18446744073709551616 (Z2.drop qn)) (d*2 ^ s) with q | q
  ·exact q
  ·exfalso
   have c1:18446744073709551616 ^ qn*(d*2 ^ s)<=18446744073709551616 ^ qn*bv 18446744073709551616 (Z2.drop qn):=Zbc _ q;have c2:18446744073709551616 ^ qn*(18446744073709551616 ^ m*2 ^ s)<=18446744073709551616 ^ qn*(d*2 ^ s):=Zbc _ hVge;have c3:a*2 ^ s<18446744073709551616 ^ la*2 ^ s:=Zen haW hp;rw [hqn,Zda m qn,Zdj,Zbe] at c3;omega
 rintro k z12 z17 h5 nx5 R ⟨Q,Ul,rfl,hk,hQ,hdQ,hUl,hdU,hval,hlt,H5⟩ hR;rw [zi.t41,zA,zA,zi.zac,bT];cases k with
 | zero =>
  rw [Zab (by omega),zB,zi.v17,zC,zX,yF];simp only [Zet,Zcs] at H5;rw [Nat.pow_zero,Zbs] at hval;rw [Zdx] at hlt;obtain ⟨c1,c2⟩:=fin _ _ hval hlt;have:=zvp (B:=B) (W:=Ul) (v:=[]) (V:=0) (R:=a%d) (m:=m+1) (qn:=qn) (K:=K) (Kq:=Kq) (N:=1000010) (x0:=um (dg 18446744073709551616 a)) (x1:=um (dg 18446744073709551616 d)) (x2:=x2) (x3:=x3) (x4:=x4) (x5:=x5) (x6:=x6) (x8:=um (dg 18446744073709551616 (d*2 ^ s))) (x12:=I ((0:Nat)-1)) (x13:=x13) (x14:=x14) (x15:=x15) (x16:=x16) (x17:=.bool false) (x18:=x18) (x19:=x19) (x20:=x20) (x21:=x21) H5 (Zaf _) (by omega) (by omega) (by omega) hdQ hdU (by omega) (by omega) (by omega) hs c2 (by omega) fun v h' nx' L v' e1 e2 e3=>hK v h' nx' L v' e1 e2 (by rw [e3,c1]);rw [hUl] at this;exact this
 | succ k =>
  have hX:k+m+2<=la+1:=by omega
  have eW:((Ul.drop k).take (m+2)).length=m+2:=by rw [Zau,Zdk];omega
  have eA:(Ul.take k).length=k:=by rw [Zau];omega
  have eU:Ul=Ul.take k++((Ul.drop k).take (m+2)++Ul.drop (k+(m+2))):=by
   rw [<- Zfu,Zdl,Zdl]
  have e0:Ul.drop k=Ul.getD k 0::Ul.drop (k+1):=by
   have ea:=getD_some (l:=Ul) (k:=k) (by omega);rw [List.getElem?_eq_getElem (by omega)] at ea;rw [Zay (by omega),Option.some.inj ea]
  have hu0:=y0 (k:=k) (by decide) hdU;have hdd:Dg 18446744073709551616 (Ul.drop k):=fun x hx=>hdU x (List.mem_of_mem_drop hx);have hwin:bv 18446744073709551616 (Ul.drop k)=Ul.getD k 0+18446744073709551616*bv 18446744073709551616 (Ul.drop (k+1)):=by rw [e0,bv]
  have hwlt:bv 18446744073709551616 (Ul.drop k)<18446744073709551616*(d*2 ^ s):=by
   have:18446744073709551616*(bv 18446744073709551616 (Ul.drop (k+1))+1)<=18446744073709551616*(d*2 ^ s):=Zbc _ hlt;rw [Zax,Zca] at this;omega
  have hwp:bv 18446744073709551616 (Ul.drop k)<18446744073709551616 ^ (m+2):=by
   have:18446744073709551616*(d*2 ^ s)<=18446744073709551616*18446744073709551616 ^ (m+1):=Zbc _ (by omega);rw [show m+2=m+1+1 from rfl,Zbg,Zaq (18446744073709551616 ^ (m+1))];omega
  obtain ⟨z1,z2⟩:=zsf (b:=18446744073709551616) (l:=Ul.drop k) (k:=m+2) (by rw [Zdk];omega) hwp;rw [Zfu] at z1;rw [eU] at H5;have H6:=H5.perm (.swap _ _ _);rw [Zac (by omega),zB,zi.v17,zE,zF,zA,zL,zi.zaf,zi.zoa,zi.ztp,show ((k+1:Nat):Int)-1=(k:Int) by omega,gu (by omega),gu (by omega),zi.zxo,zi.ztq,show (k:Int)+((m+1:Nat):Int)+1=((k+(m+2):Nat):Int) by omega,zvq (by omega) (by omega) (by omega),Zcy];have hst:=fun KK:Kw Prop=>zvn (B:=B) (K:=KK) (p0:=.of 254) (A:=Ul.take k) (W:=(Ul.drop k).take (m+2)) (C:=Ul.drop (k+(m+2))) (v:=dg 18446744073709551616 (d*2 ^ s)) (cap:=some (la+1-k)) H6 (by omega) (by omega) hdd.take oV.2.1 (by omega) qee (by rw [z2,oV.1];exact hwlt);rw [eA,hvl] at hst;refine hst _ fun Y h6 nx6 y1 y2 y3 H7 => ?_;rw [oV.1,z2] at y3 ⊢;have H8:=H7.perm (.swap _ _ _);have hdig:bv 18446744073709551616 (Ul.drop k) / (d*2 ^ s)<18446744073709551616:=by rw [Zcj zx3];exact hwlt
  rw [zgm] at H8;rw [zi.zxn,zi.ztr,sIx (i:=k) rfl (by omega)];refine H8.store (k:=0) rfl (by simp) rfl fun h7 H9 => ?_;simp only [Zbq] at H9;rw [Zav,Zbt,gQ (by simp)] at H9;rw [zi.ze1,vw (by omega)];refine hR k _ _ _ _ (by omega) ⟨bv 18446744073709551616 (Ul.drop k) / (d*2 ^ s)::Q,Ul.take k++(Y++Ul.drop (k+(m+2))),rfl,by omega,by simp;omega,(Dg.one hdig).append hdQ,by simp;omega,hdU.take.append (y2.append fun x hx=>hdU x (List.mem_of_mem_drop hx)),?_,?_,by simpa using H9⟩
  ·rw [kN,kN,z1,Zeb,Zcc,eA,y3,bv];refine zse ?_;rw [hval,zb5 (b:=18446744073709551616) (l:=Ul) (k:=k) (by omega),Zbg]
  ·rw [List.drop_append_of_le_length (by omega),Zcf (by omega),Zcs,kN,z1,Zeb,Zcc,y3];exact Zbl _ zx3
theorem zm0 {a d:Nat} (hd:1<=d) (ha:Sz a) (hds:Sz d):Pure Tryz.prog B 277 [um (dg 18446744073709551616 a),um (dg 18446744073709551616 d)] (· = .tup [um (dg 18446744073709551616 (a / d)),um (dg 18446744073709551616 (a%d))]):=by
 refine yC fun h nx K H0 hK=>zQ zW yX 1000010 fun hf => ?_;have oa:=kF (b:=18446744073709551616) (by decide) a;have od:=kF (b:=18446744073709551616) (by decide) d;have hN:1000010<=1000010:=Zaf _;unfold Sz at ha hds;rw [zi.go,zi.t75,zA,zi.jk,zA,zA,zi.ji];refine zr9 ha hds _ _ _ _ ?_;rintro _ rfl _;rw [uf,zB,zi.v14];by_cases c:a<d
 ·rw [Zac (by rw [cmpN,if_pos c];decide),zE,zA,zi.qh];simp only [zK,zR];rw [zi.ret];refine hK _ _ _ _ _ H0 (j7 (.zfz 1) (yB (gX _))) ?_;rw [Zep c,Zap c,kE];rfl
 rw [Zab (by rw [cmpN,if_neg c];split <;> decide),zC,zF,zA,zA,zi.bf,fU,dm,zB,zi.v15];have hla:(dg 18446744073709551616 d).length<=(dg 18446744073709551616 a).length:=by
  rcases Zdr (dg 18446744073709551616 a).length (dg 18446744073709551616 d).length with q | q
  ·have:=wG (b:=18446744073709551616) (by decide) q;omega
  ·exact q
 have hld1:1<=(dg 18446744073709551616 d).length:=by rw [wO (by decide) (by omega)];simp
 by_cases c1:(dg 18446744073709551616 d).length=1
 ·rw [Zac (by omega),zE];have e1:dg 18446744073709551616 d=[d]:=by
   cases hdd:dg 18446744073709551616 d with
   | nil=>rw [hdd] at c1;cases c1
   | cons x l =>
    rw [hdd] at c1;have:l=[]:=by cases l with
     | nil=>rfl
     | cons y l=>simp at c1
    subst this;have:=od.1;rw [hdd] at this;simp [bv] at this;rw [this]
  have hdW:d<18446744073709551616:=by
   have:=od.2.1 d (by rw [e1];simp);exact this
  rw [e1];refine qae H0 hN hd hdW oa.2.1 (by omega) ha fun v h' nx' L v' g1 g2 g3=>hK v h' nx' L v' g1 g2 ?_;rw [g3,oa.1]
 rw [Zab (by omega),zC,zF];exact zvr H0 hd ha hds (by omega) hla (by omega) hK
def fK (s w:AV) (z:Int):Prop :=
 (s=I z/\w=.zn /\ -9223372036854775808<=z/\z<=9223372036854775807) \/
 (∃ n:Int,s=I n/\w=um (dg 18446744073709551616 z.natAbs)/\((z<0/\n = -1)\/(0<z/\n=1))/\9223372036854775808<=z.natAbs)
def bY (v:AV) (z:Int):Prop:=∃ s w,v=.agg [s,w]/\fK s w z
theorem rU {N:Pa->Prop} {O:AV->Prop} {hh:T Blk} {l:List AV} (h:∀ v∈l,fO v=true):Frz True N O hh (.agg l) (.agg l) :=
 .agg _ _ rfl (List.all_eq_true.2 fun v hv=>fO.uy (h v hv)) fun i v v' h1 h2=>by rw [h1] at h2;cases h2;exact yB (h v (Zad h1))
theorem fK.fix {s w:AV} {z:Int} (h:fK s w z):∀ v∈[s,w],fO v=true:=by
 intro v hv;simp only [Zao,List.not_mem_nil,or_false] at hv;rcases h with ⟨rfl,rfl,_⟩ | ⟨n,rfl,rfl,_⟩
 ·rcases hv with rfl | rfl <;> rfl
 ·rcases hv with rfl | rfl
  ·rfl
  ·exact gX _
theorem bY.frz {v:AV} {z:Int} (h:bY v z) {N:Pa->Prop} {O:AV->Prop} {hh:T Blk}:Frz True N O hh v v:=by
 obtain ⟨s,w,rfl,h⟩:=h;exact rU h.fix
theorem yZ {z:Int} (h : -9223372036854775808<=z/\z<=9223372036854775807):bY (.agg [I z,.zn]) z:=⟨_,_,rfl,.inl ⟨rfl,rfl,h.1,h.2⟩⟩
theorem zix {n:Nat} (h:n≠0) (h2:n<18446744073709551616):dg 18446744073709551616 n=[n]:=by
 rw [wO (by decide) h,Zep h2,kE,Zap h2]
theorem zvs {n:Nat} (h:(dg 18446744073709551616 n).length=1):n≠0/\n<18446744073709551616/\dg 18446744073709551616 n=[n]:=by
 have h0:n≠0:=by rintro rfl;rw [kE] at h;simp at h
 have h1:n<18446744073709551616:=by
  have:=vB (b:=18446744073709551616) (by decide) (kF (b:=18446744073709551616) (by decide) n).2.1;rw [(kF (b:=18446744073709551616) (by decide) n).1,h] at this;simpa using this
 exact ⟨h0,h1,zix h0 h1⟩
theorem zb6 {n:Nat} (h:n≠0):1<=(dg 18446744073709551616 n).length:=by rw [wO (by decide) h];simp
theorem zel {K:AV->OP}:zh .eql (.nil .sl) .zn .zn K=K (.bool true):=nr rfl
theorem qaf {K:AV->OP}:zh .neq (.nil .sl) .zn .zn K=K (.bool false):=nr rfl
theorem zkn {l:List Nat} (h:1<=l.length):gC .sl (um l)=some false:=by
 show (bif Nat.ble 1 l.length then some false else none)=_;rw [Zag h];rfl
theorem qag {l:List Nat} {K:AV->OP} (h:1<=l.length):zh .neq (.nil .sl) (um l) .zn K=K (.bool true):=by
 have e2:zh .neq (.nil .sl) (um l) .zn K=(match gC .sl (um l),gC .sl .zn with
  | some b,some true=>vL .neq b K
  | _,_=>.no 5):=nr rfl
 rw [e2,zkn h];rfl
theorem ziy {l:List Nat} {K:AV->OP} (h:1<=l.length):zh .eql (.nil .sl) (um l) .zn K=K (.bool false):=by
 have e2:zh .eql (.nil .sl) (um l) .zn K=(match gC .sl (um l),gC .sl .zn with
  | some b,some true=>vL .eql b K
  | _,_=>.no 5):=nr rfl
 rw [e2,zkn h];rfl
theorem bEql {a b:Bool} {K:AV->OP}:zh .eql .bool (.bool a) (.bool b) K=K (.bool (a==b)):=by cases a <;> cases b <;> exact nr rfl
theorem bNeq {a b:Bool} {K:AV->OP}:zh .neq .bool (.bool a) (.bool b) K=K (.bool (a != b)):=by cases a <;> cases b <;> exact nr rfl
theorem zvt {K:AV->OP}:gE [(I 0),.zn] [] K=K (.agg [I 0,.zn]):=nr rfl
theorem kC {z:Int} {K:AV->OP}:gE [(I 0),.zn] [(0,1,I z)] K=K (.agg [I z,.zn]):=nr rfl
theorem bH {z:Int} {l:List Nat} {K:AV->OP}:gE [(I 0),.zn] [(0,1,I z),(1,1,um l)] K=K (.agg [I z,um l]):=nr rfl
def Zs (k:Nat) (z:Int):Prop:=z.natAbs<18446744073709551616 ^ k
theorem Zs.len {k:Nat} {z:Int} (h:Zs k z):(dg 18446744073709551616 z.natAbs).length<=k:=m7 (by decide) h
theorem qP {v:AV} {z:Int} (hv:bY v z):Pure Tryz.prog B 267 [v] (· = .tup [.bool (decide (z<0)),um (dg 18446744073709551616 z.natAbs)]):=by
 obtain ⟨s,w,rfl,hv⟩:=hv;refine yC fun h nx K H0 hK=>zQ zW yX 100 fun hf => ?_;rw [uj.go,uj.t15,zA,uj.jk];refine H0.box (l:=[s,w]) rfl fun pa h1 nx1 H1 => ?_;rcases hv with ⟨rfl,rfl,h1,h2⟩ | ⟨s,rfl,rfl,hs,hb⟩
 ·rw [zA,zL,zA,uj.ji,sFx,H1.load (k:=0) (i:=0+1) rfl rfl,qaf,zB,uj.v4,zC,zA,uj.ny,sFx,H1.load (k:=0) (i:=0+0) rfl rfl,dm,zB,uj.v5];by_cases c:z=0
  ·rw [Zac c,zE,zA,uj.bV];simp only [zK,uC,zR];rw [uj.ret];refine hK _ _ _ _ _ H1 (j7 (yB rfl) (.zfz 1)) ?_;subst c;rw [Int.natAbs_zero,kE];rfl
  rw [Zab c,zC,zF];have hd:dg 18446744073709551616 z.natAbs=[z.natAbs]:=zix (by omega) (by omega);rw [zA,uj.nS,sFx,H1.load (k:=0) (i:=0+0) rfl rfl,uf,sFx,H1.load (k:=0) (i:=0+0) rfl rfl];refine zej (by omega) _ _ _ _ ?_;rintro _ rfl _;simp only [uf,zG,sFx,H1.load (k:=0) (i:=0+0) rfl rfl];refine H1.wz (l:=[U z.natAbs]) rfl fun tb h2 nx2 H2 => ?_;simp only [uf,zG,sFx,H2.load (k:=1) (i:=0+0) rfl rfl];simp only [zK,uC,zR];rw [uj.ret];refine hK _ _ _ _ _ H2 (j7 (yB rfl) (H2.zqp (k:=0) (cap:=some 1) (n:=1) (e:=1) rfl (Zaf _) rfl (fun v hv=>by rw [List.mem_singleton.1 hv];rfl))) ?_;rw [hd];rfl
 ·have hl:1<=(dg 18446744073709551616 z.natAbs).length:=zb6 (by omega);rw [zA,zL,zA,uj.ji,sFx,H1.load (k:=0) (i:=0+1) rfl rfl,qag hl,zB,uj.v4,zE,zA,uj.qh,sFx,H1.load (k:=0) (i:=0+0) rfl rfl,uf,sFx,H1.load (k:=0) (i:=0+1) rfl rfl];simp only [zK,uC,zR];rw [uj.ret];refine hK _ _ _ _ _ H1 (j7 (yB rfl) (yB (gX _))) ?_;rcases hs with ⟨a,rfl⟩ | ⟨a,rfl⟩
  ·rw [Zac (by omega),Zac a]
  ·rw [Zab (by omega),Zab (by omega)]
theorem xQ {b:Bool} {m:Nat}:Pure Tryz.prog B 268 [.bool b,um (dg 18446744073709551616 m)] (fun v=>bY v (if b then -(m:Int) else m)):=by
 refine yC fun h nx K H0 hK=>zQ zW yX 100 fun hf => ?_;have ret:∀ {h1 nx1 p l s w},Hp h h1 nx1 [.arr p l]->l.length=2->fK s w (if b then -(m:Int) else m)->∀ {x0 x1 x3 x4 x5 x6:AV},(zO 2 (.ptr p 0) (.agg [s,w]) h1 nx1 fun v2 h3 n4=>yu yt.res K (yt.fr x0 x1 (.ptr p 0) x3 x4 x5 x6) h3 n4)=.ok True:=fun H hl hc=>by
  refine H.jb (l2:=[_,_]) (k:=0) rfl hl rfl fun h4 H4 => ?_;rw [yt.ret,H4.zx (k:=0) (n:=2) rfl rfl];exact hK _ _ _ _ _ H4 (rU hc.fix) ⟨_,_,rfl,hc⟩
 rw [yt.go,yt.t25,zA,yt.jk];refine H0.alloc fun p h1 nx1 H1 => ?_;rw [zA,zL,zA,yt.ji,fU,dm,zB,yt.v3];by_cases c0:m=0
 ·subst c0;rw [Zac (by rw [kE];rfl),zE,zA,yt.qh,zvt];simp only [zK,uC,zR];exact ret H1 rfl (.inl ⟨by cases b <;> rfl,rfl,by cases b <;> simp,by cases b <;> simp⟩)
 have hl:=zb6 c0;rw [Zab (by omega),zC,zA,yt.ny,yt.r3_0,yt.zyk,fU,dm];by_cases c1:(dg 18446744073709551616 m).length=1
 ·obtain ⟨_,hmW,hd1⟩:=zvs c1;rw [hd1];rw [Zac (by simp)];simp only [yT];rw [uIx (l:=[m]) (j:=0) (i:=0) rfl (by simp),uLd (x:=m) rfl,show (AV.int .u64 9223372036854775807)=U 9223372036854775807 from rfl,uLeq,yt.r3_1,yt.zol,zV];by_cases c2:m<=9223372036854775807
  ·rw [Zac c2];simp only [yT,zV];rw [zB,yt.v4];cases b with
   | true =>
    rw [zE,zA,yt.bV,uIx (l:=[m]) (j:=0) (i:=0) rfl (by simp),uLd (x:=m) rfl,mP (by omega),uNeg (by omega),kC];simp only [zK,uC,zR];exact ret H1 rfl (.inl ⟨by rw [if_pos rfl],rfl,by rw [if_pos rfl];omega,by rw [if_pos rfl];omega⟩)
   | false =>
    rw [zC,zA,yt.rD,yt.r5_0,yt.zah,fU,dm,Zac (by simp)];simp only [yT];rw [uIx (l:=[m]) (j:=0) (i:=0) rfl (by simp),uLd (x:=m) rfl,show (AV.int .u64 9223372036854775807)=U 9223372036854775807 from rfl,uLeq,yt.r5_1,yt.zai,zV,Zac c2,zB,yt.v5,zE,zA,yt.sD,uIx (l:=[m]) (j:=0) (i:=0) rfl (by simp),uLd (x:=m) rfl,mP (by omega),kC];simp only [zK,uC,zR];exact ret H1 rfl (.inl ⟨rfl,rfl,by show (-9223372036854775808:Int)<=(m:Int);omega,by show (m:Int)<=9223372036854775807;omega⟩)
  ·rw [Zab c2];simp only [yM,zT];rw [zB,yt.v4,zC,zA,yt.rD,yt.r5_0,yt.zah,fU,dm];rw [Zac (by simp)];simp only [yT];rw [uIx (l:=[m]) (j:=0) (i:=0) rfl (by simp),uLd (x:=m) rfl,show (AV.int .u64 9223372036854775807)=U 9223372036854775807 from rfl,uLeq,yt.r5_1,yt.zai,zV,Zab c2];rw [zB,yt.v5,zC,zA,yt.nR,zB,yt.v6];cases b with
   | true =>
    rw [zE,zA,yt.fM,bH];simp only [zK,uC,zR];exact ret H1 rfl (.inr ⟨-1,rfl,by rw [if_pos rfl,Zdb];exact congrArg um hd1.symm,.inl ⟨by rw [if_pos rfl];omega,rfl⟩,by rw [if_pos rfl];omega⟩)
   | false =>
    rw [zC,zF,zA,yt.oP,bH];simp only [zK,uC,zR];exact ret H1 rfl (.inr ⟨1,rfl,congrArg um hd1.symm,.inr ⟨by show (0:Int)<(m:Int);omega,rfl⟩,by show 9223372036854775808<=(m:Int).natAbs;omega⟩)
 ·rw [Zab (by omega)];simp only [yM];rw [yt.r3_1,yt.zol];simp only [zT,yM];have hmb:9223372036854775808<=m:=by
   rcases Zdr m 18446744073709551616 with q | q
   ·exact absurd (by rw [zix c0 q];rfl) c1
   ·omega
  rw [zB,yt.v4,zC,zA,yt.rD,yt.r5_0,yt.zah,fU,dm];rw [Zab (by omega)];simp only [yM];rw [yt.r5_1,yt.zai];simp only [zT];rw [zB,yt.v5,zC,zA,yt.nR,zB,yt.v6];cases b with
  | true =>
   rw [zE,zA,yt.fM,bH];simp only [zK,uC,zR];exact ret H1 rfl (.inr ⟨-1,rfl,by rw [if_pos rfl,Zdb];rfl,.inl ⟨by rw [if_pos rfl];omega,rfl⟩,by rw [if_pos rfl];omega⟩)
  | false =>
   rw [zC,zF,zA,yt.oP,bH];simp only [zK,uC,zR];exact ret H1 rfl (.inr ⟨1,rfl,rfl,.inr ⟨by show (0:Int)<(m:Int);omega,rfl⟩,by show 9223372036854775808<=(m:Int).natAbs;omega⟩)
theorem of85 {z:Int} (h : -9223372036854775808<=z/\z<=9223372036854775807):Pure Tryz.prog B 190 [I z] (fun v=>bY v z):=by
 refine yC fun hh nx K H0 hK=>zQ zW yX 100 fun hf => ?_;rw [cu.go,cu.t3,zA,cu.jk];refine H0.alloc fun p h1 nx1 H1 => ?_;rw [zA,cu.ji,kC];refine H1.jb (l2:=[I z,.zn]) (k:=0) rfl rfl rfl fun h4 H4 => ?_;simp only [zK,zR];rw [cu.ret,H4.zx (k:=0) (n:=2) rfl rfl];exact hK _ _ _ _ _ H4 (yZ h).frz (yZ h)
def tu (z:Int):Int:=if z<0 then -1 else if 0<z then 1 else 0
theorem qef {z:Int} {K:AV->OP}:sMin false (I 1) [I z] K=K (I (if z<1 then z else 1)):=by
 have e:sMin false (I 1) [I z] K=K (I (bif ilt z 1 then z else 1)):=nr rfl;rw [e,xR];by_cases c:z<1
 ·rw [if_pos c,Zac c];rfl
 ·rw [if_neg c,Zab c];rfl
theorem qeg {z:Int} {K:AV->OP}:sMin true (I (-1)) [I z] K=K (I (if -1<z then z else -1)):=by
 have e:sMin true (I (-1)) [I z] K=K (I (bif ilt (-1) z then z else -1)):=nr rfl;rw [e,xR];by_cases c : -1<z
 ·rw [if_pos c,Zac c];rfl
 ·rw [if_neg c,Zab c];rfl
theorem vU {v:AV} {z:Int} (hv:bY v z):Pure Tryz.prog B 194 [v] (· = I (tu z)):=by
 obtain ⟨s,w,rfl,hv⟩:=hv;refine yC fun h nx K H0 hK=>zQ zW yX 100 fun hf => ?_;rw [cO.go,cO.t3,zA,cO.jk];refine H0.box (l:=[s,w]) rfl fun pa h1 nx1 H1 => ?_;obtain ⟨n,rfl,hn⟩:∃ n,s=I n/\(if -1<(if n<1 then n else 1) then (if n<1 then n else 1) else -1)=tu z:=by
  unfold tu;rcases hv with ⟨rfl,_,_⟩ | ⟨n,rfl,_,⟨a,rfl⟩ | ⟨a,rfl⟩,_⟩
  ·refine ⟨_,rfl,?_⟩
   (repeat' split) <;> omega
  ·exact ⟨_,rfl,by rw [if_pos a];rfl⟩
  ·have a':¬ z<0:=by omega
   exact ⟨_,rfl,by rw [if_neg a',if_pos a];rfl⟩
 rw [zA,cO.ji,sFx,H1.load (k:=0) (i:=0+0) rfl rfl,qef,qeg,hn];simp only [zK,zR];rw [cO.ret];exact hK _ _ _ _ _ H1 (yB rfl) rfl
theorem pB {v:AV} {z:Int} (hv:bY v z):Pure Tryz.prog B 266 [v] (fun v=>bY v (-z)):=by
 have hv0:=hv;obtain ⟨s,w,rfl,hv⟩:=hv;refine yC fun h nx K H0 hK=>zQ zW yX 100 fun hf => ?_;rw [uw.go,uw.t11,zA,uw.jk];refine H0.box (l:=[s,w]) rfl fun pa h1 nx1 H1 => ?_;refine H1.alloc fun p h2 nx2 H2 => ?_;rw [zA,zA,uw.ji,sFx,H2.load (k:=1) (i:=0+1) (v:=w) rfl rfl];have words:∀ {x3 x4 x5:AV},IR.run uw.t9 (CS Tryz.prog B) 100 (fnO uw.res K) (yu uw.res K) (uw.fr (.agg [s,w]) (.ptr pa 0) (.ptr p 0) x3 x4 x5) h2 nx2=.ok True:=by
  intro x3 x4 x5;rw [uw.t9,zA,uw.bf,H2.zx (k:=1) (n:=2) rfl rfl];refine qP hv0 _ _ _ _ ?_;rintro _ rfl _;rw [yJ,yH,zA,uw.rD,jC];refine xQ _ _ _ _ ?_;rintro _ ⟨s',w',rfl,hc⟩ _;refine H2.jb (l2:=[s',w']) (k:=0) rfl rfl rfl fun h4 H4 => ?_;simp only [zK,zR];rw [uw.ret,H4.zx (k:=0) (n:=2) rfl rfl];have e:(if (!decide (z<0))=true then -(z.natAbs:Int) else z.natAbs) = -z:=by
   by_cases c:z<0
   ·rw [Zac c,if_neg (by decide)];omega
   ·rw [Zab c,if_pos (by decide)];omega
  rw [e] at hc;exact hK _ _ _ _ _ H4 (rU hc.fix) ⟨_,_,rfl,hc⟩
 rcases hv with ⟨rfl,rfl,h1,h2⟩ | ⟨s,rfl,rfl,hs,hb⟩
 ·rw [zel];simp only [yT];rw [sFx,H2.load (k:=1) (i:=0+0) rfl rfl,di,zV,zB,uw.v5];by_cases c:z = -9223372036854775808
  ·rw [Zac c,Zaj,zC,zF];exact words
  ·rw [Zab c,Zak,zE,zA,uw.qh,sFx,H2.load (k:=1) (i:=0+0) rfl rfl,uNeg (by omega),kC];refine H2.jb (l2:=[I (-z),.zn]) (k:=0) rfl rfl rfl fun h4 H4 => ?_;simp only [zK,zR];rw [uw.ret,H4.zx (k:=0) (n:=2) rfl rfl];exact hK _ _ _ _ _ H4 (yZ (by omega)).frz (yZ (by omega))
 ·rw [ziy (zb6 (by omega))];simp only [yM,zT];rw [zB,uw.v5,zC,zF];exact words
theorem fK.two {s w:AV} {z:Int} (h:fK s w z):(s=I z/\w=.zn /\ -9223372036854775808<=z/\z<=9223372036854775807/\∀ K:AV->OP,zh .eql (.nil .sl) w .zn K=K (.bool true))\/(z≠0/\∀ K:AV->OP,zh .eql (.nil .sl) w .zn K=K (.bool false)):=by
 rcases h with ⟨rfl,rfl,h1,h2⟩ | ⟨n,rfl,rfl,hs,hb⟩
 ·exact .inl ⟨rfl,rfl,h1,h2,fun _=>zel⟩
 ·exact .inr ⟨by omega,fun _=>ziy (zb6 (by omega))⟩
theorem zvu {x y:Nat} (h:y<=x):(dg 18446744073709551616 y).length<=(dg 18446744073709551616 x).length:=by
 rcases Zdr (dg 18446744073709551616 x).length (dg 18446744073709551616 y).length with q | q
 ·have:=wG (b:=18446744073709551616) (by decide) q;omega
 ·exact q
theorem zko {x y:Nat} (hx:(dg 18446744073709551616 x).length<=100000) (h:y<=x) (h0:x≠0):Pure Tryz.prog B 271 [um (dg 18446744073709551616 x),um (dg 18446744073709551616 y)] (· = um (dg 18446744073709551616 (x-y))):=by
 have ox:=kF (b:=18446744073709551616) (by decide) x;have oy:=kF (b:=18446744073709551616) (by decide) y;have:=zz8 (B:=B) ox.2.1 oy.2.1 (zb6 h0) hx (zvu h) (by rw [ox.1,oy.1];exact h)
 rwa [ox.1,oy.1] at this
theorem zvv {x y:Nat} (hx:(dg 18446744073709551616 x).length<=100000) (hy:(dg 18446744073709551616 y).length<=100000):Pure Tryz.prog B 269 [um (dg 18446744073709551616 x),um (dg 18446744073709551616 y)] (· = um (dg 18446744073709551616 (x+y))):=by
 have ox:=kF (b:=18446744073709551616) (by decide) x;have oy:=kF (b:=18446744073709551616) (by decide) y;have:=zz7 (B:=B) ox.2.1 oy.2.1 hx hy
 rwa [ox.1,oy.1] at this
theorem zvw {x y:Nat} (hx:(dg 18446744073709551616 x).length<=100000) (hy:(dg 18446744073709551616 y).length<=100000) (h:x≠0\/y≠0):Pure Tryz.prog B 276 [um (dg 18446744073709551616 x),um (dg 18446744073709551616 y)] (· = um (dg 18446744073709551616 (x*y))):=by
 have ox:=kF (b:=18446744073709551616) (by decide) x;have oy:=kF (b:=18446744073709551616) (by decide) y
 have:=zz9 (B:=B) ox.2.1 oy.2.1 (by
  rcases h with h | h
  ·have:=zb6 h;omega
  ·have:=zb6 h;omega) hx hy
 rwa [ox.1,oy.1] at this
theorem zsg {a b:Int} {K:AV->OP}:zh .add .int (I a) (I b) K=K (I (IntKind.wrap .i64 (a+b))):=zxe
theorem zm1 {a b:Int} (ha : -9223372036854775808<=a/\a<=9223372036854775807) (hb : -9223372036854775808<=b/\b<=9223372036854775807) :
  (decide (a<IntKind.wrap .i64 (a+b))==decide (0<b))=true↔(-9223372036854775808<=a+b/\a+b<=9223372036854775807):=by
 have e:∀ z:Int,IntKind.wrap .i64 z=(z+9223372036854775808)%18446744073709551616-9223372036854775808:=by
  intro z;rw [IntKind.wrap_i64] <;> omega
 rw [e];by_cases c:0<b
 ·rw [Zac c];by_cases d:a+b<=9223372036854775807
  ·rw [Zac (by omega)];simp;omega
  ·rw [Zab (by omega)];simp;omega
 ·rw [Zab c];by_cases d : -9223372036854775808<=a+b
  ·rw [Zab (by omega)];simp;omega
  ·rw [Zac (by omega)];simp;omega
theorem zkp {va vb:AV} {a b:Int} {k:Nat} (hva:bY va a) (hvb:bY vb b) (hk:k<=90000) (hza:Zs k a) (hzb:Zs k b):Pure Tryz.prog B 191 [va,vb] (fun v=>bY v (a+b)):=by
 have sO:=hva;have rH:=hvb;obtain ⟨s,w,rfl,hva⟩:=hva;obtain ⟨s',w',rfl,hvb⟩:=hvb;have la:=hza.len;have lb:=hzb.len;refine yC fun h nx K H0 hK=>zQ zW yX 100 fun hf => ?_;rw [ja.go,ja.t30,zA,ja.jk];refine H0.box (l:=[s,w]) rfl fun pa h1 nx1 H1 => ?_;refine H1.box (l:=[s',w']) rfl fun pb h2 nx2 H2 => ?_;refine H2.alloc fun p h3 nx3 H3 => ?_;have ret:∀ {h4 nx4 v z} {x0 x1 x2 x3 x5 x6 x7 x8 x9 x10 x11 x12 x13:AV},Hp h h4 nx4 [.arr p [I 0,.zn],.arr pb [s',w'],.arr pa [s,w]]->bY v z->z=a+b->(zO 2 (.ptr p 0) v h4 nx4 fun v2 h3 n4=>yu ja.res K (ja.fr x0 x1 x2 x3 (.ptr p 0) x5 x6 x7 x8 x9 x10 x11 x12 x13) h3 n4)=.ok True:=fun H hc e=>by
  obtain ⟨s2,w2,rfl,hc⟩:=hc;refine H.jb (l2:=[s2,w2]) (k:=0) rfl rfl rfl fun h4 H4 => ?_;rw [ja.ret,H4.zx (k:=0) (n:=2) rfl rfl];exact hK _ _ _ _ _ H4 (rU hc.fix) ⟨_,_,rfl,e ▸ hc⟩
 have words:∀ {x5 x6 x7 x8 x9 x10 x11 x12 x13:AV},IR.run ja.t28 (CS Tryz.prog B) 100 (fnO ja.res K) (yu ja.res K) (ja.fr (.agg [s,w]) (.agg [s',w']) (.ptr pa 0) (.ptr pb 0) (.ptr p 0) x5 x6 x7 x8 x9 x10 x11 x12 x13) h3 nx3=.ok True:=by
  intro x5 x6 x7 x8 x9 x10 x11 x12 x13;rw [ja.t28,zA,ja.fM,H3.zx (k:=2) (n:=2) rfl rfl];refine qP sO _ _ _ _ ?_;rintro _ rfl _;rw [yJ,yH,zA,ja.nS,H3.zx (k:=1) (n:=2) rfl rfl];refine qP rH _ _ _ _ ?_;rintro _ rfl _;rw [yJ,yH,zA,zL,zA,ja.ng,bEql,zB,ja.v12];by_cases c:(decide (a<0)==decide (b<0))=true
  ·rw [c,zE,zA,ja.rq];refine zvv (by omega) (by omega) _ _ _ _ ?_;rintro _ rfl _;refine xQ _ _ _ _ ?_;intro v hv _;simp only [zK,uC,zR];refine ret H3 hv ?_;by_cases d:a<0
   ·rw [Zac d] at c ⊢;have:b<0:=by simpa using c
    rw [if_pos rfl];omega
   ·rw [Zab d] at c ⊢;have:¬ b<0:=by simpa using c
    rw [if_neg (by decide)];omega
  have c':(decide (a<0)==decide (b<0))=false:=by simpa using c
  rw [c',zC,zA,ja.nZ];refine zr9 (by unfold Sz;omega) (by unfold Sz;omega) _ _ _ _ ?_;rintro _ rfl _;rw [bT,zB,ja.v13];have hdiff:(a<0/\0<=b)\/(0<=a/\b<0):=by
   by_cases d:a<0 <;> by_cases e:b<0 <;> simp [d,e] at c' <;> omega
  by_cases d:b.natAbs<=a.natAbs
  ·rw [Zac (by unfold cmpN;rw [if_neg (by omega)];split <;> decide),zE,zA,ja.rV];refine zko (by omega) d (by omega) _ _ _ _ ?_;rintro _ rfl _;refine xQ _ _ _ _ ?_;intro v hv _;simp only [zK,uC,zR];refine ret H3 hv ?_;rcases hdiff with ⟨e,f⟩ | ⟨e,f⟩
   ·rw [Zac e,if_pos rfl];omega
   ·rw [Zab (by omega),if_neg (by decide)];omega
  ·rw [Zab (by unfold cmpN;rw [if_pos (by omega)];decide),zC,zF,zA,ja.eH];refine zko (by omega) (by omega) (by omega) _ _ _ _ ?_;rintro _ rfl _;refine xQ _ _ _ _ ?_;intro v hv _;simp only [zK,uC,zR];refine ret H3 hv ?_;rcases hdiff with ⟨e,f⟩ | ⟨e,f⟩
   ·rw [Zab (by omega),if_neg (by decide)];omega
   ·rw [Zac f,if_pos rfl];omega
 rw [zA,zA,ja.ji,sFx,H3.load (k:=2) (i:=0+1) (v:=w) rfl rfl];rcases hva.two with ⟨rfl,rfl,a1,a2,e1⟩ | ⟨_,e1⟩
 case inr =>
  rw [e1];simp only [yM,zT];rw [zB,ja.v10,zC,zF];exact words
 rw [e1];simp only [yT];rw [sFx,H3.load (k:=1) (i:=0+1) (v:=w') rfl rfl];rcases hvb.two with ⟨rfl,rfl,b1,b2,e2⟩ | ⟨_,e2⟩
 case inr =>
  rw [e2,zV,zB,ja.v10,zC,zF];exact words
 rw [e2,zV,zB,ja.v10,zE,zA,ja.qh,sFx,H3.load (k:=2) (i:=0+0) rfl rfl,sFx,H3.load (k:=1) (i:=0+0) rfl rfl,zsg,zA,ja.nU,sFx,H3.load (k:=2) (i:=0+0) rfl rfl,fJ,sFx,H3.load (k:=1) (i:=0+0) rfl rfl,fJ,bEql,zB,ja.v11];have hw:=zm1 ⟨a1,a2⟩ ⟨b1,b2⟩;by_cases c:(decide (a<IntKind.wrap .i64 (a+b))==decide (0<b))=true
 ·rw [c,zE,zA,ja.ny,qE (hw.1 c),kC];simp only [zK,zR];exact ret H3 (yZ (hw.1 c)) rfl
 ·rw [show (decide (a<IntKind.wrap .i64 (a+b))==decide (0<b))=false by simpa using c,zC,zF];exact words
theorem zsh {va vb:AV} {a b:Int} {k:Nat} (hva:bY va a) (hvb:bY vb b) (hk:k<=90000) (hza:Zs k a) (hzb:Zs k b):Pure Tryz.prog B 278 [va,vb] (fun v=>bY v (a-b)):=by
 have sO:=hva;have rH:=hvb;obtain ⟨s,w,rfl,hva⟩:=hva;obtain ⟨s',w',rfl,hvb⟩:=hvb;refine yC fun h nx K H0 hK=>zQ zW yX 100 fun hf => ?_;rw [cZ.go,cZ.t3,zA,cZ.jk];refine H0.box (l:=[s,w]) rfl fun pa h1 nx1 H1 => ?_;refine H1.box (l:=[s',w']) rfl fun pb h2 nx2 H2 => ?_;refine H2.alloc fun p h3 nx3 H3 => ?_;rw [zA,cZ.ji,H3.zx (k:=2) (n:=2) rfl rfl,H3.zx (k:=1) (n:=2) rfl rfl];refine pB rH _ _ _ _ ?_;intro vn hvn _;rw [H3.zx (k:=2) (n:=2) rfl rfl,zG];refine zkp sO hvn hk hza (by unfold Zs at hzb ⊢;rwa [Zdb]) _ _ _ _ ?_;rintro _ ⟨s2,w2,rfl,hc⟩ _;refine H3.jb (l2:=[s2,w2]) (k:=0) rfl rfl rfl fun h4 H4 => ?_;simp only [zK,zR];rw [cZ.ret,H4.zx (k:=0) (n:=2) rfl rfl];exact hK _ _ _ _ _ H4 (rU hc.fix) ⟨_,_,rfl,hc⟩
theorem qah {va vb:AV} {a b:Int} {k:Nat} (hva:bY va a) (hvb:bY vb b) (hk:k<=90000) (hza:Zs k a) (hzb:Zs k b):Pure Tryz.prog B 259 [va,vb] (· = I (tu (a-b))):=by
 have sO:=hva;have rH:=hvb;obtain ⟨s,w,rfl,hva⟩:=hva;obtain ⟨s',w',rfl,hvb⟩:=hvb;refine yC fun h nx K H0 hK=>zQ zW yX 100 fun hf => ?_;rw [jl.go,jl.t21,zA,jl.jk];refine H0.box (l:=[s,w]) rfl fun pa h1 nx1 H1 => ?_;refine H1.box (l:=[s',w']) rfl fun pb h2 nx2 H2 => ?_;have words:∀ {x4 x5 x6 x7:AV},IR.run jl.t19 (CS Tryz.prog B) 100 (fnO jl.res K) (yu jl.res K) (jl.fr (.agg [s,w]) (.agg [s',w']) (.ptr pa 0) (.ptr pb 0) x4 x5 x6 x7) h2 nx2=.ok True:=by
  intro x4 x5 x6 x7;rw [jl.t19,zA,jl.ah,H2.zx (k:=1) (n:=2) rfl rfl,H2.zx (k:=0) (n:=2) rfl rfl];refine zsh sO rH hk hza hzb _ _ _ _ ?_;intro vd hvd _;refine vU hvd _ _ _ _ ?_;rintro _ rfl _;simp only [zK,zR];rw [jl.ret];exact hK _ _ _ _ _ H2 (yB rfl) rfl
 rw [zA,zA,jl.ji,sFx,H2.load (k:=1) (i:=0+1) (v:=w) rfl rfl];rcases hva.two with ⟨rfl,rfl,a1,a2,e1⟩ | ⟨_,e1⟩
 case inr =>
  rw [e1];simp only [yM,zT];rw [zB,jl.v5,zC,zF];exact words
 rw [e1];simp only [yT];rw [sFx,H2.load (k:=0) (i:=0+1) (v:=w') rfl rfl];rcases hvb.two with ⟨rfl,rfl,b1,b2,e2⟩ | ⟨_,e2⟩
 case inr =>
  rw [e2,zV,zB,jl.v5,zC,zF];exact words
 rw [e2,zV,zB,jl.v5,zE,zA,zL,zA,jl.qh,sFx,H2.load (k:=1) (i:=0+0) rfl rfl,sFx,H2.load (k:=0) (i:=0+0) rfl rfl,uf,zB,jl.v6];have fin:∀ {z:Int},z=tu (a-b)->K (I z) h2 nx2=.ok True:=fun e=>hK _ _ _ _ _ H2 (yB rfl) (by rw [e]);by_cases c:a<b
 ·rw [Zac c,zE,zA,jl.nU];simp only [zK,uC,zR];rw [jl.ret];exact fin (by unfold tu;rw [if_pos (by omega)])
 rw [Zab c,zC,zA,jl.bV,sFx,H2.load (k:=1) (i:=0+0) rfl rfl,sFx,H2.load (k:=0) (i:=0+0) rfl rfl,fJ,zB,jl.v7];by_cases d:b<a
 ·rw [Zac d,zE,zA,jl.bf];simp only [zK,uC,zR];rw [jl.ret];exact fin (by unfold tu;rw [if_neg (by omega),if_pos (by omega)])
 ·rw [Zab d,zC,zF,zA,jl.ng];simp only [zK,zR];rw [jl.ret];exact fin (by unfold tu;rw [if_neg (by omega),if_neg (by omega)])
theorem pC {va vb:AV} {a b:Int} {k:Nat} (hva:bY va a) (hvb:bY vb b) (hk:k<=90000) (hza:Zs k a) (hzb:Zs k b):Pure Tryz.prog B 193 [va,vb] (fun v=>bY v (a*b)):=by
 have sO:=hva;have rH:=hvb;obtain ⟨s,w,rfl,hva⟩:=hva;obtain ⟨s',w',rfl,hvb⟩:=hvb;have la:=hza.len;have lb:=hzb.len;refine yC fun h nx K H0 hK=>zQ zW yX 100 fun hf => ?_;rw [je.go,je.t24,zA,je.jk];refine H0.box (l:=[s,w]) rfl fun pa h1 nx1 H1 => ?_;refine H1.box (l:=[s',w']) rfl fun pb h2 nx2 H2 => ?_;refine H2.alloc fun p h3 nx3 H3 => ?_;have ret:∀ {h4 nx4 v z} {x0 x1 x2 x3 x5 x6 x7 x8 x9 x10 x11 x12 x13:AV},Hp h h4 nx4 [.arr p [I 0,.zn],.arr pb [s',w'],.arr pa [s,w]]->bY v z->z=a*b->(zO 2 (.ptr p 0) v h4 nx4 fun v2 h3 n4=>yu je.res K (je.fr x0 x1 x2 x3 (.ptr p 0) x5 x6 x7 x8 x9 x10 x11 x12 x13) h3 n4)=.ok True:=fun H hc e=>by
  obtain ⟨s2,w2,rfl,hc⟩:=hc;refine H.jb (l2:=[s2,w2]) (k:=0) rfl rfl rfl fun h4 H4 => ?_;rw [je.ret,H4.zx (k:=0) (n:=2) rfl rfl];exact hK _ _ _ _ _ H4 (rU hc.fix) ⟨_,_,rfl,e ▸ hc⟩
 have hsgn:(if (decide (a<0) != decide (b<0))=true then -((a.natAbs*b.natAbs:Nat):Int) else ((a.natAbs*b.natAbs:Nat):Int))=a*b:=by
  rw [<- Zem];by_cases c1:a<0 <;> by_cases c2:b<0
  ·rw [Zac c1,Zac c2,if_neg (by decide)];have:=Int.mul_nonneg_of_nonpos_of_nonpos (show a<=0 by omega) (show b<=0 by omega);omega
  ·rw [Zac c1,Zab c2,if_pos (by decide)];have:=Int.mul_nonpos_of_nonpos_of_nonneg (show a<=0 by omega) (show 0<=b by omega);omega
  ·rw [Zab c1,Zac c2,if_pos (by decide)];have:=Int.mul_nonpos_of_nonneg_of_nonpos (show 0<=a by omega) (show b<=0 by omega);omega
  ·rw [Zab c1,Zab c2,if_neg (by decide)];have:=Int.mul_nonneg (show 0<=a by omega) (show 0<=b by omega);omega
 have words:(a≠0\/b≠0)->∀ {x5 x6 x7 x8 x9 x10 x11 x12 x13:AV},IR.run je.t22 (CS Tryz.prog B) 100 (fnO je.res K) (yu je.res K) (je.fr (.agg [s,w]) (.agg [s',w']) (.ptr pa 0) (.ptr pb 0) (.ptr p 0) x5 x6 x7 x8 x9 x10 x11 x12 x13) h3 nx3=.ok True:=by
  intro hne x5 x6 x7 x8 x9 x10 x11 x12 x13;rw [je.t22,zA,je.rV,H3.zx (k:=2) (n:=2) rfl rfl];refine qP sO _ _ _ _ ?_;rintro _ rfl _;rw [yJ,yH,zA,je.ah,H3.zx (k:=1) (n:=2) rfl rfl];refine qP rH _ _ _ _ ?_;rintro _ rfl _;rw [yJ,yH,zA,je.sV,bNeq];refine zvw (by omega) (by omega) (by omega) _ _ _ _ ?_;rintro _ rfl _;refine xQ _ _ _ _ ?_;intro v hv _;simp only [zK,zR];exact ret H3 hv hsgn
 rw [zA,zA,je.ji,sFx,H3.load (k:=2) (i:=0+1) (v:=w) rfl rfl];rcases hva.two with ⟨rfl,rfl,a1,a2,e1⟩ | ⟨hz,e1⟩
 case inr =>
  rw [e1];simp only [yM,zT];rw [zB,je.v11,zC,zF];exact words (.inl hz)
 rw [e1];simp only [yT];rw [sFx,H3.load (k:=1) (i:=0+1) (v:=w') rfl rfl];rcases hvb.two with ⟨rfl,rfl,b1,b2,e2⟩ | ⟨hz,e2⟩
 case inr =>
  rw [e2,zV,zB,je.v11,zC,zF];exact words (.inr hz)
 rw [e2,zV,zB,je.v11,zE,zA,je.qh,sFx,H3.load (k:=2) (i:=0+0) rfl rfl,sFx,H3.load (k:=1) (i:=0+0) rfl rfl];refine zej ⟨a1,a2⟩ _ _ _ _ ?_;rintro _ rfl _;rw [H3.load (k:=1) (i:=0+0) rfl rfl,zG,sFx,zG];refine zej ⟨b1,b2⟩ _ _ _ _ ?_;rintro _ rfl _;refine zei (by omega) (by omega) _ _ _ _ ?_;rintro _ rfl _;rw [yJ,yH,zA,je.nU,zc8];by_cases c1:a.natAbs*b.natAbs / 18446744073709551616=0
 case neg =>
  rw [Zab c1];simp only [yM,zT];rw [zB,je.v12,zC,zF];refine words ?_;rcases Zce a.natAbs with q | q
  ·rw [q] at c1;simp at c1
  ·omega
 rw [Zac c1];simp only [yT];have hlt:a.natAbs*b.natAbs<18446744073709551616:=by
  rcases Nat.div_eq_zero_iff.1 c1 with q | q
  ·omega
  ·exact q
 rw [Zap hlt,show (AV.int .u64 9223372036854775807)=U 9223372036854775807 from rfl,uLeq,zV,zB,je.v12];by_cases c2:a.natAbs*b.natAbs<=9223372036854775807
 case neg =>
  rw [Zab c2,zC,zF];refine words ?_;rcases Zce a.natAbs with q | q
  ·rw [q] at c2;simp at c2
  ·omega
 rw [Zac c2,zE,zA,zA,je.ny,sFx,H3.load (k:=2) (i:=0+0) rfl rfl,uf,sFx,H3.load (k:=1) (i:=0+0) rfl rfl,uf,bNeq,zB,je.v13];by_cases c:(decide (a<0) != decide (b<0))=true
 ·rw [if_pos c] at hsgn;rw [c,zE,zA,je.bV,mP (by omega),uNeg (by omega),kC];simp only [zK,zR];exact ret H3 (yZ (by omega)) hsgn
 ·rw [if_neg c] at hsgn;rw [show (decide (a<0) != decide (b<0))=false by simpa using c,zC,zF,zA,je.ax,mP (by omega),kC];simp only [zK,zR];exact ret H3 (yZ (by omega)) hsgn
theorem zx4 {a b:Int} {K:AV->OP} (ha : -9223372036854775808<=a/\a<=9223372036854775807) (hb:1<=b):zh .quo .int (I a) (I b) K=K (I (a.tdiv b)):=by
 have e:zh .quo .int (I a) (I b) K=(bif ieq b 0 then Out.no 5 else ql (IntKind.i64.wrap (a.tdiv b)) fun z=>K (.int .i64 z)):=rfl;have h0:ieq b 0=false:=by rw [vG];exact Zab (by omega)
 rw [e,h0,cond_false,gI,Go.IntWalk.i64_quo' a b ⟨ha.1,ha.2,hb⟩]
theorem zkq {a b:Int} {K:AV->OP} (hb:1<=b):zh .rem .int (I a) (I b) K=K (I (a.tmod b)):=by
 have e:zh .rem .int (I a) (I b) K=(bif ieq b 0 then Out.no 5 else ql (a.tmod b) fun z=>K (.int .i64 z)):=rfl;have h0:ieq b 0=false:=by rw [vG];exact Zab (by omega)
 rw [e,h0,cond_false,gI]
theorem mC {a b q r:Int} (hb:0<b) (h:a=q*b+r) (h0:0<=r) (h1:r<b):a / b=q/\a%b=r:=by
 subst h;refine ⟨?_,?_⟩
 ·rw [Int.add_comm,Int.add_mul_ediv_right _ _ (by omega),Int.ediv_eq_zero_of_lt h0 h1,Int.zero_add]
 ·rw [Int.add_comm,Int.add_mul_emod_self_right,Int.emod_eq_of_lt h0 h1]
theorem ziz {a b:Int} (hb:1<=b):(a.tmod b<0->a / b=a.tdiv b-1/\a%b=a.tmod b+b /\ -b<a.tmod b)/\(0<=a.tmod b->a / b=a.tdiv b/\a%b=a.tmod b):=by
 have e:=Int.mul_tdiv_add_tmod a b;have h1:=Int.tmod_lt_of_pos a (show 0<b by omega);have h2 : -b<a.tmod b:=by
  have:=Int.tmod_lt_of_pos (-a) (show 0<b by omega);rw [Int.neg_tmod] at this;omega
 rw [Int.mul_comm] at e;refine ⟨fun h => ?_,fun h=>mC (by omega) e.symm h h1⟩;obtain ⟨c1,c2⟩:=mC (a:=a) (b:=b) (q:=a.tdiv b-1) (r:=a.tmod b+b) (by omega) (by rw [Int.sub_mul];omega) (by omega) (by omega);exact ⟨c1,c2,h2⟩
theorem zm2 {a b:Int} (hb:1<=b) (ha:a<0):(a.natAbs%b.natAbs=0->a / b = -((a.natAbs / b.natAbs:Nat):Int)/\a%b=0)/\(a.natAbs%b.natAbs≠0->a / b = -((a.natAbs / b.natAbs:Nat):Int)-1/\a%b = -((a.natAbs%b.natAbs:Nat):Int)+b):=by
 have e:=Zdg a.natAbs b.natAbs;have hm:=Zbl a.natAbs (show 0<b.natAbs by omega);have e2:(a.natAbs:Int)=(b.natAbs:Int)*((a.natAbs / b.natAbs:Nat):Int)+((a.natAbs%b.natAbs:Nat):Int):=by
  rw [<- Zcr,<- Int.natCast_add,e]
 have eb:(b.natAbs:Int)=b:=by omega
 rw [eb] at e2
 generalize a.natAbs / b.natAbs=q at *
 generalize a.natAbs%b.natAbs=r at *
 rw [Int.mul_comm] at e2;refine ⟨fun h=>mC (by omega) ?_ (by omega) (by omega),fun h=>mC (by omega) ?_ (by omega) (by omega)⟩
 ·rw [Int.neg_mul];omega
 ·rw [Int.sub_mul,Int.neg_mul];omega
theorem zi0 {a b:Int} (hb:1<=b) (ha:0<=a):a / b=((a.natAbs / b.natAbs:Nat):Int)/\a%b=((a.natAbs%b.natAbs:Nat):Int):=by
 have ea:(a.natAbs:Int)=a:=by omega
 have eb:(b.natAbs:Int)=b:=by omega
 rw [Int.natCast_ediv,Int.natCast_emod,ea,eb];exact ⟨rfl,rfl⟩
theorem m6 {va vb:AV} {a b:Int} {k:Nat} (hva:bY va a) (hvb:bY vb b) (hk:k<=90000) (hza:Zs k a) (hzb:Zs k b) (hb:1<=b):Pure Tryz.prog B 197 [va,vb] (fun v=>∃ v1 v2,v=.tup [v1,v2]/\bY v1 (a / b)/\bY v2 (a%b)):=by
 have sO:=hva;have rH:=hvb;obtain ⟨s,w,rfl,hva⟩:=hva;obtain ⟨s',w',rfl,hvb⟩:=hvb;have la:=hza.len;have lb:=hzb.len;refine yC fun h nx K H0 hK=>zQ zW yX 100 fun hf => ?_;rw [yj.go,yj.t29,zA,yj.jk];refine H0.box (l:=[s,w]) rfl fun pa h1 nx1 H1 => ?_;refine H1.box (l:=[s',w']) rfl fun pb h2 nx2 H2 => ?_;refine H2.alloc fun p h3 nx3 H3 => ?_;refine H3.alloc fun q h4 nx4 H4 => ?_
 have tail:∀ {h5:T Blk} {nx5 p1 q1:Pa} {s1 w1 s2 w2:AV} {x6 x7 x8 x9 x10 x11 x12 x15 x16 x17:AV},Hp h h5 nx5 [.arr q1 [s2,w2],.arr p1 [s1,w1],.arr q [I 0,.zn],.arr p [I 0,.zn],.arr pb [s',w'],.arr pa [s,w]]->fK s1 w1 (a / b)->fK s2 w2 (a%b) ->
   IR.run yj.t22 (CS Tryz.prog B) 100 (fnO yj.res K) (yu yj.res K) (yj.fr (.agg [s,w]) (.agg [s',w']) (.ptr pa 0) (.ptr pb 0) (.ptr p 0) (.ptr q 0) x6 x7 x8 x9 x10 x11 x12 (.ptr p1 0) (.ptr q1 0) x15 x16 x17) h5 nx5=.ok True:=by
  intro h5 nx5 p1 q1 s1 w1 s2 w2 x6 x7 x8 x9 x10 x11 x12 x15 x16 x17 H i1 i2;rw [yj.t22,zA,yj.sU,H.zx (k:=1) (n:=2) rfl rfl,H.zx (k:=0) (n:=2) rfl rfl];refine H.jb (l2:=[s1,w1]) (k:=3) rfl rfl rfl fun h6 H6 => ?_;rw [H6.zx (k:=0) (n:=2) rfl rfl,zG];refine H6.jb (l2:=[s2,w2]) (k:=2) rfl rfl rfl fun h7 H7 => ?_;simp only [zK,zR];rw [yj.ret,H7.zx (k:=3) (n:=2) rfl rfl,H7.zx (k:=2) (n:=2) rfl rfl];exact hK _ _ _ _ _ H7 (j7 (rU i1.fix) (rU i2.fix)) ⟨_,_,rfl,⟨_,_,rfl,i1⟩,⟨_,_,rfl,i2⟩⟩
 have words:∀ {x6 x7 x8 x9 x10 x11 x12 x13 x14 x15 x16 x17:AV},IR.run yj.t27 (CS Tryz.prog B) 100 (fnO yj.res K) (yu yj.res K) (yj.fr (.agg [s,w]) (.agg [s',w']) (.ptr pa 0) (.ptr pb 0) (.ptr p 0) (.ptr q 0) x6 x7 x8 x9 x10 x11 x12 x13 x14 x15 x16 x17) h4 nx4=.ok True:=by
  intro x6 x7 x8 x9 x10 x11 x12 x13 x14 x15 x16 x17;rw [yj.t27,zA,yj.ng,H4.zx (k:=3) (n:=2) rfl rfl];refine qP sO _ _ _ _ ?_;rintro _ rfl _;rw [yJ,yH,zA,yj.rq,H4.zx (k:=2) (n:=2) rfl rfl];refine qP rH _ _ _ _ ?_;rintro _ rfl _;rw [yJ,yH,zA,yj.sF];refine zm0 (by omega) (by unfold Sz;omega) (by unfold Sz;omega) _ _ _ _ ?_;rintro _ rfl _;rw [yJ,yH,zA,yj.nZ];refine xQ _ _ _ _ ?_;rintro v1 hv1 _;refine xQ _ _ _ _ ?_;rintro v2 hv2 _;have hv1':=hv1;have hv2':=hv2;obtain ⟨s1,w1,rfl,i1⟩:=hv1';obtain ⟨s2,w2,rfl,i2⟩:=hv2';refine H4.alloc fun p1 h5 nx5 H5 => ?_;refine H5.alloc fun q1 h6 nx6 H6 => ?_;refine H6.jb (l2:=[s1,w1]) (k:=1) rfl rfl rfl fun h7 H7 => ?_;refine H7.jb (l2:=[s2,w2]) (k:=0) rfl rfl rfl fun h8 H8 => ?_;rw [zA,zA,yj.rV,H8.zx (k:=0) (n:=2) rfl rfl];refine vU hv2 _ _ _ _ ?_;rintro _ rfl _;rw [uf,zB,yj.v17];by_cases ca:a<0
  ·rw [Zac ca,if_pos rfl] at hv1 hv2 i1 i2 ⊢;obtain ⟨n1,n2⟩:=zm2 hb ca;by_cases cr:a.natAbs%b.natAbs=0
   ·obtain ⟨e1,e2⟩:=n1 cr;rw [cr] at i2 ⊢;rw [Zab (by unfold tu;simp),zC,zF];exact tail H8 (e1 ▸ i1) (e2 ▸ (by simpa using i2))
   ·obtain ⟨e1,e2⟩:=n2 cr;have k1:Zs k (-((a.natAbs / b.natAbs:Nat):Int)):=by
     have:=Zdd a.natAbs b.natAbs;unfold Zs at hza ⊢;rw [Zdb,Zcm];omega
    have k2:Zs k 1:=by unfold Zs at hzb ⊢;show 1<_;omega
    have k3:Zs k (-((a.natAbs%b.natAbs:Nat):Int)):=by
     have:=Zbl a.natAbs (show 0<b.natAbs by omega);unfold Zs at hzb ⊢;rw [Zdb,Zcm];omega
    rw [Zac (by unfold tu;rw [if_pos (by omega)];decide),zE,yj.ah,H8.zx (k:=1) (n:=2) rfl rfl,H8.zx (k:=0) (n:=2) rfl rfl,H8.zx (k:=4) (n:=2) rfl rfl];refine of85 (by omega) _ _ _ _ ?_;intro vo hvo _;rw [H8.zx (k:=4) (n:=2) rfl rfl,zG,H8.zx (k:=0) (n:=2) rfl rfl,zG,H8.zx (k:=1) (n:=2) rfl rfl,zG];refine zsh hv1 hvo hk k1 k2 _ _ _ _ ?_;rintro _ ⟨s3,w3,rfl,i3⟩ _;rw [H8.zx (k:=4) (n:=2) rfl rfl,zG,H8.zx (k:=0) (n:=2) rfl rfl,zG];refine zkp hv2 rH hk k3 hzb _ _ _ _ ?_;rintro _ ⟨s4,w4,rfl,i4⟩ _;refine H8.jb (l2:=[s3,w3]) (k:=1) rfl rfl rfl fun h9 H9 => ?_;refine H9.jb (l2:=[s4,w4]) (k:=0) rfl rfl rfl fun h10 H10 => ?_;exact tail H10 (e1 ▸ i3) (e2 ▸ i4)
  ·rw [Zab ca,if_neg (by decide)] at hv1 hv2 i1 i2 ⊢;obtain ⟨e1,e2⟩:=zi0 hb (show 0<=a by omega);rw [Zab (by unfold tu;rw [if_neg (by omega)];split <;> decide),zC,zF];exact tail H8 (e1 ▸ i1) (e2 ▸ i2)
 rw [zA,zA,yj.ji,yj.r1_0,yj.zg0,sFx,H4.load (k:=3) (i:=0+1) (v:=w) rfl rfl];rcases hva.two with ⟨rfl,rfl,a1,a2,e1⟩ | ⟨hz,e1⟩
 case inr =>
  rw [e1];simp only [yM,zT];rw [yj.r1_1,yj.oJ];simp only [yM,zT];rw [zB,yj.v15,zC,zF];exact words
 rw [e1];simp only [yT];rw [sFx,H4.load (k:=2) (i:=0+1) (v:=w') rfl rfl];rcases hvb.two with ⟨rfl,rfl,b1,b2,e2⟩ | ⟨hz,e2⟩
 case inr =>
  rw [e2,zV,yj.r1_1,yj.oJ];simp only [yM,zT];rw [zB,yj.v15,zC,zF];exact words
 rw [e2,zV,yj.r1_1,yj.oJ];simp only [yT];rw [sFx,H4.load (k:=3) (i:=0+0) rfl rfl,di,zV,zB,yj.v15];by_cases cm:a = -9223372036854775808
 ·rw [Zac cm,Zaj,zC,zF];exact words
 rw [Zab cm,Zak,zE,zA,yj.qh,sFx,H4.load (k:=3) (i:=0+0) rfl rfl,sFx,H4.load (k:=2) (i:=0+0) rfl rfl,zx4 ⟨a1,a2⟩ hb,sFx,H4.load (k:=3) (i:=0+0) rfl rfl,sFx,H4.load (k:=2) (i:=0+0) rfl rfl,zkq hb,zA,zA,yj.nU,uf,zB,yj.v16];obtain ⟨f1,f2⟩:=ziz (a:=a) hb;have hq2 : -9223372036854775807<=a.tdiv b/\a.tdiv b<=9223372036854775807:=by
  have:=Int.natAbs_tdiv_le_natAbs a b;omega
 have fin:∀ {x6 x7 x8 x9 x10 x11 x12 x13 x14 x15 x16 x17:AV} {y1 y2:Int},y1=a / b->y2=a%b->(-9223372036854775808<=y1/\y1<=9223372036854775807)->(-9223372036854775808<=y2/\y2<=9223372036854775807)->(zO 2 (.ptr p 0) (.agg [I y1,.zn]) h4 nx4 fun v3 h4 n5=>zO 2 (.ptr q 0) (.agg [I y2,.zn]) h4 n5 fun v6 h7 n8=>yu yj.res K (yj.fr x6 x7 (.ptr pa 0) (.ptr pb 0) (.ptr p 0) (.ptr q 0) x8 x9 x10 x11 x12 x13 x14 x15 x16 x17 (.bool true) (.bool true)) h7 n8)=.ok True:=by
  intro x6 x7 x8 x9 x10 x11 x12 x13 x14 x15 x16 x17 y1 y2 e1 e2 g1 g2;refine H4.jb (l2:=[I y1,.zn]) (k:=1) rfl rfl rfl fun h6 H6 => ?_;refine H6.jb (l2:=[I y2,.zn]) (k:=0) rfl rfl rfl fun h7 H7 => ?_;rw [yj.ret,H7.zx (k:=1) (n:=2) rfl rfl,H7.zx (k:=0) (n:=2) rfl rfl];exact hK _ _ _ _ _ H7 (j7 (yZ g1).frz (yZ g2).frz) ⟨_,_,rfl,e1 ▸ yZ g1,e2 ▸ yZ g2⟩
 have hmod:=Int.emod_nonneg a (show b≠0 by omega);have hmod2:=Int.emod_lt_of_pos a (show 0<b by omega);by_cases cr:a.tmod b<0
 ·obtain ⟨g1,g2,g3⟩:=f1 cr;rw [Zac cr,zE,yj.ny,vw (by omega),sFx,H4.load (k:=2) (i:=0+0) rfl rfl,gu (by omega),zA,yj.rD,kC,kC];simp only [zK,zR];refine H4.jb (l2:=[I (a.tdiv b-1),.zn]) (k:=1) rfl rfl rfl fun h6 H6 => ?_;refine H6.jb (l2:=[I (a.tmod b+b),.zn]) (k:=0) rfl rfl rfl fun h7 H7 => ?_;rw [yj.ret,H7.zx (k:=1) (n:=2) rfl rfl,H7.zx (k:=0) (n:=2) rfl rfl];exact hK _ _ _ _ _ H7 (j7 (yZ (by omega)).frz (yZ (by omega)).frz) ⟨_,_,rfl,by rw [g1];exact yZ (by omega),by rw [g2];exact yZ (by omega)⟩
 ·obtain ⟨g1,g2⟩:=f2 (by omega);rw [Zab cr,zC,zF,zA,yj.rD,kC,kC];simp only [zK,zR];refine H4.jb (l2:=[I (a.tdiv b),.zn]) (k:=1) rfl rfl rfl fun h6 H6 => ?_;refine H6.jb (l2:=[I (a.tmod b),.zn]) (k:=0) rfl rfl rfl fun h7 H7 => ?_;rw [yj.ret,H7.zx (k:=1) (n:=2) rfl rfl,H7.zx (k:=0) (n:=2) rfl rfl];exact hK _ _ _ _ _ H7 (j7 (yZ (by omega)).frz (yZ (by omega)).frz) ⟨_,_,rfl,by rw [g1];exact yZ (by omega),by rw [g2];exact yZ (by omega)⟩
theorem zx5 {va vb:AV} {a b c:Int} {k:Nat} (hva:bY va a) (hvb:bY vb b) (hk:k<=90000) (hza:Zs k a) (hzb:Zs k b) (hb:b≠0) (hc:a=c*b):Pure Tryz.prog B 273 [va,vb] (fun v=>bY v c):=by
 have sO:=hva;have rH:=hvb;obtain ⟨s,w,rfl,hva⟩:=hva;obtain ⟨s',w',rfl,hvb⟩:=hvb;refine yC fun h nx K H0 hK=>zQ zW yX 100 fun hf => ?_;rw [uz.go,uz.t10,zA,uz.jk];refine H0.box (l:=[s,w]) rfl fun pa h1 nx1 H1 => ?_;refine H1.box (l:=[s',w']) rfl fun pb h2 nx2 H2 => ?_;refine H2.alloc fun p h3 nx3 H3 => ?_
 have tail:∀ {h5:T Blk} {nx5:Pa} {s1 w1 s2 w2:AV} {a' b':Int} {x5 x6:AV},Hp h h5 nx5 [.arr p [I 0,.zn],.arr pb [s2,w2],.arr pa [s1,w1]]->fK s1 w1 a'->fK s2 w2 b'->Zs k a'->Zs k b'->1<=b'->a'=c*b' ->
   IR.run uz.t8 (CS Tryz.prog B) 100 (fnO uz.res K) (yu uz.res K) (uz.fr (.agg [s,w]) (.agg [s',w']) (.ptr pa 0) (.ptr pb 0) (.ptr p 0) x5 x6) h5 nx5=.ok True:=by
  intro h5 nx5 s1 w1 s2 w2 a' b' x5 x6 H i1 i2 z1 z2 hb' e;rw [uz.t8,zA,uz.bV,H.zx (k:=2) (n:=2) rfl rfl,H.zx (k:=1) (n:=2) rfl rfl];refine m6 ⟨_,_,rfl,i1⟩ ⟨_,_,rfl,i2⟩ hk z1 z2 hb' _ _ _ _ ?_;rintro _ ⟨v1,v2,rfl,⟨s3,w3,rfl,i3⟩,⟨s4,w4,rfl,i4⟩⟩ _;rw [yJ,yH];refine H.alloc fun p1 h6 nx6 H6 => ?_;refine H6.alloc fun q1 h7 nx7 H7 => ?_;refine H7.jb (l2:=[s3,w3]) (k:=1) rfl rfl rfl fun h8 H8 => ?_;refine H8.jb (l2:=[s4,w4]) (k:=0) rfl rfl rfl fun h9 H9 => ?_;rw [zA,uz.bf,H9.zx (k:=1) (n:=2) rfl rfl];refine H9.jb (l2:=[s3,w3]) (k:=2) rfl rfl rfl fun h10 H10 => ?_;simp only [zK,zR];rw [uz.ret,H10.zx (k:=2) (n:=2) rfl rfl];have:a' / b'=c:=by rw [e];exact Int.mul_ediv_cancel _ (by omega)
  rw [this] at i3;exact hK _ _ _ _ _ H10 (rU i3.fix) ⟨_,_,rfl,i3⟩
 rw [zA,zA,uz.ji,H3.zx (k:=1) (n:=2) rfl rfl];refine vU rH _ _ _ _ ?_;rintro _ rfl _;rw [uf,zB,uz.v6];by_cases cb:b<0
 ·rw [Zac (by unfold tu;rw [if_pos cb];decide),zE,uz.qh,H3.zx (k:=2) (n:=2) rfl rfl,H3.zx (k:=1) (n:=2) rfl rfl];refine pB sO _ _ _ _ ?_;rintro _ ⟨s3,w3,rfl,i3⟩ _;rw [H3.zx (k:=1) (n:=2) rfl rfl,zG];refine pB rH _ _ _ _ ?_;rintro _ ⟨s4,w4,rfl,i4⟩ _;refine H3.jb (l2:=[s3,w3]) (k:=2) rfl rfl rfl fun h8 H8 => ?_;refine H8.jb (l2:=[s4,w4]) (k:=1) rfl rfl rfl fun h9 H9 => ?_;exact tail H9 i3 i4 (by unfold Zs at hza ⊢;rwa [Zdb]) (by unfold Zs at hzb ⊢;rwa [Zdb]) (by omega) (by rw [hc,Int.mul_neg])
 ·rw [Zab (by unfold tu;rw [if_neg cb];split <;> decide),zC,zF];exact tail H3 hva hvb hza hzb (by omega) hc
theorem fK.sgn {s w:AV} {z:Int} (h:fK s w z):∃ n,s=I n/\(n<0↔z<0):=by
 rcases h with ⟨rfl,_⟩ | ⟨n,rfl,_,⟨a,rfl⟩ | ⟨a,rfl⟩,_⟩
 ·exact ⟨_,rfl,Iff.rfl⟩
 ·exact ⟨_,rfl,by constructor <;> intro <;> omega⟩
 ·exact ⟨_,rfl,by constructor <;> intro <;> omega⟩
theorem zsi {v:AV} {z:Int} (hv:bY v z):Pure Tryz.prog B 334 [v] (fun v=>bY v (z.natAbs:Int)):=by
 have hv0:=hv;obtain ⟨s,w,rfl,hv⟩:=hv;obtain ⟨n,rfl,hn⟩:=hv.sgn;refine yC fun h nx K H0 hK=>zQ zW yX 100 fun hf => ?_;rw [xq.go,xq.t9,zA,xq.jk];refine H0.box (l:=[I n,w]) rfl fun pa h1 nx1 H1 => ?_;refine H1.alloc fun p h2 nx2 H2 => ?_;rw [zA,zA,xq.ji,sFx,H2.load (k:=1) (i:=0+0) rfl rfl,uf,zB,xq.v3];by_cases c:n<0
 ·rw [Zac c,zE,zA,xq.qh,H2.zx (k:=1) (n:=2) rfl rfl];refine pB hv0 _ _ _ _ ?_;rintro _ ⟨s',w',rfl,hc⟩ _;refine H2.jb (l2:=[s',w']) (k:=0) rfl rfl rfl fun h4 H4 => ?_;simp only [zK,zR];rw [xq.ret,H4.zx (k:=0) (n:=2) rfl rfl];have:=hn.1 c;rw [show -z=(z.natAbs:Int) by omega] at hc;exact hK _ _ _ _ _ H4 (rU hc.fix) ⟨_,_,rfl,hc⟩
 ·rw [Zab c,zC,zF,zA,xq.bf,H2.zx (k:=1) (n:=2) rfl rfl];refine H2.jb (l2:=[I n,w]) (k:=0) rfl rfl rfl fun h4 H4 => ?_;simp only [zK,zR];rw [xq.ret,H4.zx (k:=0) (n:=2) rfl rfl];have:¬ z<0:=fun q=>c (hn.2 q);rw [show z=(z.natAbs:Int) by omega] at hv;exact hK _ _ _ _ _ H4 (rU hv.fix) ⟨_,_,rfl,hv⟩
theorem qai {va vb:AV} {a b:Int} {k:Nat} (hva:bY va a) (hvb:bY vb b) (hk:k<=90000) (hza:Zs k a) (hzb:Zs k b):Pure Tryz.prog B 272 [va,vb] (fun v=>bY v (Int.gcd a b:Int)):=by
 have sO:=hva;have rH:=hvb;obtain ⟨s,w,rfl,hva⟩:=hva;obtain ⟨s',w',rfl,hvb⟩:=hvb;refine yC fun h nx K H0 hK=>zQ zW yX (b.natAbs+100) fun hf => ?_;rw [gy.go,gy.t16,zA,gy.jk];refine H0.box (l:=[s,w]) rfl fun pa h1 nx1 H1 => ?_;refine H1.box (l:=[s',w']) rfl fun pb h2 nx2 H2 => ?_;refine H2.alloc fun p h3 nx3 H3 => ?_;rw [zA,gy.ji,H3.zx (k:=2) (n:=2) rfl rfl,H3.zx (k:=1) (n:=2) rfl rfl];refine zsi sO _ _ _ _ ?_;rintro _ ⟨s1,w1,rfl,i1⟩ _;rw [H3.zx (k:=1) (n:=2) rfl rfl,zG];refine zsi rH _ _ _ _ ?_;rintro _ ⟨s2,w2,rfl,i2⟩ _;refine H3.jb (l2:=[s1,w1]) (k:=2) rfl rfl rfl fun h4 H4 => ?_;refine H4.jb (l2:=[s2,w2]) (k:=1) rfl rfl rfl fun h5 H5 => ?_;rw [zA,zL];refine gy.qa8 (fun m h' nx'=>∃ (x y:Nat) (s1 w1 s2 w2:AV),fK s1 w1 (x:Int)/\fK s2 w2 (y:Int)/\m=y/\Zs k (x:Int)/\Zs k (y:Int)/\Nat.gcd x y=Int.gcd a b/\Hp h h' nx' [.arr p [I 0,.zn],.arr pb [s2,w2],.arr pa [s1,w1]]) (m:=b.natAbs) (by omega) ⟨a.natAbs,b.natAbs,s1,w1,s2,w2,i1,i2,rfl,hza,hzb,rfl,H5⟩ ?_;rintro m z5 z6 h6 nx6 R ⟨x,y,s1,w1,s2,w2,i1,i2,rfl,z1,z2,hg,H6⟩ hR;rw [gy.t9,zA,zA,gy.qh,H6.zx (k:=1) (n:=2) rfl rfl];refine vU ⟨_,_,rfl,i2⟩ _ _ _ _ ?_;rintro _ rfl _;rw [di,zB,gy.v6];by_cases c:m=0
 ·subst c;rw [Zac (by rfl),Zaj,zC,zX,yF,zA,gy.nS,H6.zx (k:=2) (n:=2) rfl rfl];refine H6.jb (l2:=[s1,w1]) (k:=0) rfl rfl rfl fun h7 H7 => ?_;simp only [zK,zR];rw [gy.ret,H7.zx (k:=0) (n:=2) rfl rfl];rw [Nat.gcd_zero_right] at hg;rw [hg] at i1;exact hK _ _ _ _ _ H7 (rU i1.fix) ⟨_,_,rfl,i1⟩
 ·have hs:tu (m:Int)=1:=by unfold tu;rw [if_neg (by omega),if_pos (by omega)]
  rw [hs,Zab (by decide),Zak,zE,zF,zL,zA,gy.bV,H6.zx (k:=2) (n:=2) rfl rfl,H6.zx (k:=1) (n:=2) rfl rfl];refine m6 ⟨_,_,rfl,i1⟩ ⟨_,_,rfl,i2⟩ hk z1 z2 (by omega) _ _ _ _ ?_;rintro _ ⟨v1,v2,rfl,⟨s3,w3,rfl,i3⟩,⟨s4,w4,rfl,i4⟩⟩ _;rw [yJ,yH];refine H6.alloc fun p1 h7 nx7 H7 => ?_;refine H7.alloc fun q1 h8 nx8 H8 => ?_;refine H8.jb (l2:=[s3,w3]) (k:=1) rfl rfl rfl fun h9 H9 => ?_;refine H9.jb (l2:=[s4,w4]) (k:=0) rfl rfl rfl fun h10 H10 => ?_;rw [gy.bf,H10.zx (k:=3) (n:=2) rfl rfl,H10.zx (k:=0) (n:=2) rfl rfl];refine H10.jb (l2:=[s2,w2]) (k:=4) rfl rfl rfl fun h11 H11 => ?_;rw [H11.zx (k:=0) (n:=2) rfl rfl,zG];refine H11.jb (l2:=[s4,w4]) (k:=3) rfl rfl rfl fun h12 H12 => ?_;rw [<- Int.natCast_emod] at i4;have hlt:=Zbl x (show 0<m by omega);refine hR (x%m) _ _ _ _ hlt ⟨m,x%m,s2,w2,s4,w4,i2,i4,rfl,z2,?_,?_,H12.drop.drop⟩
  ·unfold Zs at z2 ⊢;simp only [Zcm] at z2 ⊢;omega
  ·rw [<- hg,Nat.gcd_comm x m,Nat.gcd_rec m x,Nat.gcd_comm]
theorem bB {t:T AV} {l:List AV} {off n:Nat} (h:yL t 0 l.length=l) (hle:off+n<=l.length):yL t off n=(l.drop off).take n:=by
 apply Zck;intro i;by_cases hi:i<n
 ·rw [yK _ _ _ _ hi,List.getElem?_take_of_lt hi,List.getElem?_drop];have:=yK t 0 l.length (off+i) (by omega);rw [h,Zbh] at this;exact this.symm
 ·rw [List.getElem?_eq_none (by rw [uJ];omega),List.getElem?_eq_none (by simp;omega)]
theorem Hp.qc {h0 h:T Blk} {nx:Pa} {L:List Ob} {k n off:Nat} {id:Pa} {l l2:List AV} {op:AV->OP} (H:Hp h0 h nx L) (hk:L[k]? = some (.arr id l)) (hle:off+n<=l.length) (he:(l.drop off).take n=l2):zD n (.ptr id off) h op=op (.agg l2):=by
 obtain ⟨o,t,h1,h2⟩:=H.own _ (Zad hk);show ku (T.get .no id h) (fun _ m t=>bif Nat.ble (off+n) m then op (.agg (yL t off n)) else .no 8) (.no 9)=_;rw [h1];show (bif Nat.ble (off+n) l.length then op (.agg (yL t off n)) else .no 8)=_;rw [Zag hle,cond_true,bB h2 hle,he]
def jU (v:AV) (q:Rat):Prop:=∃ s w s' w',v=.agg [s,w,s',w']/\fK s w q.num/\fK s' w' (q.den:Int)
def Qs (k:Nat) (q:Rat):Prop:=Zs k q.num/\Zs k (q.den:Int)
theorem fK.oD {s w s' w':AV} {a b:Int} (h:fK s w a) (h':fK s' w' b):∀ v∈[s,w,s',w'],fO v=true:=by
 intro v hv;rcases List.mem_cons.1 hv with rfl | hv
 ·exact h.fix _ (by simp)
 rcases List.mem_cons.1 hv with rfl | hv
 ·exact h.fix _ (by simp)
 exact h'.fix _ hv
theorem fK.build {s w s' w':AV} {a b:Int} (h:fK s w a) (h':fK s' w' b) {K:AV->OP}:gE [(I 0),.zn,(I 0),.zn] [(0,2,.agg [s,w]),(2,2,.agg [s',w'])] K=K (.agg [s,w,s',w']):=nr rfl
theorem Zs.mono {k m:Nat} {z:Int} (h:Zs k z) (hkm:k<=m):Zs m z:=Zcx h (Nat.pow_le_pow_right (by decide) hkm)
theorem Zs.mul {k m:Nat} {a b:Int} (ha:Zs k a) (hb:Zs m b):Zs (k+m) (a*b):=by
 unfold Zs at *
 rw [Zem,Zdj];exact Nat.mul_lt_mul'' ha hb
theorem Zs.add {k:Nat} {a b:Int} (ha:Zs k a) (hb:Zs k b):Zs (k+1) (a+b):=by
 unfold Zs at *
 have h1:=Int.natAbs_add_le a b;have h2:18446744073709551616 ^ (k+1)=18446744073709551616 ^ k*18446744073709551616:=Zbg ..;omega
theorem mY {v:AV} {q:Rat} (hv:jU v q):Pure Tryz.prog B 99 [v] (· = .bool (decide (q.den=1))):=by
 obtain ⟨s,w,s',w',rfl,h1,h2⟩:=hv;refine yC fun h nx K H0 hK=>zQ zW yX 100 fun hf => ?_;rw [F99.go,F99.t3,zA,F99.jk];refine H0.box (l:=[s,w,s',w']) rfl fun pa h1 nx1 H1 => ?_;rw [zA,F99.ji,F99.r1_0,F99.zg0,sFx,sFx,H1.load (k:=0) (i:=0+2+1) (v:=w') rfl rfl];rcases h2.two with ⟨rfl,rfl,b1,b2,e2⟩ | ⟨hz,e2⟩
 ·rw [e2];simp only [yT];rw [sFx,sFx,H1.load (k:=0) (i:=0+2+0) rfl rfl,F99.r1_1,F99.oJ];simp only [yT];rw [dm];simp only [zV];simp only [zK,zR];rw [F99.ret];exact hK _ _ _ _ _ H1 (yB rfl) (by congr 1;exact decide_eq_decide.2 (by omega))
 ·rw [e2];simp only [yM];rw [F99.r1_1,F99.oJ];simp only [yM,zT];simp only [zK,zR];rw [F99.ret];refine hK _ _ _ _ _ H1 (yB rfl) ?_;rcases h2 with ⟨rfl,rfl,_⟩ | ⟨n,rfl,rfl,_,hb⟩
  ·have:=e2 fun b=>match b with | .bool true=>.no 1 | _=>.ok True
   rw [zel] at this;cases this
  ·rw [Zab (by omega)]
theorem zb7 {n d:Int} (hd:0<d):(Rat.divInt n d).num=n / (Int.gcd n d:Int)/\((Rat.divInt n d).den:Int)=d / (Int.gcd n d:Int):=by
 refine ⟨?_,?_⟩
 ·rw [Rat.num_divInt,Int.sign_eq_one_of_pos hd,Int.one_mul,Int.gcd_comm]
 ·rw [Rat.den_divInt,if_neg (by omega),Int.gcd_comm,Int.natCast_ediv]
  congr 1
  omega
theorem zkr {z:Int}:((z:Rat)).num=z/\(((z:Rat)).den:Int)=1:=⟨Zew z,by rw [Rat.den_intCast];rfl⟩
theorem zgn {v:AV} {z:Int} (hv:bY v z):Pure Tryz.prog B 189 [v] (fun v=>jU v (z:Rat)):=by
 obtain ⟨s,w,rfl,hv⟩:=hv;refine yC fun h nx K H0 hK=>zQ zW yX 100 fun hf => ?_;rw [fA.go,fA.t3,zA,fA.jk];refine H0.box (l:=[s,w]) rfl fun pa h1 nx1 H1 => ?_;refine H1.alloc fun p h2 nx2 H2 => ?_;rw [zA,fA.ji,H2.zx (k:=1) (n:=2) rfl rfl];refine of85 (by omega) _ _ _ _ ?_;rintro _ ⟨s',w',rfl,h'⟩ _;rw [H2.zx (k:=1) (n:=2) rfl rfl,zG,hv.build h'];refine H2.jb (l2:=[s,w,s',w']) (k:=0) rfl rfl rfl fun h4 H4 => ?_;simp only [zK,zR];rw [fA.ret,H4.zx (k:=0) (n:=4) rfl rfl];exact hK _ _ _ _ _ H4 (rU (hv.oD h')) ⟨_,_,_,_,rfl,by rw [zkr.1];exact hv,by rw [zkr.2];exact h'⟩
theorem f89 {z:Int} (h : -9223372036854775808<=z/\z<=9223372036854775807):Pure Tryz.prog B 89 [I z] (fun v=>jU v (z:Rat)):=by
 refine yC fun hh nx K H0 hK=>zQ zW yX 100 fun hf => ?_;rw [F89.go,F89.t3,zA,F89.jk];refine H0.alloc fun p h2 nx2 H2 => ?_;rw [zA,F89.ji];refine of85 h _ _ _ _ ?_;intro v hv _;refine zgn hv _ _ _ _ ?_;rintro _ ⟨s,w,s',w',rfl,i1,i2⟩ _;refine H2.jb (l2:=[s,w,s',w']) (k:=0) rfl rfl rfl fun h4 H4 => ?_;simp only [zK,zR];rw [F89.ret,H4.zx (k:=0) (n:=4) rfl rfl];exact hK _ _ _ _ _ H4 (rU (i1.oD i2)) ⟨_,_,_,_,rfl,i1,i2⟩
theorem zem {va vb:AV} {a b:Int} {k:Nat} (hva:bY va a) (hvb:bY vb b) (hk:k<=90000) (hza:Zs k a) (hzb:Zs k b) (hb:b≠0):Pure Tryz.prog B 192 [va,vb] (fun v=>jU v (Rat.divInt a b)):=by
 have sO:=hva;have rH:=hvb;obtain ⟨s,w,rfl,hva⟩:=hva;obtain ⟨s',w',rfl,hvb⟩:=hvb;refine yC fun h nx K H0 hK=>zQ zW yX 100 fun hf => ?_;rw [jy.go,jy.t16,zA,jy.jk];refine H0.box (l:=[s,w]) rfl fun pa h1 nx1 H1 => ?_;refine H1.box (l:=[s',w']) rfl fun pb h2 nx2 H2 => ?_;refine H2.alloc fun p h3 nx3 H3 => ?_
 have tail:∀ {h5:T Blk} {nx5:Pa} {s1 w1 s2 w2:AV} {a' b':Int} {x5 x6 x7:AV},Hp h h5 nx5 [.arr p [I 0,.zn,I 0,.zn],.arr pb [s2,w2],.arr pa [s1,w1]]->fK s1 w1 a'->fK s2 w2 b'->Zs k a'->Zs k b'->1<=b'->Rat.divInt a' b'=Rat.divInt a b ->
   IR.run jy.t14 (CS Tryz.prog B) 100 (fnO jy.res K) (yu jy.res K) (jy.fr (.agg [s,w]) (.agg [s',w']) (.ptr pa 0) (.ptr pb 0) (.ptr p 0) x5 x6 x7) h5 nx5=.ok True:=by
  intro h5 nx5 s1 w1 s2 w2 a' b' x5 x6 x7 H i1 i2 z1 z2 hb' e;obtain ⟨d1,d2⟩:=zb7 (n:=a') (show 0<b' by omega);have general:∀ {x5 x6 x7:AV},IR.run jy.t13 (CS Tryz.prog B) 100 (fnO jy.res K) (yu jy.res K) (jy.fr (.agg [s,w]) (.agg [s',w']) (.ptr pa 0) (.ptr pb 0) (.ptr p 0) x5 x6 x7) h5 nx5=.ok True:=by
   intro x5 x6 x7;rw [jy.t13,zA,jy.nR,H.zx (k:=2) (n:=2) rfl rfl,H.zx (k:=1) (n:=2) rfl rfl];refine qai ⟨_,_,rfl,i1⟩ ⟨_,_,rfl,i2⟩ hk z1 z2 _ _ _ _ ?_;rintro _ ⟨s3,w3,rfl,i3⟩ _;have g0:0<Int.gcd a' b':=Int.gcd_pos_of_ne_zero_right _ (by omega);have g1:Zs k (Int.gcd a' b':Int):=by
    have:Int.gcd a' b'<=b'.natAbs:=Nat.le_of_dvd (by omega) (Int.gcd_dvd_natAbs_right a' b');unfold Zs at z2 ⊢;rw [Zcm];omega
   refine H.alloc fun p1 h6 nx6 H6 => ?_;refine H6.jb (l2:=[s3,w3]) (k:=0) rfl rfl rfl fun h7 H7 => ?_;rw [zA,jy.fM,H7.zx (k:=3) (n:=2) rfl rfl,H7.zx (k:=0) (n:=2) rfl rfl,H7.zx (k:=2) (n:=2) rfl rfl,H7.zx (k:=0) (n:=2) rfl rfl];refine zx5 (c:=a' / (Int.gcd a' b':Int)) ⟨_,_,rfl,i1⟩ ⟨_,_,rfl,i3⟩ hk z1 g1 (by omega) (Int.ediv_mul_cancel (Int.gcd_dvd_left ..)).symm _ _ _ _ ?_;rintro _ ⟨s4,w4,rfl,i4⟩ _;rw [H7.zx (k:=0) (n:=2) rfl rfl,zG,H7.zx (k:=2) (n:=2) rfl rfl,zG];refine zx5 (c:=b' / (Int.gcd a' b':Int)) ⟨_,_,rfl,i2⟩ ⟨_,_,rfl,i3⟩ hk z2 g1 (by omega) (Int.ediv_mul_cancel (Int.gcd_dvd_right ..)).symm _ _ _ _ ?_;rintro _ ⟨s5,w5,rfl,i5⟩ _;rw [i4.build i5];refine H7.jb (l2:=[s4,w4,s5,w5]) (k:=1) rfl rfl rfl fun h8 H8 => ?_;simp only [zK,zR];rw [jy.ret,H8.zx (k:=1) (n:=4) rfl rfl];exact hK _ _ _ _ _ H8 (rU (i4.oD i5)) ⟨_,_,_,_,rfl,by rw [<- e,d1];exact i4,by rw [<- e,d2];exact i5⟩
  rw [jy.t14,zA,zA,jy.bV,sFx,H.load (k:=1) (i:=0+1) (v:=w2) rfl rfl];rcases i2.two with ⟨rfl,rfl,b1,b2,e2⟩ | ⟨hz,e2⟩
  ·rw [e2];simp only [yT];rw [sFx,H.load (k:=1) (i:=0+0) rfl rfl,dm,zV,zB,jy.v7];by_cases c:b'=1
   ·subst c;rw [Zac rfl,zE,zA,jy.bf,H.zx (k:=2) (n:=2) rfl rfl,H.zx (k:=1) (n:=2) rfl rfl,i1.build i2];refine H.jb (l2:=[s1,w1,I 1,.zn]) (k:=0) rfl rfl rfl fun h8 H8 => ?_;simp only [zK,zR];rw [jy.ret,H8.zx (k:=0) (n:=4) rfl rfl];rw [Int.gcd_one] at d1 d2;exact hK _ _ _ _ _ H8 (rU (i1.oD i2)) ⟨_,_,_,_,rfl,by rw [<- e,d1];simpa using i1,by rw [<- e,d2];simpa using i2⟩
   ·rw [Zab c,zC,zF];exact general
  ·rw [e2];simp only [yM,zT];rw [zB,jy.v7,zC,zF];exact general
 rw [zA,zA,jy.ji,H3.zx (k:=1) (n:=2) rfl rfl];refine vU rH _ _ _ _ ?_;rintro _ rfl _;rw [uf,zB,jy.v6];by_cases cb:b<0
 ·rw [Zac (by unfold tu;rw [if_pos cb];decide),zE,jy.qh,H3.zx (k:=2) (n:=2) rfl rfl,H3.zx (k:=1) (n:=2) rfl rfl];refine pB sO _ _ _ _ ?_;rintro _ ⟨s3,w3,rfl,i3⟩ _;rw [H3.zx (k:=1) (n:=2) rfl rfl,zG];refine pB rH _ _ _ _ ?_;rintro _ ⟨s4,w4,rfl,i4⟩ _;refine H3.jb (l2:=[s3,w3]) (k:=2) rfl rfl rfl fun h8 H8 => ?_;refine H8.jb (l2:=[s4,w4]) (k:=1) rfl rfl rfl fun h9 H9 => ?_;exact tail H9 i3 i4 (by unfold Zs at hza ⊢;rwa [Zdb]) (by unfold Zs at hzb ⊢;rwa [Zdb]) (by omega) (Rat.neg_divInt_neg ..)
 ·rw [Zab (by unfold tu;rw [if_neg cb];split <;> decide),zC,zF];exact tail H3 hva hvb hza hzb (by omega) rfl
theorem uGWt (op:KW3->OP) (h:T Blk) (nx:Pa) (k:KW3):sGW (.bool true) true op h nx k=op k:=nr rfl
theorem uGWf (op:KW3->OP) (h:T Blk) (nx:Pa) (k:KW3):sGW (.bool false) true op h nx k=k .u h nx:=nr rfl
theorem wY (q:Rat):Rat.divInt q.num (q.den:Int)=q:=Rat.num_divInt_den q
theorem kT (q:Rat):(q.den:Int)≠0:=by have:=q.den_nz;omega
theorem zvx (a b:Rat):Rat.divInt (a.num*b.num) ((a.den:Int)*(b.den:Int))=a*b:=by
 rw [<- Rat.divInt_mul_divInt,wY,wY]
theorem zvy (a b:Rat):Rat.divInt (a.num*(b.den:Int)+b.num*(a.den:Int)) ((a.den:Int)*(b.den:Int))=a+b:=by
 rw [<- Rat.divInt_add_divInt _ _ (kT a) (kT b),wY,wY]
theorem zdc {q:Rat} (h:q.den=1):((q.num:Int):Rat)=q:=Rat.ext (Zew _) (by rw [Rat.den_intCast,h])
theorem zi1 (a b:Rat):a=b↔a.num*(b.den:Int)=b.num*(a.den:Int):=by
 have:=Rat.divInt_eq_divInt_iff (n₁:=a.num) (n₂:=b.num) (kT a) (kT b)
 rwa [wY,wY] at this
theorem fV {z:Int}:tu z=0↔z=0:=by unfold tu;split <;> (try split) <;> constructor <;> intro <;> omega
theorem pX {v:AV} {q:Rat} (hv:jU v q):Pure Tryz.prog B 91 [v] (· = I (tu q.num)):=by
 obtain ⟨s,w,s',w',rfl,i1,i2⟩:=hv;refine yC fun h nx K H0 hK=>zQ zW yX 100 fun hf => ?_;rw [F91.go,F91.t3,zA,F91.jk];refine H0.box (l:=[s,w,s',w']) rfl fun pa h1 nx1 H1 => ?_;rw [zA,F91.ji,sFx,H1.qc (k:=0) (l2:=[s,w]) rfl (by simp) rfl];refine vU ⟨_,_,rfl,i1⟩ _ _ _ _ ?_;rintro _ rfl _;simp only [zK,zR];rw [F91.ret];exact hK _ _ _ _ _ H1 (yB rfl) rfl
theorem zks {v:AV} {q:Rat} (hv:jU v q):Pure Tryz.prog B 188 [v] (fun v=>jU v (-q)):=by
 obtain ⟨s,w,s',w',rfl,i1,i2⟩:=hv;refine yC fun h nx K H0 hK=>zQ zW yX 100 fun hf => ?_;rw [fB.go,fB.t3,zA,fB.jk];refine H0.box (l:=[s,w,s',w']) rfl fun pa h1 nx1 H1 => ?_;refine H1.alloc fun p h2 nx2 H2 => ?_;have ln:∀ op:AV->OP,zD 2 (.ptr pa (0+0)) h2 op=op (.agg [s,w]):=fun op=>H2.qc (k:=1) rfl (by simp) rfl;have ld:∀ op:AV->OP,zD 2 (.ptr pa (0+2)) h2 op=op (.agg [s',w']):=fun op=>H2.qc (k:=1) rfl (by simp) rfl;rw [zA,fB.ji,sFx,ln,sFx,ld];refine pB ⟨_,_,rfl,i1⟩ _ _ _ _ ?_;rintro _ ⟨s3,w3,rfl,i3⟩ _;rw [ld,zG,sFx,zG,i3.build i2];refine H2.jb (l2:=[s3,w3,s',w']) (k:=0) rfl rfl rfl fun h4 H4 => ?_;simp only [zK,zR];rw [fB.ret,H4.zx (k:=0) (n:=4) rfl rfl];exact hK _ _ _ _ _ H4 (rU (i3.oD i2)) ⟨_,_,_,_,rfl,by rw [Rat.neg_num];exact i3,by rw [Rat.neg_den];exact i2⟩
theorem zkt {v:AV} {q:Rat} {k:Nat} (hv:jU v q) (hk:k<=90000) (hq:Qs k q) (h0:q≠0):Pure Tryz.prog B 185 [v] (fun v=>jU v q⁻¹):=by
 obtain ⟨s,w,s',w',rfl,i1,i2⟩:=hv;refine yC fun h nx K H0 hK=>zQ zW yX 100 fun hf => ?_;rw [fC.go,fC.t3,zA,fC.jk];refine H0.box (l:=[s,w,s',w']) rfl fun pa h1 nx1 H1 => ?_;refine H1.alloc fun p h2 nx2 H2 => ?_;have ln:∀ op:AV->OP,zD 2 (.ptr pa (0+0)) h2 op=op (.agg [s,w]):=fun op=>H2.qc (k:=1) rfl (by simp) rfl;have ld:∀ op:AV->OP,zD 2 (.ptr pa (0+2)) h2 op=op (.agg [s',w']):=fun op=>H2.qc (k:=1) rfl (by simp) rfl;rw [zA,fC.ji,sFx,ld,sFx,ln];refine zem ⟨_,_,rfl,i2⟩ ⟨_,_,rfl,i1⟩ hk hq.2 hq.1 (fun e=>h0 (Rat.num_eq_zero.1 e)) _ _ _ _ ?_;rintro _ ⟨s3,w3,s4,w4,rfl,i3,i4⟩ _;refine H2.jb (l2:=[s3,w3,s4,w4]) (k:=0) rfl rfl rfl fun h4 H4 => ?_;simp only [zK,zR];rw [fC.ret,H4.zx (k:=0) (n:=4) rfl rfl];rw [<- Rat.inv_def] at i3 i4;exact hK _ _ _ _ _ H4 (rU (i3.oD i4)) ⟨_,_,_,_,rfl,i3,i4⟩
theorem zen {va vb:AV} {a b:Rat} {k:Nat} (hva:jU va a) (hvb:jU vb b) (hk:k<=40000) (ha:Qs k a) (hb:Qs k b):Pure Tryz.prog B 96 [va,vb] (fun v=>jU v (a*b)):=by
 obtain ⟨s,w,s',w',rfl,i1,i2⟩:=hva;obtain ⟨t,u,t',u',rfl,j1,j2⟩:=hvb;refine yC fun h nx K H0 hK=>zQ zW yX 100 fun hf => ?_;rw [F96.go,F96.t3,zA,F96.jk];refine H0.box (l:=[s,w,s',w']) rfl fun pa h1 nx1 H1 => ?_;refine H1.box (l:=[t,u,t',u']) rfl fun pb h2 nx2 H2 => ?_;refine H2.alloc fun p h3 nx3 H3 => ?_;have an:∀ op:AV->OP,zD 2 (.ptr pa (0+0)) h3 op=op (.agg [s,w]):=fun op=>H3.qc (k:=2) rfl (by simp) rfl;have ad:∀ op:AV->OP,zD 2 (.ptr pa (0+2)) h3 op=op (.agg [s',w']):=fun op=>H3.qc (k:=2) rfl (by simp) rfl;have bn:∀ op:AV->OP,zD 2 (.ptr pb (0+0)) h3 op=op (.agg [t,u]):=fun op=>H3.qc (k:=1) rfl (by simp) rfl;have bd:∀ op:AV->OP,zD 2 (.ptr pb (0+2)) h3 op=op (.agg [t',u']):=fun op=>H3.qc (k:=1) rfl (by simp) rfl;rw [zA,F96.ji,sFx,an,sFx,bn,sFx,ad,sFx,bd];refine pC ⟨_,_,rfl,i1⟩ ⟨_,_,rfl,j1⟩ (show k<=90000 by omega) ha.1 hb.1 _ _ _ _ ?_;intro v1 hv1 _;rw [bd,zG,sFx,zG,ad,zG,sFx,zG];refine pC ⟨_,_,rfl,i2⟩ ⟨_,_,rfl,j2⟩ (show k<=90000 by omega) ha.2 hb.2 _ _ _ _ ?_;intro v2 hv2 _;refine zem hv1 hv2 (show k+k<=90000 by omega) (ha.1.mul hb.1) (ha.2.mul hb.2) (Int.mul_ne_zero (kT a) (kT b)) _ _ _ _ ?_;rintro _ ⟨s3,w3,s4,w4,rfl,i3,i4⟩ _;refine H3.jb (l2:=[s3,w3,s4,w4]) (k:=0) rfl rfl rfl fun h4 H4 => ?_;simp only [zK,zR];rw [F96.ret,H4.zx (k:=0) (n:=4) rfl rfl];rw [zvx] at i3 i4;exact hK _ _ _ _ _ H4 (rU (i3.oD i4)) ⟨_,_,_,_,rfl,i3,i4⟩
theorem zi2 {va vb:AV} {a b:Rat} {k:Nat} (hva:jU va a) (hvb:jU vb b) (hk:k<=40000) (ha:Qs k a) (hb:Qs k b):Pure Tryz.prog B 90 [va,vb] (fun v=>jU v (a+b)):=by
 have sO:=hva;have rH:=hvb;obtain ⟨s,w,s',w',rfl,i1,i2⟩:=hva;obtain ⟨t,u,t',u',rfl,j1,j2⟩:=hvb;refine yC fun h nx K H0 hK=>zQ zW yX 100 fun hf => ?_;rw [F90.go,F90.t9,zA,F90.jk];refine H0.box (l:=[s,w,s',w']) rfl fun pa h1 nx1 H1 => ?_;refine H1.box (l:=[t,u,t',u']) rfl fun pb h2 nx2 H2 => ?_;refine H2.alloc fun p h3 nx3 H3 => ?_;have an:∀ op:AV->OP,zD 2 (.ptr pa (0+0)) h3 op=op (.agg [s,w]):=fun op=>H3.qc (k:=2) rfl (by simp) rfl;have ad:∀ op:AV->OP,zD 2 (.ptr pa (0+2)) h3 op=op (.agg [s',w']):=fun op=>H3.qc (k:=2) rfl (by simp) rfl;have bn:∀ op:AV->OP,zD 2 (.ptr pb (0+0)) h3 op=op (.agg [t,u]):=fun op=>H3.qc (k:=1) rfl (by simp) rfl;have bd:∀ op:AV->OP,zD 2 (.ptr pb (0+2)) h3 op=op (.agg [t',u']):=fun op=>H3.qc (k:=1) rfl (by simp) rfl;have general:∀ {x5:AV},IR.run F90.t7 (CS Tryz.prog B) 100 (fnO F90.res K) (yu F90.res K) (F90.fr (.agg [s,w,s',w']) (.agg [t,u,t',u']) (.ptr pa 0) (.ptr pb 0) (.ptr p 0) x5) h3 nx3=.ok True:=by
  intro x5;rw [F90.t7,zA,F90.bf,sFx,an,sFx,bd,sFx,bn,sFx,ad,sFx,ad,sFx,bd];refine pC ⟨_,_,rfl,i1⟩ ⟨_,_,rfl,j2⟩ (show k<=90000 by omega) ha.1 hb.2 _ _ _ _ ?_;intro v1 hv1 _;rw [bd,zG,sFx,zG,ad,zG,sFx,zG,ad,zG,sFx,zG,bn,zG,sFx,zG];refine pC ⟨_,_,rfl,j1⟩ ⟨_,_,rfl,i2⟩ (show k<=90000 by omega) hb.1 ha.2 _ _ _ _ ?_;intro v2 hv2 _;rw [bd,zG,sFx,zG,ad,zG,sFx,zG];refine zkp hv1 hv2 (show k+k<=90000 by omega) (ha.1.mul hb.2) (hb.1.mul ha.2) _ _ _ _ ?_;intro v3 hv3 _;rw [bd,zG,sFx,zG,ad,zG,sFx,zG];refine pC ⟨_,_,rfl,i2⟩ ⟨_,_,rfl,j2⟩ (show k<=90000 by omega) ha.2 hb.2 _ _ _ _ ?_;intro v4 hv4 _;refine zem hv3 hv4 (show k+k+1<=90000 by omega) ((ha.1.mul hb.2).add (hb.1.mul ha.2)) ((ha.2.mul hb.2).mono (by omega)) (Int.mul_ne_zero (kT a) (kT b)) _ _ _ _ ?_;rintro _ ⟨s3,w3,s4,w4,rfl,i3,i4⟩ _;refine H3.jb (l2:=[s3,w3,s4,w4]) (k:=0) rfl rfl rfl fun h4 H4 => ?_;simp only [zK,zR];rw [F90.ret,H4.zx (k:=0) (n:=4) rfl rfl];rw [zvy] at i3 i4;exact hK _ _ _ _ _ H4 (rU (i3.oD i4)) ⟨_,_,_,_,rfl,i3,i4⟩
 rw [zA,zA,F90.ji,H3.zx (k:=2) (n:=4) rfl rfl];refine mY sO _ _ _ _ ?_;rintro _ rfl _;by_cases ca:a.den=1
 ·rw [Zac ca];simp only [yT];rw [H3.zx (k:=1) (n:=4) rfl rfl,uGWt];refine mY rH _ _ _ _ ?_;rintro _ rfl _;rw [zV,zB,F90.v5];by_cases cb:b.den=1
  ·rw [Zac cb,zE,zA,F90.qh,sFx,an,sFx,bn];refine zkp ⟨_,_,rfl,i1⟩ ⟨_,_,rfl,j1⟩ (show k<=90000 by omega) ha.1 hb.1 _ _ _ _ ?_;intro v1 hv1 _;refine zgn hv1 _ _ _ _ ?_;rintro _ ⟨s3,w3,s4,w4,rfl,i3,i4⟩ _;refine H3.jb (l2:=[s3,w3,s4,w4]) (k:=0) rfl rfl rfl fun h4 H4 => ?_;simp only [zK,zR];rw [F90.ret,H4.zx (k:=0) (n:=4) rfl rfl];have e:((a.num+b.num:Int):Rat)=a+b:=by rw [Zfr,zdc ca,zdc cb]
   rw [e] at i3 i4;exact hK _ _ _ _ _ H4 (rU (i3.oD i4)) ⟨_,_,_,_,rfl,i3,i4⟩
  ·rw [Zab cb,zC,zF];exact general
 ·rw [Zab ca];simp only [yM];rw [uGWf,zT,zB,F90.v5,zC,zF];exact general
theorem Qs.neg {k:Nat} {q:Rat} (h:Qs k q):Qs k (-q):=by
 refine ⟨?_,?_⟩
 ·have:=h.1;unfold Zs at this ⊢
  rwa [Rat.neg_num,Zdb]
 ·rw [Rat.neg_den];exact h.2
theorem zvz {va vb:AV} {a b:Rat} {k:Nat} (hva:jU va a) (hvb:jU vb b) (hk:k<=40000) (ha:Qs k a) (hb:Qs k b):Pure Tryz.prog B 264 [va,vb] (fun v=>jU v (a-b)):=by
 have sO:=hva;have rH:=hvb;obtain ⟨s,w,s',w',rfl,i1,i2⟩:=hva;obtain ⟨t,u,t',u',rfl,j1,j2⟩:=hvb;refine yC fun h nx K H0 hK=>zQ zW yX 100 fun hf => ?_;rw [fD.go,fD.t3,zA,fD.jk];refine H0.box (l:=[s,w,s',w']) rfl fun pa h1 nx1 H1 => ?_;refine H1.box (l:=[t,u,t',u']) rfl fun pb h2 nx2 H2 => ?_;refine H2.alloc fun p h3 nx3 H3 => ?_;rw [zA,fD.ji,H3.zx (k:=2) (n:=4) rfl rfl,H3.zx (k:=1) (n:=4) rfl rfl];refine zks rH _ _ _ _ ?_;intro v1 hv1 _;rw [H3.zx (k:=2) (n:=4) rfl rfl,zG];refine zi2 sO hv1 hk ha hb.neg _ _ _ _ ?_;rintro _ ⟨s3,w3,s4,w4,rfl,i3,i4⟩ _;refine H3.jb (l2:=[s3,w3,s4,w4]) (k:=0) rfl rfl rfl fun h4 H4 => ?_;simp only [zK,zR];rw [fD.ret,H4.zx (k:=0) (n:=4) rfl rfl];rw [<- Rat.sub_eq_add_neg] at i3 i4;exact hK _ _ _ _ _ H4 (rU (i3.oD i4)) ⟨_,_,_,_,rfl,i3,i4⟩
theorem Qs.inv {k:Nat} {q:Rat} (h:Qs k q) (hk:1<=k):Qs k q⁻¹:=by
 have h1:(q⁻¹).num.natAbs<=q.den/\(q⁻¹).den<=max 1 q.num.natAbs:=by
  rw [Rat.inv_def];by_cases c:q.num=0
  ·rw [c];have e:Rat.divInt (q.den:Int) 0=0:=by simp
   rw [e];exact ⟨by simp,by simp⟩
  ·refine ⟨?_,?_⟩
   ·rw [Rat.num_divInt];refine Zbi (Int.natAbs_ediv_le_natAbs _ _) ?_;rw [Zem,Int.natAbs_sign_of_ne_zero c,Zbs,Zcm];exact Zaf _
   ·rw [Rat.den_divInt,if_neg c];refine Zbi (Zdd _ _) ?_;omega
 have h2:1<18446744073709551616 ^ k:=Nat.one_lt_pow (by omega) (by decide);obtain ⟨a,b⟩:=h;refine ⟨?_,?_⟩
 ·unfold Zs at b ⊢;rw [Zcm] at b;omega
 ·unfold Zs at a ⊢;rw [Zcm];omega
theorem zsj {va vb:AV} {a b:Rat} {k:Nat} (hva:jU va a) (hvb:jU vb b) (hk:k<=40000) (hk1:1<=k) (ha:Qs k a) (hb:Qs k b) (h0:b≠0):Pure Tryz.prog B 92 [va,vb] (fun v=>jU v (a / b)):=by
 have sO:=hva;have rH:=hvb;obtain ⟨s,w,s',w',rfl,i1,i2⟩:=hva;obtain ⟨t,u,t',u',rfl,j1,j2⟩:=hvb;refine yC fun h nx K H0 hK=>zQ zW yX 100 fun hf => ?_;rw [F92.go,F92.t3,zA,F92.jk];refine H0.box (l:=[s,w,s',w']) rfl fun pa h1 nx1 H1 => ?_;refine H1.box (l:=[t,u,t',u']) rfl fun pb h2 nx2 H2 => ?_;refine H2.alloc fun p h3 nx3 H3 => ?_;rw [zA,F92.ji,H3.zx (k:=2) (n:=4) rfl rfl,H3.zx (k:=1) (n:=4) rfl rfl];refine zkt rH (show k<=90000 by omega) hb h0 _ _ _ _ ?_;intro v1 hv1 _;rw [H3.zx (k:=2) (n:=4) rfl rfl,zG];refine zen sO hv1 hk ha (hb.inv hk1) _ _ _ _ ?_;rintro _ ⟨s3,w3,s4,w4,rfl,i3,i4⟩ _;refine H3.jb (l2:=[s3,w3,s4,w4]) (k:=0) rfl rfl rfl fun h4 H4 => ?_;simp only [zK,zR];rw [F92.ret,H4.zx (k:=0) (n:=4) rfl rfl];rw [<- Zff] at i3 i4;exact hK _ _ _ _ _ H4 (rU (i3.oD i4)) ⟨_,_,_,_,rfl,i3,i4⟩
theorem zv0 {va vb:AV} {a b:Rat} {k:Nat} (hva:jU va a) (hvb:jU vb b) (hk:k<=40000) (ha:Qs k a) (hb:Qs k b):Pure Tryz.prog B 196 [va,vb] (· = I (tu (a.num*(b.den:Int)-b.num*(a.den:Int)))):=by
 obtain ⟨s,w,s',w',rfl,i1,i2⟩:=hva;obtain ⟨t,u,t',u',rfl,j1,j2⟩:=hvb;refine yC fun h nx K H0 hK=>zQ zW yX 100 fun hf => ?_;rw [fE.go,fE.t3,zA,fE.jk];refine H0.box (l:=[s,w,s',w']) rfl fun pa h1 nx1 H1 => ?_;refine H1.box (l:=[t,u,t',u']) rfl fun pb h3 nx3 H3 => ?_;have an:∀ op:AV->OP,zD 2 (.ptr pa (0+0)) h3 op=op (.agg [s,w]):=fun op=>H3.qc (k:=1) rfl (by simp) rfl;have ad:∀ op:AV->OP,zD 2 (.ptr pa (0+2)) h3 op=op (.agg [s',w']):=fun op=>H3.qc (k:=1) rfl (by simp) rfl;have bn:∀ op:AV->OP,zD 2 (.ptr pb (0+0)) h3 op=op (.agg [t,u]):=fun op=>H3.qc (k:=0) rfl (by simp) rfl;have bd:∀ op:AV->OP,zD 2 (.ptr pb (0+2)) h3 op=op (.agg [t',u']):=fun op=>H3.qc (k:=0) rfl (by simp) rfl;rw [zA,fE.ji,sFx,an,sFx,bd,sFx,bn,sFx,ad];refine pC ⟨_,_,rfl,i1⟩ ⟨_,_,rfl,j2⟩ (show k<=90000 by omega) ha.1 hb.2 _ _ _ _ ?_;intro v1 hv1 _;rw [ad,zG,sFx,zG,bn,zG,sFx,zG];refine pC ⟨_,_,rfl,j1⟩ ⟨_,_,rfl,i2⟩ (show k<=90000 by omega) hb.1 ha.2 _ _ _ _ ?_;intro v2 hv2 _;refine qah hv1 hv2 (show k+k<=90000 by omega) (ha.1.mul hb.2) (hb.1.mul ha.2) _ _ _ _ ?_;rintro _ rfl _;simp only [zK,zR];rw [fE.ret];exact hK _ _ _ _ _ H3 (yB rfl) rfl
theorem zv1 {va vb:AV} {a b:Rat} {k:Nat} (hva:jU va a) (hvb:jU vb b) (hk:k<=40000) (ha:Qs k a) (hb:Qs k b):Pure Tryz.prog B 95 [va,vb] (· = .bool (decide (a=b))):=by
 have sO:=hva;have rH:=hvb;obtain ⟨s,w,s',w',rfl,i1,i2⟩:=hva;obtain ⟨t,u,t',u',rfl,j1,j2⟩:=hvb;refine yC fun h nx K H0 hK=>zQ zW yX 100 fun hf => ?_;rw [F95.go,F95.t3,zA,F95.jk];refine H0.box (l:=[s,w,s',w']) rfl fun pa h1 nx1 H1 => ?_;refine H1.box (l:=[t,u,t',u']) rfl fun pb h3 nx3 H3 => ?_;rw [zA,F95.ji,H3.zx (k:=1) (n:=4) rfl rfl,H3.zx (k:=0) (n:=4) rfl rfl];refine zv0 sO rH hk ha hb _ _ _ _ ?_;rintro _ rfl _;rw [dm];simp only [zK,zR];rw [F95.ret];refine hK _ _ _ _ _ H3 (yB rfl) ?_
 congr 1
 refine decide_eq_decide.2 ?_;rw [zi1 a b,fV];constructor <;> intro <;> omega
theorem zsk {v:AV} {q:Rat} {k:Nat} (hv:jU v q) (hk:k<=90000) (hq:Qs k q):Pure Tryz.prog B 97 [v] (fun v=>bY v (q.num / (q.den:Int))):=by
 obtain ⟨s,w,s',w',rfl,i1,i2⟩:=hv;refine yC fun h nx K H0 hK=>zQ zW yX 100 fun hf => ?_;rw [F97.go,F97.t5,zA,F97.jk];refine H0.box (l:=[s,w,s',w']) rfl fun pa h1 nx1 H1 => ?_;refine H1.alloc fun p h2 nx2 H2 => ?_;have ln:∀ op:AV->OP,zD 2 (.ptr pa (0+0)) h2 op=op (.agg [s,w]):=fun op=>H2.qc (k:=1) rfl (by simp) rfl;have ld:∀ op:AV->OP,zD 2 (.ptr pa (0+2)) h2 op=op (.agg [s',w']):=fun op=>H2.qc (k:=1) rfl (by simp) rfl;rw [zA,F97.ji,sFx,ln,sFx,ld];refine m6 ⟨_,_,rfl,i1⟩ ⟨_,_,rfl,i2⟩ hk hq.1 hq.2 (by have:=q.den_pos;omega) _ _ _ _ ?_;rintro _ ⟨v1,v2,rfl,⟨s3,w3,rfl,i3⟩,⟨s4,w4,rfl,i4⟩⟩ _;rw [yJ,yH];refine H2.alloc fun p1 h6 nx6 H6 => ?_;refine H6.alloc fun q1 h7 nx7 H7 => ?_;refine H7.jb (l2:=[s3,w3]) (k:=1) rfl rfl rfl fun h8 H8 => ?_;refine H8.jb (l2:=[s4,w4]) (k:=0) rfl rfl rfl fun h9 H9 => ?_;rw [zA,F97.qh,H9.zx (k:=1) (n:=2) rfl rfl];refine H9.jb (l2:=[s3,w3]) (k:=2) rfl rfl rfl fun h10 H10 => ?_;simp only [zK,zR];rw [F97.ret,H10.zx (k:=2) (n:=2) rfl rfl];exact hK _ _ _ _ _ H10 (rU i3.fix) ⟨_,_,rfl,i3⟩
end Go.Ev
