import Derived.Test.YtdclaaahnodljaaGreatDoorWordsb
import Derived.Test.YtdclaaahnodljaaGreatDoorEvD
import Derived.KernelRfl
import Derived.Test.YtdclaaahnodljaaGreatDoorCodeb
set_option linter.unusedSimpArgs false
set_option linter.unusedVariables false
namespace Go.Ev
open Go Go.Proofs
set_option maxRecDepth 100000
def dihB (n k:Nat):Bool :=
 vU (n*n) (dS n k).1 && !(dS n k).2&&((List.range (n*n)).map (sQ (dS n k).1)).isPerm (List.range (n*n)) &&
 ((List.range 3).all fun i=>wP (sqL i n) (n*n) (dS n k).1&&linB (sqL i n) (dS n k).1)&&wP (ascL n) (n*n) (dS n k).1 &&
 (decide (n%2=1)||(wP (blkL n) (n*n) (dS n k).1&&wP (halL n) (n*n) (dS n k).1)) &&
 (decide (n<3)||(List.range ((n-2)*(n-2))).all fun j=>decide (sQ (dS n k).1 (iota n j)=iota n (sQ (dS (n-2) k).1 j)))
theorem zmw:((List.range 5).all fun n=>(List.range 8).all fun k=>dihB (n+1) k)=true:=by decide +kernel
structure zdv (n k:Nat):Prop where
 pm:vU (n*n) (dS n k).1=true
 cp:(dS n k).2=false
 rp:((List.range (n*n)).map (sQ (dS n k).1)).Perm (List.range (n*n))
 sq:∀ i,i<3->wP (sqL i n) (n*n) (dS n k).1=true/\linB (sqL i n) (dS n k).1=true
 asc:wP (ascL n) (n*n) (dS n k).1=true
 blk:¬ n%2=1->wP (blkL n) (n*n) (dS n k).1=true/\wP (halL n) (n*n) (dS n k).1=true
 inn:3<=n->∀ j,j<(n-2)*(n-2)->sQ (dS n k).1 (iota n j)=iota n (sQ (dS (n-2) k).1 j)
theorem bU {n k:Nat} (h1:1<=n) (h5:n<=5) (hk:k<8):zdv n k:=by
 have h:=List.all_eq_true.1 (List.all_eq_true.1 zmw (n-1) (List.mem_range.2 (by omega))) k (List.mem_range.2 hk);rw [show n-1+1=n by omega] at h;simp only [dihB,Zad,Zbq,decide_eq_true_eq,Zae,Zao] at h;obtain ⟨⟨⟨⟨⟨⟨a1,a2⟩,a3⟩,a4⟩,a5⟩,a6⟩,a7⟩:=h;exact ⟨a1,by simpa using a2,List.isPerm_iff.1 a3,a4,a5,fun q=>a6.resolve_left q,fun q j hj=>(a7.resolve_left (by omega)) j hj⟩
abbrev srcD (n k:Nat):Nat->Nat:=sQ (dS n k).1
theorem zkz {n k i:Nat} (D:zdv n k) (hi:i<n*n):srcD n k i<n*n:=by
 have hp:=D.pm;simp only [vU,Zad,decide_eq_true_eq,Zae,Zao] at hp;exact (hp.2 i hi).1.1.1
theorem zq6 {n k:Nat} {f:List Int} (D:zdv n k) (hf:f.length=n*n):sqF (pull (n*n) (srcD n k) f)=pull (n*n) (srcD n k) (sqF f):=by
 rw [sqF,pull,pull,Zca];refine Zbo fun i hi => ?_;have:=zkz D (List.mem_range.1 hi);rw [cO (by omega)];rfl
theorem zhi {k:Nat}:∀ (u n:Nat) (f:List Int),(∀ m,1<=m->m<=n->zdv m k)->1<=n->f.length=n*n->brd u n (pull (n*n) (srcD n k) f)=brd u n f
 | 0,_,_,_,_,_=>rfl
 | u+1,n,f,ht,hn,hf=>by
  rw [brd,brd];by_cases c:n<3
  ·rw [if_pos c,if_pos c]
  rw [if_neg c,if_neg c];have T:=ht n hn (Zai _);have T':=ht (n-2) (by omega) (by omega);have e1:mg 1 n (pull (n*n) (srcD n k) f)=mg 1 n f:=fP (by rw [qS,qS];exact wV T.pm (T.sq 1 (by omega)).1 hf);have e2:kW n (pull (n*n) (srcD n k) f)=pull ((n-2)*(n-2)) (srcD (n-2) k) (kW n f):=by
   rw [kI (kT ..) (by omega),kI hf (by omega),zdp fun j hj=>zks (by omega) hj,zdp]
   ·exact zjc fun j hj=>T.inn (by omega) j hj
   ·intro j hj;exact zkz T' hj
  rw [e1,e2,zhi u (n-2) (kW n f) (fun m h1 h2=>ht m h1 (by omega)) (by omega) (by rw [kI hf (by omega),kT])]
theorem zq7 {n k:Nat} {f:List Int} (ht:∀ m,1<=m->m<=n->zdv m k) (hn:1<=n) (hf:f.length=n*n):prsT n (pull (n*n) (srcD n k) f)=prsT n f:=by
 have T:=ht n hn (Zai _);refine zkt hn hf (kT ..) (fun i hi=>wV T.pm (T.sq i hi).1 hf) (wV T.pm T.asc hf) (fun q=>⟨wV T.pm (T.blk q).1 hf,wV T.pm (T.blk q).2 hf⟩) ?_ fun _ => ?_
 ·rw [bord,bord,zhi n n f ht hn hf]
 ·rw [zq6 T hf];exact wV T.pm (T.sq 1 (by omega)).1 (by simp [sqF,hf])
theorem dX {n k:Nat} {f:List Int} (D:zdv n k) (hf:f.length=n*n):(pull (n*n) (srcD n k) f).Perm f:=by
 have e:f=(List.range (n*n)).map fun i=>f.getD i 0:=by
  refine Zau fun i => ?_;by_cases hi:i<n*n
  ·rw [List.getElem?_map,List.getElem?_range hi,List.getElem?_eq_getElem (by omega)];show _=some (f.getD i 0);rw [Zaa,List.getElem?_eq_getElem (by omega)];rfl
  ·rw [List.getElem?_eq_none (by omega),List.getElem?_eq_none (by simp;omega)]
 have h2:=D.rp.map fun i=>f.getD i 0;rw [Zca] at h2;rw [<- e] at h2;exact h2
theorem zvf (l:List Int):(srt l).Pairwise (· <= ·) :=
 (List.pairwise_mergeSort (le:=fun x y:Int=>decide (x<=y)) (by intro a b c;simp;omega) (by intro a b;simp;omega) l).imp (by intro a b h;simpa using h)
theorem zq8 {f g:List Int} (h:f.Perm g):nrm f=nrm g:=by
 rw [nrm,nrm,h.length_eq];refine fP ?_;rw [decide_eq_true_eq,decide_eq_true_eq];have e:srt f=srt g:=pM ((wH f).trans h) (zvf f);rw [e]
theorem zhj {n k:Nat} {f:List Int} (h1:1<=n) (h5:n<=5) (hk:k<8) (hf:f.length=n*n):aW n (pull (n*n) (srcD n k) f)=aW n f:=by
 have e1:=zq8 (dX (bU h1 h5 hk) hf);have e2:=zq7 (fun m m1 m2=>bU m1 (by omega) hk) h1 hf;rw [prsT,prsT] at e2;rw [aW,aW,prs,prs,e1];rw [show ∀ (b:Bool) (l m:List Bool),l=m->b::l=b::m from fun _ _ _ h=>by rw [h]];exact e2
def negL (c:Int) (f:List Int):List Int:=f.map fun y=>c-y
theorem mQ {c:Int} {f:List Int} {i:Nat} (h:i<f.length):(negL c f).getD i 0=c-f.getD i 0:=by
 rw [Zaa,Zaa,negL,List.getElem?_map,List.getElem?_eq_getElem h];rfl
theorem zdw {c:Int} {f:List Int}:∀ {l:List Int},(∀ x∈l,0<=x/\x<(f.length:Int))->yL l (negL c f)=(l.length:Int)*c-yL l f
 | [],_=>by simp [yL]
 | x::l,h=>by
  have hc:=h x (by simp);rw [wN,wN,mQ (by omega),zdw fun d hd=>h d (by simp [hd]),Zbr,Int.natCast_add,Int.add_mul];omega
theorem cF {c:Int} {f:List Int}:∀ {l:List Int},(∀ x∈l,0<=x/\x<(f.length:Int))->yL l (sqF (negL c f))=yL l (sqF f)-2*c*yL l f+(l.length:Int)*(c*c)
 | [],_=>by simp [yL]
 | x::l,h=>by
  have hc:=h x (by simp);have hl:(negL c f).length=f.length:=by simp [negL]
  rw [wN,wN,wN,cO (by omega),cO (by omega),mQ (by omega),cF fun d hd=>h d (by simp [hd]),Zbr,show (((l.length+1:Nat):Int))*(c*c)=(l.length:Int)*(c*c)+c*c by rw [Int.natCast_add,Int.add_mul];simp]
  generalize f.getD x.toNat 0=y
  generalize yL l f=s
  generalize (l.length:Int)*(c*c)=q
  generalize yL l (sqF f)=p
  have e1:(c-y)*(c-y)=y*y-2*c*y+c*c:=by
   rw [Int.sub_mul,Int.mul_sub,Int.mul_sub,Int.mul_comm y c,Int.mul_assoc 2 c y];omega
  have e2:2*c*(y+s)=2*c*y+2*c*s:=Int.mul_add ..;rw [e1,e2];omega
theorem m5 {L:List (List Int)} {N w:Nat} {c:Int} {f:List Int} (hu:uniB L N w=true) (hf:f.length=N):Cst L (negL c f)↔Cst L f:=by
 have key:∀ l∈L,yL l (negL c f)=(w:Int)*c-yL l f:=fun l hl=>by
  obtain ⟨h1,h2⟩:=zqw hu l hl;rw [zdw (by rw [hf];exact h2),h1]
 constructor
 ·intro h l hl l' hl';have:=h l hl l' hl';rw [key l hl,key l' hl'] at this;omega
 ·intro h l hl l' hl';rw [key l hl,key l' hl',h l hl l' hl']
theorem zmx {L:List (List Int)} {N w:Nat} {c:Int} {f:List Int} (hu:uniB L N w=true) (hf:f.length=N) (hc:Cst L f):Cst L (sqF (negL c f))↔Cst L (sqF f):=by
 have key:∀ l∈L,yL l (sqF (negL c f))=yL l (sqF f)-2*c*yL l f+(w:Int)*(c*c):=fun l hl=>by
  obtain ⟨h1,h2⟩:=zqw hu l hl;rw [cF (by rw [hf];exact h2),h1]
 constructor
 ·intro h l hl l' hl';have:=h l hl l' hl';rw [key l hl,key l' hl',hc l hl l' hl'] at this;omega
 ·intro h l hl l' hl';rw [key l hl,key l' hl',h l hl l' hl',hc l hl l' hl']
theorem zq9 {M N:Nat} {s:Nat->Nat} {c:Int} {f:List Int} (hf:f.length=N) (h:∀ j,j<M->s j<N):pull M s (negL c f)=negL c (pull M s f):=by
 have e:negL c (pull M s f)=(List.range M).map fun i=>c-f.getD (s i) 0:=by rw [negL,pull,Zca];rfl
 rw [e,pull];refine Zbo fun j hj => ?_;exact mQ (by rw [hf];exact h j (List.mem_range.1 hj))
theorem zk0 {c:Int}:∀ (k n:Nat) (f:List Int),(∀ m,1<=m->m<=n->zqx m)->1<=n->f.length=n*n->brd k n (negL c f)=brd k n f
 | 0,_,_,_,_,_=>rfl
 | k+1,n,f,hu,hn,hf=>by
  rw [brd,brd];by_cases h:n<3
  ·rw [if_pos h,if_pos h]
  rw [if_neg h,if_neg h];have U:=hu n hn (Zai _);have e1:mg 1 n (negL c f)=mg 1 n f:=fP (by rw [qS,qS];exact m5 (U.sq 1 (by omega)) hf);have e2:kW n (negL c f)=negL c (kW n f):=by
   rw [kI (by simp [negL,hf]) (by omega),kI hf (by omega),zq9 hf fun j hj=>zks (by omega) hj]
  rw [e1,e2,zk0 k (n-2) (kW n f) (fun m h1 h2=>hu m h1 (by omega)) (by omega) (by rw [kI hf (by omega),kT])]
theorem zvg {c:Int} {n:Nat} {f:List Int} (hu:∀ m,1<=m->m<=n->zqx m) (hn:1<=n) (hf:f.length=n*n):prsT n (negL c f)=prsT n f:=by
 have U:=hu n hn (Zai _);refine zkt hn hf (by simp [negL,hf]) (fun k hk=>m5 (U.sq k hk) hf) (m5 U.asc hf) (fun _=>⟨m5 U.blk hf,m5 U.hal hf⟩) ?_ fun hc=>zmx (U.sq 1 (by omega)) hf hc;rw [bord,bord,zk0 n n f hu hn hf]
theorem zk1 {f:List Int} (h:nrm f=true):nrm (negL ((f.length:Int)+1) f)=true:=by
 have hN:=(mO f).1 (of_decide_eq_true h);have hl:(negL ((f.length:Int)+1) f).length=f.length:=by simp [negL]
 refine decide_eq_true ((mO _).2 ⟨?_,fun x hx => ?_⟩)
 ·rw [List.Nodup,negL,Zbp];exact hN.1.imp fun h e=>h (by omega)
 ·rw [hl];obtain ⟨y,hy,rfl⟩:=List.mem_map.1 hx;have:=hN.2 y hy;omega
theorem zvh {n:Nat} {f:List Int} (h1:1<=n) (h5:n<=5) (hf:f.length=n*n) (h:nrm f=true):aW n (negL ((f.length:Int)+1) f)=aW n f:=by
 have e1:=zk1 h;have e2:=zvg (c:=(f.length:Int)+1) (fun m m1 m2=>zu3 m1 (by omega)) h1 hf;rw [prsT,prsT] at e2;rw [aW,aW,prs,prs,e1,h];rw [show ∀ (b:Bool) (l m:List Bool),l=m->b::l=b::m from fun _ _ _ h=>by rw [h]];exact e2
def noSd (_:Nat):Bool:=false
def dgN:Nat->List Sym
 | 1=>[([0],false)]
 | 2=>[([0,1,2,3],false),([0,2,1,3],false),([1,0,3,2],false),([1,3,0,2],false),([2,0,3,1],false),([2,3,0,1],false),([3,1,2,0],false),([3,2,1,0],false)]
 | 3=>[([0,1,2,3,4,5,6,7,8],false),([0,3,6,1,4,7,2,5,8],false),([2,1,0,5,4,3,8,7,6],false),([2,5,8,1,4,7,0,3,6],false),([6,3,0,7,4,1,8,5,2],false),([6,7,8,3,4,5,0,1,2],false),([8,5,2,7,4,1,6,3,0],false),([8,7,6,5,4,3,2,1,0],false)]
 | 4=>[([0,1,2,3,4,5,6,7,8,9,10,11,12,13,14,15],false),([0,4,8,12,1,5,9,13,2,6,10,14,3,7,11,15],false),([3,2,1,0,7,6,5,4,11,10,9,8,15,14,13,12],false),([3,7,11,15,2,6,10,14,1,5,9,13,0,4,8,12],false),([12,8,4,0,13,9,5,1,14,10,6,2,15,11,7,3],false),([12,13,14,15,8,9,10,11,4,5,6,7,0,1,2,3],false),([15,11,7,3,14,10,6,2,13,9,5,1,12,8,4,0],false),([15,14,13,12,11,10,9,8,7,6,5,4,3,2,1,0],false)]
 | 5=>[([0,1,2,3,4,5,6,7,8,9,10,11,12,13,14,15,16,17,18,19,20,21,22,23,24],false),([0,5,10,15,20,1,6,11,16,21,2,7,12,17,22,3,8,13,18,23,4,9,14,19,24],false),([4,3,2,1,0,9,8,7,6,5,14,13,12,11,10,19,18,17,16,15,24,23,22,21,20],false),([4,9,14,19,24,3,8,13,18,23,2,7,12,17,22,1,6,11,16,21,0,5,10,15,20],false),([20,15,10,5,0,21,16,11,6,1,22,17,12,7,2,23,18,13,8,3,24,19,14,9,4],false),([20,21,22,23,24,15,16,17,18,19,10,11,12,13,14,5,6,7,8,9,0,1,2,3,4],false),([24,19,14,9,4,23,18,13,8,3,22,17,12,7,2,21,16,11,6,1,20,15,10,5,0],false),([24,23,22,21,20,19,18,17,16,15,14,13,12,11,10,9,8,7,6,5,4,3,2,1,0],false)]
 | _=>[]
theorem qc7 {B:Nat}:Pure Tryz.prog B 19 [I 1] (· = .tup [vw (dgN 1),I 0]) :=
 jQ (S:=noSd) (J:=wM) (fuel:=1000) (n:=60) zR mixed (fun _=>uQ) (by kernel_rfl) (by kernel_rfl)
theorem qc8 {B:Nat}:Pure Tryz.prog B 19 [I 2] (· = .tup [vw (dgN 2),I 0]) :=
 jQ (S:=noSd) (J:=wM) (fuel:=1000) (n:=60) zR mixed (fun _=>uQ) (by kernel_rfl) (by kernel_rfl)
theorem zwm {B:Nat}:Pure Tryz.prog B 19 [I 3] (· = .tup [vw (dgN 3),I 0]) :=
 jQ (S:=noSd) (J:=wM) (fuel:=1000) (n:=60) zR mixed (fun _=>uQ) (by kernel_rfl) (by kernel_rfl)
theorem qc9 {B:Nat}:Pure Tryz.prog B 19 [I 4] (· = .tup [vw (dgN 4),I 0]) :=
 jQ (S:=noSd) (J:=wM) (fuel:=1000) (n:=60) zR mixed (fun _=>uQ) (by kernel_rfl) (by kernel_rfl)
theorem qda {B:Nat}:Pure Tryz.prog B 19 [I 5] (· = .tup [vw (dgN 5),I 0]) :=
 jQ (S:=noSd) (J:=wM) (fuel:=1000) (n:=60) zR mixed (fun _=>uQ) (by kernel_rfl) (by kernel_rfl)
theorem qdb {B n:Nat} (h1:1<=n) (h5:n<=5):Pure Tryz.prog B 19 [I n] (· = .tup [vw (dgN n),I 0]):=by
 match n,h1,h5 with
 | 1,_,_=>exact qc7
 | 2,_,_=>exact qc8
 | 3,_,_=>exact zwm
 | 4,_,_=>exact qc9
 | 5,_,_=>exact qda
noncomputable def isR (o:Out AV) (r:AV):Bool:=match o with
 | .ok v=>oO v r
 | .no _=>false
theorem zra {o:Out AV} {r:AV} (h:isR o r=true):o=.ok r:=by
 cases o with
 | no n=>cases h
 | ok v=>rw [xF h]
noncomputable abbrev kS1 (n k:Nat):AV:=.agg [I ((n*n:Nat):Int),sW (sqL k n)]
noncomputable abbrev kArg (n k:Nat) (s:Sym):List AV:=[kS1 n k,.agg [encI s.1,.bool s.2]]
noncomputable def c73 (n k:Nat):Bool:=nns [kS1 n k]&&isR ((wW noSd wM tbl 1000 60).fn 73 (.of 73) [kS1 n k] .e .z endG) (I 0)
noncomputable def kM (n k f:Nat):List (List AV×AV):=bif Nat.beq f 73 then ([kS1 n k],I 0)::[] else []
noncomputable def kR (n k i:Nat):Bool:=nns (kArg n k ((dgN n).getD i ([],false)))&&isR ((wW noSd (zfy (kM n k) wM) tbl 1000 60).fn 27 (.of 27) (kArg n k ((dgN n).getD i ([],false))) .e .z endG) (.tup [.bool true,I 0])
theorem zvi:c73 1 0=true:=by kernel_rfl
theorem zvj:c73 1 1=true:=by kernel_rfl
theorem zvk:c73 1 2=true:=by kernel_rfl
theorem zvl:c73 2 0=true:=by kernel_rfl
theorem zvm:c73 2 1=true:=by kernel_rfl
theorem zvn:c73 2 2=true:=by kernel_rfl
theorem zvo:c73 3 0=true:=by kernel_rfl
theorem zvp:c73 3 1=true:=by kernel_rfl
theorem zvq:c73 3 2=true:=by kernel_rfl
theorem zvr:c73 4 0=true:=by kernel_rfl
theorem zvs:c73 4 1=true:=by kernel_rfl
theorem zvt:c73 4 2=true:=by kernel_rfl
theorem zvu:c73 5 0=true:=by kernel_rfl
theorem zvv:c73 5 1=true:=by kernel_rfl
theorem zvw:c73 5 2=true:=by kernel_rfl
theorem zzi {n k:Nat} (h1:1<=n) (h5:n<=5) (hk:k<3):c73 n k=true:=by
 match n,h1,h5,k,hk with
 | 1,_,_,0,_=>exact zvi
 | 1,_,_,1,_=>exact zvj
 | 1,_,_,2,_=>exact zvk
 | 2,_,_,0,_=>exact zvl
 | 2,_,_,1,_=>exact zvm
 | 2,_,_,2,_=>exact zvn
 | 3,_,_,0,_=>exact zvo
 | 3,_,_,1,_=>exact zvp
 | 3,_,_,2,_=>exact zvq
 | 4,_,_,0,_=>exact zvr
 | 4,_,_,1,_=>exact zvs
 | 4,_,_,2,_=>exact zvt
 | 5,_,_,0,_=>exact zvu
 | 5,_,_,1,_=>exact zvv
 | 5,_,_,2,_=>exact zvw
theorem qdc {n k:Nat} (h1:1<=n) (h5:n<=5) (hk:k<3) (f:Nat):qU Tryz.prog f (kM n k f):=by
 unfold kM;cases q:Nat.beq f 73 with
 | false=>exact fun _ h=>by cases h
 | true =>
  obtain rfl:=yI q;refine List.forall_mem_cons.2 ⟨fun B => ?_,fun _ h=>by cases h⟩;have h:=zzi h1 h5 hk;rw [c73,Zad] at h;exact jQ (S:=noSd) (J:=wM) (fuel:=1000) (n:=60) zR mixed (fun _=>uQ) h.1 (zra h.2)
end Go.Ev
namespace Go.Ev
open Go Go.Proofs
variable {B:Nat}
set_option maxRecDepth 100000
theorem zrb {a b:List (List UInt8)} (ha:a.length<=1000):Pure Tryz.prog B 25 [cM a,cM b] (· = .bool (decide (a=b))):=by
 refine yE fun h nx K H0 hK=>zP zR yh 10000 fun hf => ?_;rw [F25.go,F25.t28,zC,F25.rM,F25.t27,zC,F25.t5,zC,F25.rP,zO,zO,qm];by_cases cl:a.length=b.length
 case neg =>
  rw [decide_eq_false (by omega),Zag,F25.t4,yA,F25.v4,zH,F25.t3,zC,F25.rF];simp only [yB,yO];rw [F25.ret];exact hK _ _ _ _ _ H0 (zL rfl) (by rw [decide_eq_false (fun e=>cl (by rw [e]))])
 rw [decide_eq_true (by omega),Zaf,F25.t4,yA,F25.v4,zJ,yH,F25.t26,zC,F25.t23,zC,F25.aJ,zO,F25.t22,jH];refine F25.qab (fun m x6 h' nx'=>∃ i:Nat,x6=I i/\m=a.length-i/\i<=a.length/\h'=h/\nx'=nx/\a.take i=b.take i) (m:=a.length) (by omega) ⟨0,rfl,by omega,by omega,rfl,rfl,by simp⟩ ?_;rintro m z2 z3 z6 z7 z8 h nx R ⟨i,rfl,rfl,hi,rfl,rfl,hn⟩ hR;rw [F25.t20,zC,F25.t7_s,jl];by_cases hlt:i<a.length
 case neg =>
  rw [decide_eq_false (by omega),F25.t19,zC,F25.t8,yA,F25.v7,zJ,qG,vP,F25.t25,zC,F25.zna];rw [Zal (by omega),Zal (by omega)] at hn;simp only [yB,yO];rw [F25.ret];exact hK _ _ _ _ _ H0 (zL rfl) (by rw [decide_eq_true hn])
 have hlb:i<b.length:=by omega
 rw [decide_eq_true (by omega),F25.t19,zC,F25.t8,yA,F25.v7,zH,yH,F25.t18,zC,F25.t16,jH,F25.t15,zC,F25.t9_s,F25.t14,zC,F25.aZ,xu rfl hlt,ldL (getS hlt),xu rfl hlb,ldL (getS hlb),qcq];by_cases c:a[i]=b[i]
 ·rw [decide_eq_true c,Zaf,F25.t13,yA,F25.v8,zJ,yH,F25.oh,jk (by omega)];refine hR (a.length-(i+1)) _ _ _ _ _ _ _ (by omega) ⟨i+1,rfl,rfl,by omega,rfl,rfl,?_⟩;rw [Zan,Zan,hn,List.getElem?_eq_getElem hlt,List.getElem?_eq_getElem hlb,c]
 ·rw [decide_eq_false c,Zag,F25.t13,yA,F25.v8,zH,F25.t12,zC,F25.zau];simp only [yB,xM,yO];rw [F25.ret];exact hK _ _ _ _ _ H0 (zL rfl) (by rw [decide_eq_false (fun e=>c (by subst e;rfl))])
structure DihG (n:Nat) (S:List Sym):Prop where
 len:S.length<=8/\0<S.length
 grp:jI S ((n*n:Nat):Int)=0
 elt:∀ s∈S,∃ k,k<8/\s=dS n k
theorem zmy:((List.range 5).all fun n=>decide ((dgN (n+1)).length<=8)&&decide (0<(dgN (n+1)).length)&&decide (jI (dgN (n+1)) (((n+1)*(n+1):Nat):Int)=0)&&(dgN (n+1)).all fun s=>(List.range 8).any fun k=>decide (s=dS (n+1) k))=true:=by decide +kernel
theorem zmz {n:Nat} (h1:1<=n) (h5:n<=5):DihG n (dgN n):=by
 have t:=List.all_eq_true.1 zmy (n-1) (List.mem_range.2 (by omega));rw [show n-1+1=n by omega] at t;simp only [Zad,decide_eq_true_eq,Zae,Zbx,Zao] at t;exact ⟨⟨t.1.1.1,t.1.1.2⟩,t.1.2,t.2⟩
theorem zrd {n:Nat} {S:List Sym} {f:List Int} (D:DihG n S) (h1:1<=n) (h5:n<=5) (hf:f.length=n*n) (hfe:gY f=0) (hfar:f.any rE=false):wK S f=0:=by
 have ha:actE S f=0:=by rw [actE,if_neg (fun q=>q hfe),hf,D.grp]
 rw [wK,if_neg (fun q=>q ha)];obtain ⟨m,hm,ok⟩:=d6 D.grp;obtain rfl:m=n*n:=by omega
 have:(j9 S f).any (·.any rE)=false:=by
  refine List.any_eq_false.2 fun y hy q => ?_;obtain ⟨s,hs,rfl⟩:=List.mem_map.1 hy;obtain ⟨k,hk,rfl⟩:=D.elt s hs;have T:=bU h1 h5 hk;obtain ⟨x,hx,e⟩:=List.any_eq_true.1 q;rw [T.cp,mA T.pm (ok.dp _ hs) hf] at hx;exact List.any_eq_false.1 hfar x ((dX T hf).mem_iff.1 hx) e
 rw [this];rfl
theorem zm0 {N:Nat} {p f:List Int} (hp:vU N p=true) (hd:DP N (p,true)) (hf:f.length=N):yG true p f=pull N (sQ p) (negL ((N:Int)+1) f):=by
 simp only [vU,Zad,decide_eq_true_eq,Zae,Zao] at hp;obtain ⟨⟨p1,p2⟩,p3⟩:=hp;have hal:(yG true p f).length=f.length:=gL ..;refine Zau fun i => ?_;by_cases hi:i<N
 ·obtain ⟨⟨⟨q1,q2⟩,q3⟩,q4⟩:=p3 i hi;have e:=wD (a:=(p,true)) hd hf q1;have e2:(p,true).1.getD (sQ p i) 0=(i:Int):=by
   have:(p.getD (sQ p i) 0).toNat=i:=q4;have hm:p.getD (sQ p i) 0∈p:=by
    rw [Zaa,List.getElem?_eq_getElem (by omega)];exact Zak _
   have:=p2 _ hm;show p.getD (sQ p i) 0=_;omega
  rw [e2,Int.toNat_natCast] at e;rw [pull,List.getElem?_map,List.getElem?_range hi];show (yG (p,true).2 (p,true).1 f)[i]? = some ((negL ((N:Int)+1) f).getD (sQ p i) 0);rw [e,mQ (by omega)];rfl
 ·rw [List.getElem?_eq_none (by omega),List.getElem?_eq_none (by rw [kT];omega)]
theorem zre {n:Nat} {f:List Int}:decide (mU∈aW n f)=nrm f:=by
 have h:∀ b0 b1 b2 b3 b4 b5 b6 b7:Bool,decide (mU∈kf knm [b0,b1,b2,b3,b4,b5,b6,b7])=b0:=by decide +kernel
 exact h _ _ _ _ _ _ _ _
theorem zm1 {n k:Nat} {s:Sym} {f:List Int} (h1:1<=n) (h5:n<=5) (hk:k<8) (hs:s=dS n k) (hd:DP (n*n) s) (hf:f.length=n*n) (hfe:gY f=0) (he:jT n n f=0):Moved n [0,1,2] s f:=by
 subst hs;have T:=bU h1 h5 hk;refine moved h1 h5 (by decide) ?_ hd.1 hd.2 hf hfe he;rw [T.cp,moveB,T.pm];have a:=T.sq 0 (by omega);have b:=T.sq 1 (by omega);have c:=T.sq 2 (by omega);simp [a.1,a.2,b.1,b.2,c.1,c.2]
theorem zrf {f:List Int} (h:gY f=0):f.any rE=false:=by
 rw [gY] at h;by_cases c:256<f.length
 ·rw [if_pos c] at h;cases h
 ·rw [if_neg c,uJ] at h;cases q:f.any rE with
  | false=>rfl
  | true=>rw [q] at h;cases h
end Go.Ev
namespace Go.Ev
open Go Go.Proofs
set_option maxRecDepth 100000
theorem all8 {f:Nat->Bool} (a:f 0=true) (b:f 1=true) (c:f 2=true) (d:f 3=true) (e:f 4=true) (g:f 5=true) (h:f 6=true) (i:f 7=true):(List.range 8).all f=true:=by
 show (f 0&&(f 1&&(f 2&&(f 3&&(f 4&&(f 5&&(f 6&&(f 7&&true))))))))=true;rw [a,b,c,d,e,g,h,i];rfl
theorem zzj:(List.range 1).all (kR 1 0)=true:=by kernel_rfl
theorem zzk:(List.range 1).all (kR 1 1)=true:=by kernel_rfl
theorem zzl:(List.range 1).all (kR 1 2)=true:=by kernel_rfl
theorem zzm:(List.range 8).all (kR 2 0)=true:=by kernel_rfl
theorem zzn:(List.range 8).all (kR 2 1)=true:=by kernel_rfl
theorem zzo:(List.range 8).all (kR 2 2)=true:=by kernel_rfl
theorem zzp:(List.range 8).all (kR 3 0)=true:=by kernel_rfl
theorem zzq:(List.range 8).all (kR 3 1)=true:=by kernel_rfl
theorem zzr:(List.range 8).all (kR 3 2)=true:=by kernel_rfl
theorem zrg:kR 4 0 0=true:=by kernel_rfl
theorem zrh:kR 4 0 1=true:=by kernel_rfl
theorem zri:kR 4 0 2=true:=by kernel_rfl
theorem zrj:kR 4 0 3=true:=by kernel_rfl
theorem zrk:kR 4 0 4=true:=by kernel_rfl
theorem zrl:kR 4 0 5=true:=by kernel_rfl
theorem zrm:kR 4 0 6=true:=by kernel_rfl
theorem zrn:kR 4 0 7=true:=by kernel_rfl
theorem zzs:(List.range 8).all (kR 4 0)=true:=all8 zrg zrh zri zrj zrk zrl zrm zrn
theorem zro:kR 4 1 0=true:=by kernel_rfl
theorem zrp:kR 4 1 1=true:=by kernel_rfl
theorem zrq:kR 4 1 2=true:=by kernel_rfl
theorem zrr:kR 4 1 3=true:=by kernel_rfl
theorem zrt:kR 4 1 4=true:=by kernel_rfl
theorem zru:kR 4 1 5=true:=by kernel_rfl
theorem zrv:kR 4 1 6=true:=by kernel_rfl
theorem zrx:kR 4 1 7=true:=by kernel_rfl
theorem zzt:(List.range 8).all (kR 4 1)=true:=all8 zro zrp zrq zrr zrt zru zrv zrx
theorem zry:kR 4 2 0=true:=by kernel_rfl
theorem zrz:kR 4 2 1=true:=by kernel_rfl
theorem zr0:kR 4 2 2=true:=by kernel_rfl
theorem zr1:kR 4 2 3=true:=by kernel_rfl
theorem zr2:kR 4 2 4=true:=by kernel_rfl
theorem zr3:kR 4 2 5=true:=by kernel_rfl
theorem zr4:kR 4 2 6=true:=by kernel_rfl
theorem zr5:kR 4 2 7=true:=by kernel_rfl
theorem zzu:(List.range 8).all (kR 4 2)=true:=all8 zry zrz zr0 zr1 zr2 zr3 zr4 zr5
theorem zr6:kR 5 0 0=true:=by kernel_rfl
theorem zr7:kR 5 0 1=true:=by kernel_rfl
theorem zr8:kR 5 0 2=true:=by kernel_rfl
theorem zr9:kR 5 0 3=true:=by kernel_rfl
theorem zsa:kR 5 0 4=true:=by kernel_rfl
theorem zsb:kR 5 0 5=true:=by kernel_rfl
theorem zsc:kR 5 0 6=true:=by kernel_rfl
theorem zsd:kR 5 0 7=true:=by kernel_rfl
theorem zzv:(List.range 8).all (kR 5 0)=true:=all8 zr6 zr7 zr8 zr9 zsa zsb zsc zsd
theorem zse:kR 5 1 0=true:=by kernel_rfl
theorem zsf:kR 5 1 1=true:=by kernel_rfl
theorem zsg:kR 5 1 2=true:=by kernel_rfl
theorem zsh:kR 5 1 3=true:=by kernel_rfl
theorem zsi:kR 5 1 4=true:=by kernel_rfl
theorem zsj:kR 5 1 5=true:=by kernel_rfl
theorem zsk:kR 5 1 6=true:=by kernel_rfl
theorem zsl:kR 5 1 7=true:=by kernel_rfl
theorem zzw:(List.range 8).all (kR 5 1)=true:=all8 zse zsf zsg zsh zsi zsj zsk zsl
theorem zsm:kR 5 2 0=true:=by kernel_rfl
theorem zsn:kR 5 2 1=true:=by kernel_rfl
theorem zso:kR 5 2 2=true:=by kernel_rfl
theorem zsp:kR 5 2 3=true:=by kernel_rfl
theorem zsq:kR 5 2 4=true:=by kernel_rfl
theorem zsr:kR 5 2 5=true:=by kernel_rfl
theorem zss:kR 5 2 6=true:=by kernel_rfl
theorem zst:kR 5 2 7=true:=by kernel_rfl
theorem zzx:(List.range 8).all (kR 5 2)=true:=all8 zsm zsn zso zsp zsq zsr zss zst
theorem zzy {n k:Nat} (h1:1<=n) (h5:n<=5) (hk:k<3):(List.range (dgN n).length).all (kR n k)=true:=by
 match n,h1,h5,k,hk with
 | 1,_,_,0,_=>exact zzj
 | 1,_,_,1,_=>exact zzk
 | 1,_,_,2,_=>exact zzl
 | 2,_,_,0,_=>exact zzm
 | 2,_,_,1,_=>exact zzn
 | 2,_,_,2,_=>exact zzo
 | 3,_,_,0,_=>exact zzp
 | 3,_,_,1,_=>exact zzq
 | 3,_,_,2,_=>exact zzr
 | 4,_,_,0,_=>exact zzs
 | 4,_,_,1,_=>exact zzt
 | 4,_,_,2,_=>exact zzu
 | 5,_,_,0,_=>exact zzv
 | 5,_,_,1,_=>exact zzw
 | 5,_,_,2,_=>exact zzx
theorem zvx {B n k:Nat} {s:Sym} (h1:1<=n) (h5:n<=5) (hk:k<3) (hs:s∈dgN n):Pure Tryz.prog B 27 (kArg n k s) (· = .tup [.bool true,I 0]):=by
 obtain ⟨i,hi,rfl⟩:=List.getElem_of_mem hs;have h:=List.all_eq_true.1 (zzy h1 h5 hk) i (List.mem_range.2 hi);have e:(dgN n).getD i ([],false)=(dgN n)[i]:=by rw [Zaa,List.getElem?_eq_getElem hi];rfl
 rw [kR,e,Zad] at h;exact jQ (S:=noSd) (J:=zfy (kM n k) wM) (fuel:=1000) (n:=60) zR mixed (fun _=>zj1 (qdc h1 h5 hk) uQ) h.1 (zra h.2)
end Go.Ev
namespace Go.Ev
open Go Go.Proofs
variable {B:Nat}
set_option maxRecDepth 100000
structure zz0 (n:Nat) (s:Sym) (f:List Int):Prop where
 app:appV (s.1,true) f=.tup [encI (yG true s.1 f),I 0]
 len:(yG true s.1 f).length=n*n
 err:jT n n (yG true s.1 f)=0
 kin:aW n (yG true s.1 f)=aW n f
theorem zhk {n k:Nat} {s:Sym} {f:List Int} (h1:1<=n) (h5:n<=5) (hk:k<8) (hs:s=dS n k) (hd:DP (n*n) s) (hf:f.length=n*n) (hfe:gY f=0) (hn:nrm f=true):zz0 n s f:=by
 subst hs;have T:=bU h1 h5 hk;have h25:n*n<=25:=Zbg h5 h5;have hdp:DP (n*n) ((dS n k).1,true):=hd;have e:=zm0 T.pm hdp hf;rw [<- hf] at e;have hl2:(negL ((f.length:Int)+1) f).length=n*n:=by simp [negL,hf]
 have hm:=zk1 hn;have hN:=(mO _).1 (of_decide_eq_true hm);rw [hf] at e;have hP:=dX T hl2;rw [hf] at hP hN;have hlen:(yG true (dS n k).1 f).length=n*n:=by rw [e,kT]
 have hb:∀ x∈yG true (dS n k).1 f,1<=x/\x<=25:=fun x hx=>by
  rw [e] at hx;have:=hN.2 x (hP.mem_iff.1 hx);have h2:(negL (((n*n:Nat):Int)+1) f).length=n*n:=by simp [negL,hf]
  rw [h2] at this;omega
 have hfar:(yG true (dS n k).1 f).any rE=false:=List.any_eq_false.2 fun x hx q=>by
  have:=hb x hx;simp only [rE,Zbq,decide_eq_true_eq] at q;omega
 have hfl:(yG true (dS n k).1 f).any aP=false:=List.any_eq_false.2 fun x hx q=>by
  have:=hb x hx;simp only [aP,Zbq,decide_eq_true_eq] at q;omega
 have hsy:jW (dS n k).1 ((n*n:Nat):Int)=0:=by
  have hl:(dS n k).1.length=n*n:=hd.1.1;rw [jW,if_neg (by omega),if_neg (by omega),if_pos (DP.perm (a:=dS n k) hd)]
 refine ⟨?_,hlen,?_,?_⟩
 ·have e0:appE ((dS n k).1,true) f=0:=by
   rw [appE,if_neg (fun q=>q hfe),hf,if_neg (fun q=>q hsy),uJ,hfar];rfl
  rw [appV,if_neg (fun q=>q e0)]
 ·rw [jT,if_neg (by rw [hlen];simp;omega),if_neg (by omega),hfl];rfl
 ·rw [e,zhj h1 h5 hk (by simp [negL,hf])];have:=zvh h1 h5 hf hn
  rwa [hf] at this
theorem zue {r c:Int} {f:List Int} {z:Nat} (hj:∀ B,JOk Tryz.prog B qW) (hz:z<256) (haw:∀ {B},Pure Tryz.prog B 18 [] (· = .bool true)):Pure Tryz.prog B 4 [.agg [I r,I c,encI f],.int .u8 (z:Int)] (· = .bool true):=by
 refine yE fun h nx K H0 hK=>zP zR yh 100000 fun hf => ?_;have awk:∀ (h:T Blk) (nx:Pa) (Z:Kw Prop),Z (.bool true) h nx=.ok True->(CS Tryz.prog B).fn 18 (.of 18) [] h nx Z=.ok True:=fun h nx Z hZ=>haw _ _ _ _ fun v hv _=>by rw [hv];exact hZ
 have ret:∀ {h1 nx1 L},Hp h h1 nx1 L->K (.bool true) h1 nx1=.ok True:=fun H=>hK _ _ _ _ _ H (zL rfl) rfl;rw [F4.go,F4.t72,zC,F4.rM];refine H0.box (l:=[I r,I c,encI f]) rfl fun bx h1 nx1 H1 => ?_;have l0:∀ op:AV->OP,zG (.ptr bx (0+0)) h1 op=op (I r):=fun op=>H1.load (k:=0) (i:=0) rfl rfl;have l2:∀ op:AV->OP,zG (.ptr bx (0+2)) h1 op=op (encI f):=fun op=>H1.load (k:=0) (i:=2) rfl rfl;rw [F4.t71,zC,F4.t5,zC,F4.rP,F4.r1_0,F4.zaa,H1.zn (k:=0) (n:=3) rfl rfl];refine zu0 _ _ _ _ ?_;rintro _ rfl _;rw [F4.aI,F4.rQ];by_cases ce:jT r c f=0
 case neg =>
  simp only [qm,ce,decide_false,Zag,yY,zZ];rw [F4.tZ,F4.fJ];simp only [yY,zwr];rw [F4.eG,F4.rY];simp only [yY,zZ];rw [F4.t4,yA,F4.v25,zH,F4.t3,zC,F4.rF];refine awk _ _ _ ?_;simp only [yB,yO];rw [F4.ret];exact ret H1
 obtain ⟨rfl,hr1,hr16,hlen⟩:=zq5 ce;obtain ⟨n,rfl⟩:=Int.eq_ofNat_of_zero_le (show 0<=r by omega);simp only [qm,ce,decide_true,Zaf,yQ,sFx,l0,xk,zW];by_cases c5:(5:Int)<(n:Int)
 ·simp only [c5,decide_true,yY];rw [F4.tZ,F4.fJ];simp only [yY,zwr];rw [F4.eG,F4.rY];simp only [yY,zZ];rw [F4.t4,yA,F4.v25,zH,F4.t3,zC,F4.rF];refine awk _ _ _ ?_;simp only [yB,yO];rw [F4.ret];exact ret H1
 have h1n:1<=n:=by omega
 have h5n:n<=5:=by omega
 have hfl:f.length=n*n:=by
  have:((f.length:Nat):Int)=((n*n:Nat):Int):=by rw [hlen];simp
  omega
 have h25:n*n<=25:=Zbg h5n h5n;have h01:1<=n*n:=Zbg h1n h1n;simp only [c5,decide_false,yQ];rw [F4.tZ,F4.fJ];simp only [yQ,l2,zj9];refine zzd (by omega) _ _ _ _ ?_;rintro _ rfl _;rw [F4.eG,F4.rY];simp only [yQ,qm,zW];by_cases cf:gY f=0
 case neg =>
  simp only [cf,decide_false,Zag];rw [F4.t4,yA,F4.v25,zH,F4.t3,zC,F4.rF];refine awk _ _ _ ?_;simp only [yB,yO];rw [F4.ret];exact ret H1
 simp only [cf,decide_true,Zaf];rw [F4.t4,yA,F4.v25,zJ,yH,F4.t70,zC,F4.aJ,sFx,l0,F4.t69,zC,F4.t7_s];refine qdb h1n h5n _ _ _ _ ?_;rintro _ rfl _;have D:=zmz h1n h5n;have kp:∀ s∈dgN n,∀ k,k<3->∀ {B},Pure Tryz.prog B 27 (kArg n k s) (· = .tup [.bool true,I 0]):=fun s hs k hk {B}=>zvx h1n h5n hk hs
 generalize dgN n=S at D kp
 obtain ⟨N0,eN,ok⟩:=d6 D.grp;obtain rfl:N0=n*n:=by omega
 obtain ⟨hS8,hS0⟩:=D.len;have kin:∀ g:List Int,g.length=n*n->jT n n g=0->∀ {B},Pure Tryz.prog B 20 [.agg [I (n:Int),I (n:Int),encI g]] (· = .tup [cM (aW n g),I 0]):=fun g hg he {B}=>by
  have:=zj5 (B:=B) (r:=(n:Int)) (f:=g) hj (fun m h1 h2=>zwn h1 (by omega)) (by omega) (by omega) he
  rwa [Int.toNat_natCast] at this
 have can:∀ g:List Int,g.length=n*n->g.any rE=false->∀ {B},Pure Tryz.prog B 23 [vw S,encI g] (· = .tup [encI (canL S g),I 0]):=fun g hg he {B}=>by
  have hfe:gY g=0:=by rw [gY,if_neg (by omega),uJ,he];rfl
  have:=cN (B:=B) (G:=S) (f:=g) (by omega) (fun s hs=>by have:=(ok.dp s hs).1.1;omega) (by omega)
  rwa [canV,if_neg (fun q=>q (zrd D h1n h5n hg hfe he))] at this
 have hmul:(n:Int)*(n:Int)=((n*n:Nat):Int):=by simp
 have mu:∀ op:AV->OP,zh .mul .int (I (n:Int)) (I (n:Int)) op=op (I ((n*n:Nat):Int)):=fun op=>by rw [sV (by rw [hmul];omega),hmul]
 have lS:∀ op:AV->OP,sLen (vw S) op=op (I ((S.length:Nat):Int)):=fun op=>rfl;rw [jK,jL,F4.t68,zC,F4.t8_s,H1.zn (k:=0) (n:=3) rfl rfl];refine kin f hfl ce _ _ _ _ ?_;rintro _ rfl _;rw [jK,jL,F4.t67,zC,F4.t13,zC,F4.t9_s,F4.r6_0,F4.zxa,jk (by omega),qm,decide_eq_true (by decide),Zaf];simp only [yQ];rw [F4.r6_1,F4.zxb];simp only [yQ,zj9,mu];refine qcx (by omega) _ _ _ _ ?_;rintro _ rfl _;have hfew:fewB S ((n*n:Nat):Int) 8=(decide (n*n<=16)):=by
  rw [fewB,decide_eq_true D.grp,decide_eq_true (show (S.length:Int)<=8 by omega),Bool.true_and,Bool.and_true];exact fP (by rw [decide_eq_true_eq,decide_eq_true_eq];omega)
 suffices H:F4.t12.run (CS Tryz.prog B) 100000 (fnO F4.res K) (F4.t66.run (CS Tryz.prog B) 100000 (fnO F4.res K) (jq F4.res K)) (F4.fr (.agg [I n,I n,encI f]) (.int .u8 z) (.ptr bx 0) (.bool false) (I n) (vw S) (I 0) (cM (aW n f)) (I 0) .u .u .u .u .u .u .u .u .u .u .u .u .u .u .u .u (.bool false) (.bool false) .u .u .u .u .u .u .u) h1 nx1=.ok True by
  have e8:decide (8<(S.length:Int))=false:=decide_eq_false (by omega);have e0:decide ((S.length:Int)=0)=false:=decide_eq_false (by omega);rw [hfew,F4.r6_2,F4.zxc];by_cases c4:n<=4
  ·have:n*n<=16:=Zbg c4 c4;rw [decide_eq_true this];simp only [yQ,jU,yV,Zaf,zW];rw [F4.r6_3,F4.znd];simp only [yQ,lS,rG,e0,xk,e8,zW];exact H
  ·have e4:decide ((n:Int)<=4)=false:=decide_eq_false (by omega)
   have e16:decide (n*n<=16)=false:=decide_eq_false (by
    obtain rfl:n=5:=by omega
    decide)
   rw [e16];simp only [yQ,jN,yV,zW,zZ,sO,e4,Zag];rw [F4.r6_3,F4.znd];simp only [yQ,lS,rG,e0,xk,e8,zW];exact H
 rw [F4.t12,yA,F4.v26,zJ,yH,F4.t66,zC,F4.zcv];have a1:=Nat.mod_lt z hS0;have rS:∀ op:AV->OP,zh .rem .int (I (z:Int)) (I ((S.length:Nat):Int)) op=op (I ((z%S.length:Nat):Int)):=fun op=>qcz hS0
 generalize z%S.length=iS at a1 rS
 have cz:∀ op:AV->OP,vT .i64 (.int .u8 (z:Int)) op=op (I (z:Int)):=fun op=>zve (by omega);have xS:∀ op:AV->OP,zV 2 (vw S) (I (iS:Int)) op=op (.fp (encI S[iS].1::.bool S[iS].2::(jF S).drop ((iS+1)*2))):=fun op=>(xu (i:=iS) rfl a1).trans (congrArg (fun x=>op (.fp x)) (j5 a1));have mS:S[iS]∈S:=Zak a1
 generalize S[iS]=s at xS mS
 have hd:=ok.dp s mS;obtain ⟨k0,hk0,es⟩:=D.elt s mS;have VS:=zm1 h1n h5n hk0 es hd hfl cf ce;have T:=bU h1n h5n hk0;have s2:s.2=false:=by rw [es];exact T.cp
 have hpl:yG false s.1 f=pull (n*n) (srcD n k0) f:=by rw [es];exact mA T.pm (by rw [es] at hd;exact hd) hfl
 have hk:aW n (yG false s.1 f)=aW n f:=by rw [hpl];exact zhj h1n h5n hk0 hfl
 have hc:canL S (yG false s.1 f)=canL S f:=by have:=zq2 ok hfl mS;rwa [s2] at this
 have hfar:(yG false s.1 f).any rE=false:=by
  refine List.any_eq_false.2 fun x hx q => ?_;rw [hpl] at hx;exact List.any_eq_false.1 (zrf cf) x ((dX T hfl).mem_iff.1 hx) q
 have hcl:(canL S f).length<=1000000000:=by
  have:canL S f∈j9 S f:=by
   have h0:(qB (j9 S f))≠[]:=by
    obtain ⟨a,ha⟩:=List.exists_mem_of_length_pos hS0;intro q;have:yG a.2 a.1 f∈qB (j9 S f):=tY.2 (List.mem_map_of_mem ha);rw [q] at this;cases this
   unfold canL;cases q:qB (j9 S f) with
   | nil=>exact absurd q h0
   | cons a l=>exact tY.1 (by rw [q];simp)
  obtain ⟨a,_,ea⟩:=List.mem_map.1 this;rw [<- ea,gL];omega
 simp only [cz,lS,rS,xS,zzh];refine H1.alloc fun sa h2 nx2 H2 => ?_;refine H2.qy (l2:=[encI s.1,.bool s.2]) (k:=0) rfl rfl rfl fun h4 H4 => ?_;simp only [List.set_cons_zero,List.set_cons_succ] at H4;have hsl:s.1.length<=100000:=by have:=hd.1.1;omega
 rw [F4.t65,zC,F4.ze7,H4.zn (k:=0) (n:=2) rfl rfl,sFx,H4.load (k:=1) (i:=2) rfl rfl];refine zhf (a:=s) hsl (by omega) _ _ _ _ ?_;rintro _ rfl _;rw [VS.app,jK,jL,F4.t64,zC,F4.ze9,sFx,H4.load (k:=1) (i:=2) rfl rfl];refine can f hfl (zrf cf) _ _ _ _ ?_;rintro _ rfl _;rw [jK,jL,F4.t63,zC,F4.oh];refine can _ VS.len hfar _ _ _ _ ?_;rintro _ rfl _;rw [jK,jL,hc,F4.t62,zC,F4.ze8,zhg];refine kin _ VS.len VS.err _ _ _ _ ?_;rintro _ rfl _;rw [hk,jK,jL,F4.t61,zC,F4.t23,zC,F4.zm9,F4.znb,F4.zsu,jk (by omega),jk (by omega),jk (by omega),qm,decide_eq_true (by decide),Zaf,F4.zv1,F4.zsv];simp only [yQ,zj9];refine pO hcl _ _ _ _ ?_;rintro _ rfl _;rw [decide_eq_true rfl,F4.zv0,F4.zsw];simp only [yQ,zj9,yV,Zaf,zW];refine zrb (kinL _ _) _ _ _ _ ?_;rintro _ rfl _;rw [decide_eq_true rfl,F4.zvz,F4.zsx];simp only [yQ,yV,Zaf,zW];rw [F4.t22,yA,F4.v27,zJ,yH,F4.t60,zC,F4.t45,zC,F4.zna];have kS:=kp s mS;refine H4.yj (l:=[.str (gE 0),.str (gE 1),.str (gE 2)]) rfl fun tb h6 nx6 H6 => ?_;rw [jJ,F4.t44,jH];refine F4.qag (fun m' x30 h' nx'=>∃ i:Nat,x30=I i/\m'=3-i/\i<=3/\Hp h h' nx' (.arr tb [.str (gE 0),.str (gE 1),.str (gE 2)]::.arr sa [encI s.1,.bool s.2]::.arr bx [I (n:Int),I (n:Int),encI f]::[])) (m:=3) (by omega) ⟨0,rfl,by omega,by omega,H6⟩ ?_;rintro m' z3 zA zB zD zE zF z30 z31 z32 h7 nx7 R ⟨i,rfl,rfl,hi,H7⟩ hR;rw [F4.t42,zC,F4.qac,jl];by_cases hlt:i<3
 case pos =>
  obtain ⟨k,hk3,hg⟩:∃ k:Nat,k<3/\([.str (gE 0),.str (gE 1),.str (gE 2)]:List AV)[i]? = some (.str (gE k)):=by
   match i,hlt with
   | 0,_=>exact ⟨0,by decide,rfl⟩
   | 1,_=>exact ⟨1,by decide,rfl⟩
   | 2,_=>exact ⟨2,by decide,rfl⟩
  obtain ⟨sy,l5⟩:=zhh h1n h5n hk3;rw [decide_eq_true (by omega),F4.t41,zC,F4.t26,yA,F4.v31,zH,yH,F4.t40,zC,F4.t38,jH,F4.t37,zC,F4.qad,sIx rfl hlt,H7.load (k:=0) rfl hg,F4.t36,zC,F4.qae];refine zf4 h1n (by omega) hk3 _ _ _ _ ?_;rintro _ rfl _;rw [sqVZ,jK,jL];refine H7.alloc fun ya h8 nx8 H8 => ?_;refine H8.qy (l2:=[I ((n*n:Nat):Int),sW (sqL k n)]) (k:=0) rfl rfl rfl fun h9 H9 => ?_;rw [F4.t35,zC,F4.zm7,H9.zn (k:=0) (n:=2) rfl rfl,H9.zn (k:=2) (n:=2) rfl rfl];refine kS k hk3 _ _ _ _ ?_;rintro _ rfl _;rw [jK,jL,F4.t34,zC,F4.zm8,jk (by omega),qm,decide_eq_true (by decide),Zaf];simp only [yQ,yV,Zaf,zW];rw [F4.t33,yA,F4.v32,zJ,yH,F4.qaf,jk (by omega)];exact hR (3-(i+1)) _ _ _ _ _ _ _ _ _ _ _ (by omega) ⟨i+1,rfl,rfl,by omega,H9.drop⟩
 obtain rfl:i=3:=by omega
 rw [decide_eq_false (by omega),F4.t41,zC,F4.t26,yA,F4.v31,zJ,qG,vP,F4.t59,zC,F4.t50,zC,F4.qah]
 clear hR
 refine qcy (s:=mU) (kinL _ _) _ _ _ _ ?_;rintro _ rfl _;rw [zre,yV,F4.t49,yA,F4.v33];by_cases cn:nrm f=true
 case neg =>
  rw [Bool.eq_false_iff.2 cn,Zag,zH,F4.t48,zC,F4.qai];refine awk _ _ _ ?_;simp only [yB,yO];rw [F4.ret];exact ret H7
 rw [cn,Zaf,zJ,yH,F4.t58,zC,F4.qaj,sFx];have VC:=zhk h1n h5n hk0 es hd hfl cf cn;refine H7.store (k:=1) (i:=1) rfl (by simp) rfl fun hA HA => ?_;simp only [List.set_cons_zero,List.set_cons_succ] at HA;rw [F4.t57,zC,F4.qak,HA.zn (k:=1) (n:=2) rfl rfl,sFx,HA.load (k:=2) (i:=2) rfl rfl];refine zhf (a:=(s.1,true)) hsl (by omega) _ _ _ _ ?_;rintro _ rfl _;rw [VC.app,jK,jL,F4.t56,zC,F4.qal,zhg];refine kin _ VC.len VC.err _ _ _ _ ?_;rintro _ rfl _;rw [VC.kin,jK,jL,F4.t55,zC,F4.qam,F4.znc,F4.zsy,jk (by omega),rG,decide_eq_true (by decide)];simp only [jN,zka];refine zrb (kinL _ _) _ _ _ _ ?_;rintro _ rfl _;rw [decide_eq_true rfl,F4.zv3,F4.zsz,zZ];simp only [zka];refine awk _ _ _ ?_;rw [F4.zv2,F4.zs3,zZ];simp only [yB,yO];rw [F4.ret];exact ret HA
end Go.Ev
