import Derived.Test.YtdclaaahnodljaaGreatDoorWordsa
import Derived.Test.YtdclaaahnodljaaGreatDoorLaws
import Derived.Shelf.SlSortCmp.WholeK
import Derived.Deep.Slices
import Derived.Test.YtdclaaahnodljaaGreatDoorCodea
import Derived.Test.YtdclaaahnodljaaGreatDoorEvD
import GoSem.Core.Next
import Derived.IntWalk
import Derived.Test.YtdclaaahnodljaaGreatDoorIrT
import Derived.KernelRfl
set_option linter.unusedSimpArgs false
set_option linter.unusedVariables false
noncomputable section
namespace Go.Ev
open Go Go.Proofs Go.RowKit Go.Sort
def y9 (ps:List (AV×Sym)):List AV:=ps.flatMap fun p=>[p.1,.bool p.2.2]
theorem vN:∀ (ps:List (AV×Sym)) (i:Nat),(y9 ps)[i]? = (ps[i / 2]?).map fun p=>if i%2=0 then p.1 else .bool p.2.2
 | [],i=>by simp [y9]
 | p::ps,0=>rfl
 | p::ps,1=>rfl
 | p::ps,i+2=>by
  rw [show (i+2) / 2=i / 2+1 by omega,show (i+2)%2=i%2 by omega,List.getElem?_cons_succ,<- vN ps i]
  rfl
theorem wN:∀ (ps:List (AV×Sym)),(y9 ps).length=ps.length*2
 | []=>rfl
 | p::ps=>by
  show (y9 ps).length+2=_;rw [wN ps,Zbn];omega
theorem zky {B:Nat} {h:T Blk} {id:Pa} {op:Bool} {m off n:Nat} {o:Option Nat} {t:T AV} {ps qs:List (AV×Sym)} (hb:T.get .no id h=.cells op m t) (hm:off+n*2<=m) (hn:n<=1000000) (hl:ps.length=n) (hp:yA t off (n*2)=y9 ps)
  (hr:∀ p∈ps,tX h id p.1 p.2.1/\p.2.1.length<=1000000) (hnd:(ps.map (·.2)).Nodup) (hq:qs.Perm ps) (hqs:qs.Pairwise fun a b=>bZ a.2 b.2<=0) :
  JOk Tryz.prog B (fun f a h'=>open Classical in if f=113/\a=[.sl id off n o 2,.fn 114 (.of 114) []]/\h'=h then some (.tup [],T.set .no (.cells op m (yY (y9 qs) t off)) id h) else none):=by
 intro E h' nx w f args vs v h2 H hv hj
 dsimp only at hj
 by_cases hc:f=113/\args=[AV.sl id off n o 2,.fn 114 (.of 114) []]/\h'=h
 case neg=>rw [if_neg hc] at hj;cases hj
 rw [if_pos hc] at hj;obtain ⟨rfl,rfl,rfl⟩:=hc;simp only [Option.some.injEq,Prod.mk.injEq] at hj;obtain ⟨rfl,rfl⟩:=hj;refine ⟨_,Tryz.func113,by kernel_rfl,by kernel_rfl,fun nn=>callsIn_wide.2 ?_⟩;obtain ⟨l⟩:=vs;simp only [VRL] at hv;obtain ⟨u,_,rfl,hu,u2,_,rfl,hu2,rfl⟩:=hv;simp only [VR,VRL] at hu2;obtain ⟨_,vs2,rfl,hvs2⟩:=hu2;obtain rfl:vs2 = #[]:=by cases vs2;simpa using hvs2
 obtain ⟨b,bn,c,hE,rfl,hcap⟩:=hu.fU;obtain ⟨b',n',ob,h1,h2,h3⟩:=H.blk id (by rw [hb];intro e;cases e);rw [hE] at h1;cases h1;have h3':=h3;rw [hb] at h3;obtain ⟨cs,ty,fr,rfl,g1,g2,g3,g4,hc⟩:=h3
 let α:={x:(AV×Sym)×Value // tX h' id x.1.1 x.1.2.1/\x.1.2.1.length<=1000000/\VR E x.1.1 x.2}
 haveI:Inhabited α:=⟨⟨((encI [],([],false)),.slice none 0 0),.inl rfl,by simp,by simp only [VR];exact ⟨rfl,rfl,none,0,rfl,.inl ⟨rfl,fun _=>rfl⟩⟩⟩⟩
 let enc:α->List Value:=fun x=>[x.1.2,.bool x.1.1.2.2]
 let cf:α->α->Int:=fun x y=>bZ x.1.1.2 y.1.1.2
 have hk:∀ x,(enc x).length=2:=fun _=>rfl;have hone:∀ x,∀ v∈enc x,v.oneCell'=true:=fun x v hv=>by
  obtain ⟨p,c,e,_⟩:=x.2.1.cells H x.2.2.2;simp only [enc,Zag,List.not_mem_nil,or_false] at hv;rcases hv with rfl | rfl
  ·rw [e];rfl
  ·rfl
 have hO:SWO (ltOf cf):={
  irrefl:=fun x=>by show decide (bZ _ _<0)=false;rw [zkx];rfl
  trans:=fun x y z p q=>by
   have p:=of_decide_eq_true p;have q:=of_decide_eq_true q;exact decide_eq_true (vZ p q)
  ntrans:=fun x y z p q=>by
   have p:=of_decide_eq_false p;have q:=of_decide_eq_false q;exact decide_eq_false (Int.not_lt.2 (dA (Int.not_lt.1 p) (Int.not_lt.1 q))) }
 have rd:∀ i,i<n*2->∃ p,ps[i / 2]? = some p/\T.get .undef (.of (off+i)) t=(if i%2=0 then p.1 else .bool p.2.2)/\∃ v',cs[off+i]? = some v'/\VR E (if i%2=0 then p.1 else .bool p.2.2) v'/\w.frozen? ⟨b,off+i,none⟩=false:=by
  intro i hi;have hjp:i / 2<ps.length:=by omega
  have e1:=zV t off (n*2) i hi;rw [hp,vN,List.getElem?_eq_getElem hjp] at e1;have he:=(Option.some.inj e1).symm;obtain ⟨_,v',k1,k2⟩:=hc (off+i) (by omega);rw [he] at k2;refine ⟨_,List.getElem?_eq_getElem hjp,he,v',k1,k2,?_⟩;have:=g1 (off+i) (Array.getElem?_eq_some_iff.1 k1).1;simp only [World.frozen?,h2];obtain ⟨lo,hi⟩:=fr;simp only [Bool.and_eq_false_iff,decide_eq_false_iff_not];simp only at this;omega
 have each:∀ j,j<n->∃ x:α,ps[j]? = some x.1.1/\w.cell? ⟨b,off+j*2,none⟩=some x.1.2/\w.cell? ⟨b,off+(j*2+1),none⟩=some (.bool x.1.1.2.2):=by
  intro j hj;obtain ⟨p,a1,a2,v1,a3,a4,a5⟩:=rd (j*2) (by omega);obtain ⟨p',b1,b2,v2,b3,b4,b5⟩:=rd (j*2+1) (by omega);rw [show j*2 / 2=j by omega] at a1;rw [show (j*2+1) / 2=j by omega,a1] at b1;cases b1
  rw [if_pos (by omega)] at a4;rw [if_neg (by omega)] at b4;simp only [VR] at b4;subst b4;obtain ⟨r1,r2⟩:=hr _ (Zaa a1);exact ⟨⟨(p,v1),r1,r2,a4⟩,a1,by simp [World.cell?,h2,a3],by simp [World.cell?,h2,b3]⟩
 obtain ⟨D,hD⟩:=Go.Deep.choose_lt each;have hsz:((List.range n).map D).toArray.size=n:=by simp
 have hget:∀ j,j<n->((List.range n).map D).toArray[j]! = D j:=fun j hj=>by simp [getElem!_pos,hj]
 have hH:HoldsK enc 2 w b off ((List.range n).map D).toArray:=by
  intro i hi;rw [size_flatK,hsz] at hi;rw [get_flatK _ _ _ _ (by rw [hsz];exact hi),hget _ (by omega)];obtain ⟨_,d1,d2⟩:=hD (i / 2) (by omega);obtain ⟨_,_,_,_,_,_,fz⟩:=rd i hi;refine ⟨?_,fz⟩;rcases Nat.mod_two_eq_zero_or_one i with e | e
  ·rw [e];rw [show i / 2*2=i by omega] at d1;exact d1
  ·rw [e];rw [show i / 2*2+1=i by omega] at d2;exact d2
 have hsort:∀ (k:Nat) (os:Array Obj) (dk:Array α),dk.size=n->HR Tryz.prog B E (T.set .no (.cells op m (yY (y9 (dk.toList.map fun x=>x.1.1)) t off)) id h') nx (sortWorldK enc 2 w b off k dk os)/\Ex E E w (sortWorldK enc 2 w b off k dk os):=by
  intro k os dk hs;have hfs:(flatK enc 2 dk).size=n*2:=by rw [size_flatK,hs]
  refine H.zqb (F:=flatK enc 2 dk) (by rw [wN,hfs,Zas,Array.length_toList,hs]) (fun i hi => ?_) hb hE (by rw [hfs];exact hm);rw [hfs] at hi;have hlt:i / 2<dk.size:=by omega
  rw [get_flatK _ _ _ _ (by rw [hs];exact hi),Zab,vN,List.getElem?_map,Array.getElem?_toList,Array.getElem?_eq_getElem hlt,getElem!_pos dk _ hlt];simp only [Zbv,Option.getD_some];rcases Nat.mod_two_eq_zero_or_one i with e | e
  ·rw [e,if_pos rfl];exact ⟨dk[i / 2].2.1.jd,dk[i / 2].2.2.2⟩
  ·rw [e,if_neg (by decide)];exact ⟨rfl,by show VR E (.bool _) (.bool _);simp only [VR]⟩
 have hcmp:CmpLays Tryz.prog 114 #[] enc 2 cf b off ((List.range n).map D).toArray.size w:=by
  intro k os dk hs x y;rw [hsz] at hs;obtain ⟨H',_⟩:=hsort k os dk hs;obtain ⟨p1,c1,e1,m1⟩:=(x.2.1.set (b:=.cells op m (yY (y9 (dk.toList.map fun x=>x.1.1)) t off))).cells H' x.2.2.2;obtain ⟨p2,c2,e2,m2⟩:=(y.2.1.set (b:=.cells op m (yY (y9 (dk.toList.map fun x=>x.1.1)) t off))).cells H' y.2.2.2;have:=zf2 p1 p2 _ c1 _ c2 x.1.1.2.1 y.1.1.2.1 x.1.1.2.2 y.1.1.2.2 (sortWorldK enc 2 w b off k dk os) rfl rfl x.2.2.1 y.2.2.1 m1 m2;show Go.Calls Tryz.prog 114 #[.agg #[x.1.2,.bool x.1.1.2.2],.agg #[y.1.2,.bool y.1.1.2.2]] _ _;rw [e1,e2];exact this
 have key:=AnyQ.slices_SortFunc Tryz.sortS 2 Tryz.isAgg115 Tryz.sizeOf115 enc hk hone cf hO 114 #[] b off c ((List.range n).map D).toArray w (enters_of Tryz.func114 (by kernel_rfl) rfl) hcmp hH (H.lt _ _ _ hE).2 (by rw [hsz];omega);rw [hsz] at key;refine key.mono ?_;rintro e w' ⟨rfl,d',k,os,hP,hS,rfl⟩;obtain ⟨hd1,_,hperm⟩:=hP;rw [hsz] at hd1;have e1:d'.extract 0 n=d':=by rw [<- hd1];exact Array.extract_size
 have e2:((List.range n).map D).toArray.extract 0 n=((List.range n).map D).toArray:=by
  have := @Array.extract_size _ ((List.range n).map D).toArray
  rwa [hsz] at this
 rw [e1,e2] at hperm;have hps:((List.range n).map D).map (fun x:α=>x.1.1)=ps:=by
  refine Zaz fun j => ?_;rw [List.getElem?_map,List.getElem?_map];by_cases hj:j<n
  ·rw [List.getElem?_range hj,(hD j hj).1];rfl
  ·rw [List.getElem?_eq_none (by simp;omega),List.getElem?_eq_none (by omega)];rfl
 have hpm:(d'.toList.map fun x:α=>x.1.1).Perm ps:=by rw [<- hps];exact hperm.map _
 have hqe:(d'.toList.map fun x:α=>x.1.1)=qs:=by
  refine List.Perm.eq_of_pairwise (le:=fun a b=>bZ a.2 b.2<=0) ?_ ?_ hqs (hpm.trans hq.symm)
  ·intro a a' ha ha' p q;have e:a.2=a'.2:=zeb (by have:=uT a.2 a'.2;omega);have ma:=hpm.mem_iff.1 ha;have ma':=hq.mem_iff.1 ha';exact kL hnd ma ma' e
  ·rw [Zbr,Zbd];intro i j hi hj hij;have hi':i<d'.size:=by simpa using hi
   have hj':j<d'.size:=by simpa using hj
   have:=hS i j (Nat.zero_le _) hij (by omega);rw [getElem!_pos d' j hj',getElem!_pos d' i hi'] at this;have:=of_decide_eq_false this;have e:bZ d'[j].1.1.2 d'[i].1.1.2 = - bZ d'[i].1.1.2 d'[j].1.1.2:=uT _ _;have f:¬ bZ d'[j].1.1.2 d'[i].1.1.2<0:=this;simp only [Array.getElem_toList];omega
 obtain ⟨r1,r2⟩:=hsort k os d' hd1;rw [hqe] at r1;exact ⟨_,E,rfl,by simp only [VR,VRL];exact ⟨_,rfl,rfl⟩,r1,r2⟩
end Go.Ev
namespace Go.Ev
open Go Go.Proofs
variable {B:Nat}
theorem Hp.ztj {h0 h:T Blk} {nx:Pa} {L:List Ob} {j k:Nat} {x y:Ob} {a b:Pa} (H:Hp h0 h nx L) (hk:L[k]? = some x) (hj:L[j]? = some y) (hjk:j≠k) (ha:a∈x.names) (hb:b∈y.names):b≠a:=by
 have hnd:=(H.front hk).nd;rw [Zbi] at hnd;have hy:y∈L.take k++L.drop (k+1):=by
  rcases Nat.lt_or_gt_of_ne hjk with c | c
  ·exact Zbj _ (Zaa (i:=j) (by rw [List.getElem?_take_of_lt c];exact hj))
  ·exact Zby _ (Zaa (i:=j-(k+1)) (by rw [List.getElem?_drop,show k+1+(j-(k+1))=j by omega];exact hj))
 rintro rfl;exact (List.nodup_append.1 hnd).2.2 b ha b (List.mem_flatMap.2 ⟨y,hy,hb⟩) rfl
def oJ (L:List Ob) (p:AV×Sym):Prop:=p.1=encI p.2.1\/∃ rid,p.1=.sl rid 0 p.2.1.length (some p.2.1.length) 1/\Ob.arr rid (p.2.1.map I)∈L
theorem oJ.jd {L:List Ob} {p:AV×Sym} (h:oJ L p):jd p.1=true:=by rcases h with e | ⟨_,e,_⟩ <;> rw [e] <;> rfl
theorem oJ.mono {L L':List Ob} {p:AV×Sym} (h:oJ L p) (hl:∀ x∈L,x∈L'):oJ L' p:=h.imp id fun ⟨r,e,m⟩=>⟨r,e,hl _ m⟩
theorem oJ.at {h0 h:T Blk} {nx id:Pa} {L:List Ob} {n:Nat} {z:List AV} {p:AV×Sym} (H:Hp h0 h nx (.gro (some id) 2 n z::L)) (hp:oJ L p):tX h id p.1 p.2.1:=by
 rcases hp with e | ⟨rid,e,hj⟩
 ·exact .inl e
 ·obtain ⟨op,t,h1,h2⟩:=H.own _ (Zam _ hj);rw [Zas] at h1 h2;obtain ⟨j,hj⟩:=List.getElem?_of_mem hj;exact .inr ⟨rid,0,some p.2.1.length,op,p.2.1.length,t,H.ztj (k:=0) (j:=j+1) rfl hj (by omega) (by simp [Ob.names]) (by simp [Ob.names]),e,h1,by omega,h2⟩
abbrev agP (p:AV×Sym):AV:=.agg [p.1,.bool p.2.2]
def eF (ps:List (AV×Sym)):List (AV×AV):=ps.map fun p=>(.str (fA p.2),agP p)
theorem dN:∀ (q:List (AV×Sym)) (i:Nat),(y9 q).drop (i*2)=y9 (q.drop i)
 | q,0=>by simp
 | [],i+1=>by simp [y9]
 | p::q,i+1=>by
  rw [List.drop_succ_cons,<- dN q i,show (i+1)*2=i*2+1+1 by omega]
  rfl
theorem zh8 {q:List (AV×Sym)} {i:Nat} (h:i<q.length):(y9 q).drop (i*2)=q[i].1::.bool q[i].2.2::(y9 q).drop ((i+1)*2):=by
 rw [dN,dN,Zaq h];rfl
theorem ztk {h0 h:T Blk} {nx:Pa} {L:List Ob} {k j n:Nat} {o:Option Pa} {u:List (AV×Sym)} {c:AV×Sym} (H:Hp h0 h nx L) (hk:L[k]? = some (.gro o 2 n (y9 u))) (hj:u[j]? = some c):∃ id off,(∀ op:AV->OP,zK 2 (wz o 2 n) (I (j:Int)) op=op (.ptr id off))/\∀ op:AV->OP,zI 2 (.ptr id off) h op=op (agP c):=by
 have own:=H.own _ (Zaa hk);have hjl:=(List.getElem?_eq_some_iff.1 hj).1;have hlen:=wN u;cases o with
 | none =>
  obtain ⟨q,_⟩:=own;rw [q] at hlen;simp at hlen;omega
 | some id =>
  obtain ⟨t,h1,h2,h3⟩:=own;have hn:n=u.length:=by omega
  subst hn;refine ⟨id,j*2,fun op=>by rw [wz,wF hjl,Zax],fun op => ?_⟩;show jf (T.get .no id h) _ _=_;rw [h1];show (bif Nat.ble (j*2+2) (u.length*2) then op (.agg (yA t (j*2) 2)) else .no 8)=_;rw [Zac (by omega),cond_true];have e:∀ i,i<u.length*2->T.get .undef (.of i) t=(y9 u).getD i .undef:=fun i hi=>by
   have:=zV t 0 (u.length*2) i hi;rw [h3,Zax] at this;rw [Zab,this];rfl
  have d:∀ i,(y9 u).getD (j*2+i) .undef=((y9 u).drop (j*2)).getD i .undef:=fun i=>by
   rw [Zab,Zab,List.getElem?_drop]
  have e2:yA t (j*2) 2=[T.get .undef (.of (j*2)) t,T.get .undef (.of (j*2+1)) t]:=rfl;have d0:=d 0;rw [Nat.add_zero] at d0;obtain rfl:u[j]=c:=by rw [List.getElem?_eq_getElem hjl] at hj;exact Option.some.inj hj
  rw [e2,e _ (by omega),e _ (by omega),d 1,d0,zh8 hjl]
  rfl
theorem zec {h0 h:T Blk} {nx p id:Pa} {L:List Ob} {k n:Nat} {K:Kw Prop} {q s:List (AV×Sym)} (H:Hp h0 h nx L) (hk:L[k]? = some (.gro (some id) 2 n (y9 q))) (hql:q.length=n) (hn:n<=1000000) (hw:∀ a∈q,tX h id a.1 a.2.1/\a.2.1.length<=1000000)
  (hnd:(q.map (·.2)).Nodup) (hq:s.Perm q) (hs:s.Pairwise fun a b=>bZ a.2 b.2<=0) (hK:∀ h',Hp h0 h' nx (L.set k (.gro (some id) 2 n (y9 s)))->K (.tup []) h' nx=.ok True):(CS Tryz.prog B).fn 113 p [wz (some id) 2 n,.fn 114 (.of 114) []] h nx K=.ok True:=by
 obtain ⟨t,h1,h2,h3⟩:=H.own _ (Zaa hk);have hsl:(y9 s).length=n*2:=by rw [wN,hq.length_eq,hql]
 refine zpc (zky (ps:=q) (qs:=s) (off:=0) (o:=none) h1 (by omega) hn hql h3 hw hnd hq hs)
  (v:=.tup []) (h2:=T.set .no (.cells true (n*2) (yY (y9 s) t 0)) id h) (if_pos ⟨rfl,rfl,rfl⟩) (hK _ ?_)
 refine H.upd hk (by simp [Ob.names]) rfl ⟨_,T.get_set_same ..,hsl,?_⟩;have:=kS t [] (y9 s) 0 rfl;rw [Zax,List.nil_append,hsl] at this;exact this
theorem zqc {h0 h:T Blk} {nx p g:Pa} {L:List Ob} {k:Nat} {K:Kw Prop} {q s:List (AV×Sym)} (H:Hp h0 h nx L) (hg:L[k]? = some (.map g (eF q))) (hq0:0<q.length) (hql:q.length<=2000) (hw:∀ a∈q,oJ L a/\a.2.1.length<=1000000)
  (hnd:(q.map (·.2)).Nodup) (hq:s.Perm q) (hs:s.Pairwise fun a b=>bZ a.2 b.2<=0) (hK:∀ o h' nx' A,Hp h0 h' nx' (.gro o 2 s.length (y9 s)::(A++L))->K (wz o 2 s.length) h' nx'=.ok True):(CS Tryz.prog B).fn 60 p [.map g] h nx K=.ok True:=by
 refine gS (p:=.of 60) (K:=K) (zN zQ yh 10000000 fun hf => ?_) fun _ _ _ _ q=>q;rw [F60.go];refine H.range (k:=k) hg fun it h1 nx1 H1 => ?_;have hel:(eF q).length=q.length:=by simp [eF]
 refine F60.L1 (fun m' x2 h' nx'=>∃ (seen:List Nat) (o:Option Pa),x2=wz o 2 seen.length/\(gZ q.length seen).length=m'/\seen.length+m'=q.length/\seen.Nodup/\(∀ i∈seen,i<q.length) /\
  Hp h0 h' nx' (.gro o 2 seen.length (y9 (seen.reverse.map fun i=>q.getD i (.undef,([],false))))::.iter it g (eF q).length seen (eF q).length::L)) (m:=q.length) (by omega)
  ⟨[],none,rfl,by (have e:gZ q.length []=List.range q.length:=List.filter_eq_self.2 (by simp));rw [e];simp,by simp,by simp,by simp,H1.tV 2⟩ ?_
 rintro m' z2 z3 z7 h2 nx2 R ⟨seen,o,rfl,rfl,hsl,hns,hse,H2⟩ hR;refine H2.next (k:=1) (j:=k+2) rfl (by simpa using hg) (fun hall => ?_) fun i a b h3 hi hnin hab H3 => ?_
 ·simp only [jD,zD];have hsp:=zkk hns hse fun i hi=>hall i (by rw [hel];exact hi);have hup:(seen.reverse.map fun i=>q.getD i (.undef,([],false))).Perm q:=by
   have e:=zj2 q (.undef,([],false))
   conv=>rhs;rw [e]
   exact ((List.reverse_perm seen).trans hsp).map _
  have hul:=hup.length_eq;rw [Zas,List.length_reverse] at hul;rw [hul] at H2 ⊢;rw [F60.k6];cases o with
  | none =>
   obtain ⟨e,_⟩:=H2.own _ (Zaj ..);omega
  | some id =>
   refine zec (k:=0) (s:=s) H2 rfl (by rw [hup.length_eq]) (by omega) (fun a ha=>⟨((hw a (hup.mem_iff.1 ha)).1.mono fun x hx=>Zam _ hx).at H2,(hw a (hup.mem_iff.1 ha)).2⟩) ((hup.map _).nodup_iff.2 hnd) (hq.trans hup.symm) hs fun h4 H4 => ?_;rw [H4.zd1 (k:=0) rfl,<- hq.length_eq];rw [<- hq.length_eq] at H4
   refine F60.L7 (fun m x4 x10 h' nx'=>∃ (i:Nat) (o':Option Pa),x10=I i/\x4=wz o' 2 i/\m=s.length-i/\i<=s.length/\Hp h0 h' nx' (.gro o' 2 i (y9 (s.take i))::.gro (some id) 2 s.length (y9 s)::.iter it g (eF q).length seen (eF q).length::L)) (m:=s.length) (by rw [hq.length_eq];omega)
    ⟨0,none,rfl,rfl,by omega,by omega,H4.tV 2⟩ ?_
   rintro m z4 z5 z10 z11 h5 nx5 R' ⟨i,o',rfl,rfl,rfl,hi,H5⟩ hR';by_cases hlt:i<s.length
   case neg =>
    have ei:i=s.length:=by omega
    subst ei;simp only [uq,show ¬ (s.length:Int)<(s.length:Int) by omega,decide_false,zD];rw [F60.k14];rw [Zat (Zaf _)] at H5;exact hK _ _ _ [.gro (some id) 2 s.length (y9 s),.iter it g (eF q).length seen (eF q).length] H5
   simp only [uq,show (i:Int)<(s.length:Int) by omega,decide_true,zC];have hx:s[i]? = some s[i]:=List.getElem?_eq_getElem hlt;obtain ⟨iu,ou,e1,e2⟩:=ztk (k:=1) H5 rfl hx;rw [e1,e2];refine H5.alloc fun b5 h6 nx6 H6 => ?_;refine H6.uw (k:=0) (n:=2) rfl rfl rfl fun h7 H7 => ?_;rw [H7.zi (k:=0) (n:=2) rfl rfl];refine H7.yg (l:=[s[i].1,.bool s[i].2.2]) rfl fun tb h8 nx8 H8 => ?_;rw [aA];refine H8.appN (k:=2) (o:=o') (c:=1) (esz:=2) (new:=[s[i].1,.bool s[i].2.2]) rfl (je.rd (l:=[s[i].1,.bool s[i].2.2]) (n:=1) (e:=2) (H8.own _ (Zaj ..)) rfl) rfl (by rw [List.all_cons,(hw _ (hq.mem_iff.1 (Zah hlt))).1.jd];rfl) (by decide) (by decide) (by rw [hq.length_eq] at hlt;omega) fun o'' h9 nx9 _ H9 => ?_;rw [qj (by rw [hq.length_eq] at hlt;omega)];refine hR' (s.length-(i+1)) _ _ _ _ _ _ (by omega) ⟨i+1,o'',by rfl,rfl,rfl,by omega,?_⟩;have ef:y9 (s.take i)++[s[i].1,.bool s[i].2.2]=y9 (s.take (i+1)):=by rw [Zar,hx];unfold y9;rw [List.flatMap_append];rfl
   rw [ef] at H9;exact H9.drop.drop
 ·have hi':i<q.length:=by rw [<- hel];exact hi
  have hx:q[i]? = some q[i]:=List.getElem?_eq_getElem hi';have hent:(eF q)[i]? = some (.str (fA q[i].2),agP q[i]):=by rw [eF,List.getElem?_map,hx];rfl
  rw [hent] at hab;cases hab
  simp only [jD,zC];rw [H3.entry (k:=1) (j:=k+2) rfl (by simpa using hg) hent];simp only [jG];refine H3.alloc fun b5 h6 nx6 H6 => ?_;refine H6.uw (k:=0) (n:=2) rfl rfl rfl fun h7 H7 => ?_;rw [H7.zi (k:=0) (n:=2) rfl rfl];refine H7.yg (l:=[q[i].1,.bool q[i].2.2]) rfl fun tb h8 nx8 H8 => ?_;rw [aA];refine H8.appN (k:=2) (o:=o) (c:=1) (esz:=2) (new:=[q[i].1,.bool q[i].2.2]) rfl (je.rd (l:=[q[i].1,.bool q[i].2.2]) (n:=1) (e:=2) (H8.own _ (Zaj ..)) rfl) rfl (by rw [List.all_cons,(hw _ (Zah hi')).1.jd];rfl) (by decide) (by decide) (by omega) fun o'' h9 nx9 _ H9 => ?_;have hst:=zhc hi' hnin;refine hR (gZ q.length (i::seen)).length _ _ _ _ _ (by omega) ⟨i::seen,o'',rfl,rfl,by simp;omega,List.nodup_cons.2 ⟨hnin,hns⟩,fun j hj => ?_,?_⟩
  ·rcases List.mem_cons.1 hj with rfl | r
   ·exact hi'
   ·exact hse j r
  ·have ef:y9 (seen.reverse.map fun i=>q.getD i (.undef,([],false)))++[q[i].1,.bool q[i].2.2]=y9 ((i::seen).reverse.map fun i=>q.getD i (.undef,([],false))):=by
    rw [List.reverse_cons,Zbh];simp [y9,hx]
   rw [ef] at H9;exact H9.drop.drop
end Go.Ev
namespace Go.Ev
open Go Go.Proofs
theorem zqd {P:Program} {B:Nat} {f:Nat} {args:List AV} {h h0:T Blk} {nx:Pa} {r:AV} (hk0:uX h0 h) (hc:∀ K:Kw Prop,(∀ v h' nx',Fr h' nx'->uX h0 h'->rF h0 h' v r->K v h' nx'=.ok True)->(CS P B).fn f (.of f) args h nx K=.ok True)
  {E:Env} {w:World} {vs:Array Value} (H:HR P B E h nx w) (hv:VRL E args vs.toList) :
  ∃ fn:Func,P.funcs[f]? = some fn/\fn.body.isNone=false/\(fn.name == "runtime.NumGoroutine")=false/\∀ n,CallsIn Fence.wide n P f vs w fun e w'=>∃ u E',e=.returned u/\VR E' r u/\HR P B E' h0 nx w'/\Ex E E' w w':=by
 have hk:=hc (fun v h' nx'=>open Classical in if uX h0 h'/\rF h0 h' v r then .ok True else .no 0) (fun v h' nx' _ h1 h2=>if_pos ⟨h1,h2⟩);rw [fM] at hk;obtain ⟨fn,h1,h2,h3,h4⟩:=hk.1 E w vs H hv;refine ⟨fn,h1,h2,h3,fun n=>(h4 n).mono fun e w' he => ?_⟩
 cases e <;> first
  | exact he.elim
  |(obtain ⟨av,h',nx',E',k1,k2,k3,k4⟩:=he
    have k1':(open Classical in if uX h0 h'/\rF h0 h' av r then (Out.ok True:Out Prop) else .no 0)=.ok True:=k1;split at k1'
    ·rename_i hh;obtain ⟨hkp,hF⟩:=hh;have H0:=H.zix hk0;obtain ⟨r1,r2,_⟩:=vX H0 k3 k4 hkp;exact ⟨_,_,rfl,zdw H0 k3 k4 hkp hF k2,r1,r2⟩
    ·cases k1')
theorem zqe {h0 h:T Blk} {nx:Pa} {L:List Ob} {o:Option Pa} {n k e:Nat} {l l':List AV} (H:Hp h0 h nx L) (hk:L[k]? = some (.gro o e n l)) (hl:l'.length=l.length) (hs:l'.all jd=true) (hf:∀ (i:Nat) (v v':AV),l[i]? = some v->l'[i]? = some v'->rF h0 h v v'):rF h0 h (wz o e n) (.lst e n l'):=by
 have own:=H.own _ (Zaa hk);have hoff:=H.off;cases o with
 | none =>
  obtain ⟨rfl,rfl⟩:=own;obtain rfl:l'=[]:=by simpa using hl
  exact .za7 e
 | some id =>
  obtain ⟨t,h1,h2,h3⟩:=own;refine .sl _ _ _ _ _ true _ t _ (hoff id (List.mem_flatMap.2 ⟨_,Zaa hk,by simp [Ob.names]⟩)) trivial h1 (by omega) (by rw [hl];exact h2) hs fun i v hi => ?_;have hil:i<l.length:=by rw [<- hl];exact (List.getElem?_eq_some_iff.1 hi).1
  have:=zV t 0 (n*e) i (by rw [<- h2];exact hil);rw [h3,List.getElem?_eq_getElem hil] at this;rw [<- Option.some.inj this];exact hf i _ _ (List.getElem?_eq_getElem hil) hi
end Go.Ev
namespace Go.Ev
open Go Go.Proofs
variable {B:Nat}
def insP (x:AV×Sym):List (AV×Sym)->List (AV×Sym)
 | []=>[x]
 | y::l=>if bZ x.2 y.2<=0 then x::y::l else y::insP x l
def srtP:List (AV×Sym)->List (AV×Sym)
 | []=>[]
 | x::l=>insP x (srtP l)
theorem p9 (x:AV×Sym):∀ l,(insP x l).Perm (x::l)
 | []=>.refl _
 | y::l=>by
  rw [insP];split
  ·exact .refl _
  ·exact ((p9 x l).cons y).trans (.swap x y l)
theorem zcv:∀ l,(srtP l).Perm l
 | []=>.refl _
 | x::l=>(p9 x _).trans ((zcv l).cons x)
theorem zb1 {a b c:Sym} (h1:bZ a b<=0) (h2:bZ b c<=0):bZ a c<=0:=by
 have n1:=uT a b;have n2:=uT b c;have n3:=uT a c;have:=dA (a:=c) (b:=b) (c:=a) (by omega) (by omega);omega
theorem zf3 {x:AV×Sym}:∀ {l:List (AV×Sym)},l.Pairwise (fun a b=>bZ a.2 b.2<=0)->(insP x l).Pairwise (fun a b=>bZ a.2 b.2<=0)
 | [],_=>by simp [insP]
 | y::l,h=>by
  have h':=List.pairwise_cons.1 h;rw [insP];split
  ·rename_i c;refine List.pairwise_cons.2 ⟨fun z hz => ?_,h⟩;rcases List.mem_cons.1 hz with rfl | r
   ·exact c
   ·exact zb1 c (h'.1 z r)
  ·rename_i c;refine List.pairwise_cons.2 ⟨fun z hz => ?_,zf3 h'.2⟩;rcases List.mem_cons.1 ((p9 x l).mem_iff.1 hz) with rfl | r
   ·have:=uT z.2 y.2;omega
   ·exact h'.1 z r
theorem zf4:∀ l,(srtP l).Pairwise (fun a b=>bZ a.2 b.2<=0)
 | []=>.nil
 | _::l=>zf3 (zf4 l)
def zf5:List AV->Option (List Int)
 | []=>some []
 | .int .i64 v::l=>match zf5 l with
  | some r=>some (v::r)
  | none=>none
 | _=>none
theorem zf6:∀ {l:List AV} {xs:List Int},zf5 l=some xs->l=xs.map I
 | [],xs,h=>by rw [zf5] at h;cases h;rfl
 | a::l,xs,h=>by
  unfold zf5 at h;split at h
  ·rename_i he;cases he
  ·rename_i v l' he;cases he
   split at h
   ·rename_i r hr;cases h
    rw [zf6 hr];rfl
   ·cases h
  ·cases h
def zh9 (h:T Blk) (a:AV):Option (Pa×List Int):=match a with
 | .sl rid off n (some c) e=>match T.get .no rid h with
  | .cells _ m t=>if off=0/\e=1/\m=n/\c=n then (match zf5 (yA t 0 n) with
   | some l=>some (rid,l)
   | none=>none) else none
  | _=>none
 | _=>none
theorem zkz {h:T Blk} {a:AV} {rid:Pa} {l:List Int} (e:zh9 h a=some (rid,l)):a=.sl rid 0 l.length (some l.length) 1/\je h rid (l.map I):=by
 unfold zh9 at e;split at e
 case h_2=>cases e
 rename_i r off n c ee he0;split at e
 case h_2=>cases e
 rename_i op m t ht;split at e
 case isFalse=>cases e
 rename_i hc;obtain ⟨rfl,rfl,rfl,rfl⟩:=hc;split at e
 case h_2=>cases e
 rename_i l' hl;cases e
 have e1:=zf6 hl;have e2:l.length=ee:=by
  have:=congrArg List.length e1;rw [Zas,gB] at this;exact this.symm
 subst e2;exact ⟨rfl,op,t,by rw [Zas];exact ht,by rw [Zas];exact e1⟩
def zbr (h:T Blk):List (AV×AV)->Option (List (Pa×(AV×Sym)))
 | []=>some []
 |(.str k,.agg [a,.bool c])::es=>match zh9 h a,zbr h es with
  | some (rid,l),some r=>if fA (l,c)=k then some ((rid,(a,(l,c)))::r) else none
  | _,_=>none
 | _=>none
theorem zcw {h:T Blk}:∀ {es:List (AV×AV)} {r:List (Pa×(AV×Sym))},zbr h es=some r->es=eF (r.map (·.2))/\∀ x∈r,x.2.1=.sl x.1 0 x.2.2.1.length (some x.2.2.1.length) 1/\je h x.1 (x.2.2.1.map I)
 | [],r,e=>by rw [zbr] at e;cases e;exact ⟨rfl,fun x hx=>by cases hx⟩
 | p::es,r,e=>by
  unfold zbr at e;split at e
  ·rename_i he;cases he
  ·rename_i k a c es' he;cases he
   split at e
   ·rename_i rid l r' h1 h2;split at e
    ·rename_i hk;cases e
     obtain ⟨i1,i2⟩:=zcw h2;obtain ⟨j1,j2⟩:=zkz h1;refine ⟨by rw [i1,<- hk];rfl,fun x hx => ?_⟩;rcases List.mem_cons.1 hx with rfl | q
     ·exact ⟨j1,j2⟩
     ·exact i2 x q
    ·cases e
   ·cases e
  ·cases e
def znl (f:Nat) (a:List AV) (h:T Blk):Option (AV×T Blk):=if f=60 then (match a with
 | [.map g]=>match T.get .no g h with
  | .map n es=>match zbr h es with
   | some r=>if n=es.length/\0<r.length/\r.length<=2000/\((g::r.map (·.1)).map Pa.toNat).Nodup/\(r.map (·.2.2)).Nodup/\(∀ x∈r,x.2.2.1.length<=1000000) then some (qo ((srtP (r.map (·.2))).map (·.2)),zbn (g::r.map (·.1)) h) else none
   | none=>none
  | _=>none
 | _=>none) else none
theorem zbs:∀ (qs:List Sym),(yR qs).all jd=true
 | []=>rfl
 | _::qs=>zbs qs
theorem zcx:∀ (ps:List Sym) (i:Nat),(yR ps)[i]? = (ps[i / 2]?).map fun p=>if i%2=0 then encI p.1 else .bool p.2
 | [],i=>by simp [yR]
 | p::ps,0=>rfl
 | p::ps,1=>rfl
 | p::ps,i+2=>by
  rw [show (i+2) / 2=i / 2+1 by omega,show (i+2)%2=i%2 by omega,List.getElem?_cons_succ,<- zcx ps i]
  rfl
theorem d8 {α β:Type} {f:α->β}:∀ {l:List α},(l.map f).Nodup->l.Nodup
 | [],_=>.nil
 | a::l,h=>by
  rw [List.map_cons,Zbt] at h;exact List.nodup_cons.2 ⟨fun m=>h.1 (List.mem_map.2 ⟨a,m,rfl⟩),d8 h.2⟩
theorem znm:JOk Tryz.prog B znl:=by
 intro E h nx w f args vs v h2 H hv hj;unfold znl at hj;split at hj
 case isFalse=>cases hj
 rename_i hf;subst hf;split at hj
 case h_2=>cases hj
 rename_i g;split at hj
 case h_2=>cases hj
 rename_i n es hg;split at hj
 case h_2=>cases hj
 rename_i r hr;split at hj
 case isFalse=>cases hj
 rename_i hc;obtain ⟨rfl,hr0,hrl,hnd1,hnd2,hlen⟩:=hc;cases hj
 have hnd1:=d8 hnd1;obtain ⟨rfl,hrow⟩:=zcw hr;have names:(Ob.map g (eF (r.map (·.2)))::r.map fun x=>Ob.arr x.1 (x.2.2.1.map I)).flatMap Ob.names=g::r.map (·.1):=by
  have e:∀ r:List (Pa×(AV×Sym)),(r.map fun x=>Ob.arr x.1 (x.2.2.1.map I)).flatMap Ob.names=r.map (·.1):=by
   intro r
   induction r with
   | nil=>rfl
   | cons x r ih=>show x.1::_=x.1::_;rw [<- ih];rfl
  show g::_=_;rw [<- e];rfl
 have H0:Hp (zbn (g::r.map (·.1)) h) h nx (.map g (eF (r.map (·.2)))::r.map fun x=>.arr x.1 (x.2.2.1.map I)):=⟨fun j hj=>by
   by_cases q:j∈g::r.map (·.1)
   ·exact absurd (zbo _ h j (.inl q)) hj
   ·exact (zcq _ h j q).symm,fun y hy=>by
   rcases List.mem_cons.1 hy with rfl | q
   ·exact hg
   ·obtain ⟨x,hx,rfl⟩:=List.mem_map.1 q;exact (hrow x hx).2,fun m hm=>zbo _ h m (.inl (by rw [names] at hm;exact hm)),by rw [names];exact hnd1,H.fr⟩
 refine zqd (h0:=zbn (g::r.map (·.1)) h) H0.keep (fun K hK => ?_) H hv;have hp:=zcv (r.map (·.2));refine zqc (k:=0) (q:=r.map (·.2)) (s:=srtP (r.map (·.2))) H0 rfl (by rw [Zas];exact hr0) (by rw [Zas];exact hrl) (fun p hq => ?_) (by rw [List.map_map];exact hnd2) hp (zf4 _) fun o h' nx' A H'=>hK _ _ _ H'.fr H'.keep ?_
 ·obtain ⟨x,hx,rfl⟩:=List.mem_map.1 hq;exact ⟨.inr ⟨x.1,(hrow x hx).1,Zam _ (List.mem_map.2 ⟨x,hx,rfl⟩)⟩,hlen x hx⟩
 ·have:=zqe (k:=0) (l':=yR ((srtP (r.map (·.2))).map (·.2))) H' rfl (by rw [kW,wN,Zas]) (zbs _) fun i a b h1 h2 => ?_
  ·show rF _ _ (wz o 2 _) (.lst 2 ((srtP (r.map (·.2))).map (·.2)).length _);rw [Zas];exact this
  rw [vN] at h1;rw [zcx,List.getElem?_map] at h2;cases hx:(srtP (r.map (·.2)))[i / 2]? with
  | none=>rw [hx] at h1;cases h1
  | some p =>
   rw [hx] at h1 h2;simp only [Zbv,Option.some.injEq] at h1 h2;subst h1;subst h2;by_cases c:i%2=0
   ·rw [if_pos c,if_pos c];obtain ⟨x,hxm,rfl⟩:=List.mem_map.1 (hp.mem_iff.1 (Zaa hx));rw [(hrow x hxm).1];have hin:Ob.arr x.1 (x.2.2.1.map I)∈(.gro o 2 (srtP (r.map (·.2))).length (y9 (srtP (r.map (·.2))))::(A++(.map g (eF (r.map (·.2)))::r.map fun x=>Ob.arr x.1 (x.2.2.1.map I)))):=by
     refine Zam _ (Zby _ (Zam _ (List.mem_map.2 ⟨x,hxm,rfl⟩)))
    obtain ⟨k,hk⟩:=List.getElem?_of_mem hin;exact H'.zba hk (by show capLe _ (some _);simp [capLe]) (by simp) (fun v hv=>by obtain ⟨z,_,rfl⟩:=List.mem_map.1 hv;rfl)
   ·rw [if_neg c,if_neg c];exact zJ rfl
theorem Hp.pre {h0 h:T Blk} {nx:Pa} {L:List Ob}:∀ (Y:List Ob),Hp h0 h nx (Y++L)->Hp h0 h nx L
 | [],H=>H
 | _::Y,H=>Hp.pre Y H.drop
theorem at_len {α:Type} (Y:List α) (x:α) (L:List α):(Y++x::L)[Y.length]? = some x:=by
 rw [List.getElem?_append_right (Zaf _),Nat.sub_self];rfl
theorem mV {α:Type} (Y:List α) (x y:α) (L:List α):(Y++x::L).set Y.length y=Y++y::L:=by
 rw [List.set_append,if_neg (Nat.lt_irrefl _),Nat.sub_self];rfl
theorem zv4 {N:Nat} {O:ji Prop} {K:Ks Prop} {tm:T AV} {tmf:AV->AV->T AV} {f:Arg} {ps:List Pa} {a b:IR} {l:List Sym} {h0 h:T Blk} {nx:Pa} {L:List Ob}
  (H:Hp h0 h nx L) (hf:f.ev ⟨tm,[]⟩=.fn 144 (.of 144) [.fp [qo l]]) (hb:∀ (v w:AV) (k:T AV->OP),yT ps [v,w] tm k=k (tmf v w)) (hl:l.length<=1000000)
  (J:Nat->List Ob->Prop) (X:List Ob->Prop) (XE:Nat->List Ob->Prop) (hJ:J 0 L)
  (round:∀ (i:Nat) (x:Sym) (R R':Ob) (h:T Blk) (nx:Pa) (L':List Ob) (M E:Ks Prop) (O1 O2:ji Prop),l[i]? = some x->J i L'->Hp h0 h nx (R::L') ->
   (∀ tm' h nx Y,Hp h0 h nx (Y++R::L')->(∀ h',Hp h0 h' nx (Y++R'::L')->IR.run b (CS Tryz.prog B) N O1 E tm' h' nx=.ok True)->M tm' h nx=.ok True) ->
   (∀ tm' h nx Y L'',J (i+1) L''->Hp h0 h nx (Y++R'::L'')->E tm' h nx=.ok True) ->
   (∀ tm' h nx Y L'',X L''->Hp h0 h nx (Y++R'::L'')->O1.rt tm' h nx=.ok True) ->
   (∀ e tm' h nx Y L'',XE e L''->Hp h0 h nx (Y++R'::L'')->O1.ex e tm' h nx=.ok True) ->
   IR.run a (CS Tryz.prog B) N O2 M (tmf (I i) (encS x)) h nx=.ok True)
  (hK:∀ h' nx' L',J l.length L'->Hp h0 h' nx' L'->K tm h' nx'=.ok True)
  (hRt:∀ h' nx' L',X L'->Hp h0 h' nx' L'->O.rt tm h' nx'=.ok True)
  (hEx:∀ e h' nx' L',XE e L'->Hp h0 h' nx' L'->O.ex e tm h' nx'=.ok True) :
  IR.run (.rf f ps a b) (CS Tryz.prog B) N O K tm h nx=.ok True:=by
 refine H.rf hf fun id h1 nx1 H1 => ?_
 refine zea (fun i L'=>∃ L'',J i L''/\L'=.raw id (.loop .ready .none tm ps a b)::L'')
  (fun L'=>∃ L'' j,((j=Jump.ret/\X L'')\/∃ e,j=Jump.exit e/\XE e L'')/\L'=.raw id (.loop .done j tm ps a b)::L'') hl ⟨L,hJ,rfl⟩ H1 (fun i x h nx L' K' hx hJ' H' hj hs => ?_) fun h' nx' L' hJX H' => ?_
 ·obtain ⟨L2,hJ2,rfl⟩:=hJ';refine za6 (fns:=tbl) yh N fun hf => ?_;rw [zc9 (vL H' (k:=0) rfl) (tm1:=tmf (I i) (encS x)) (hb _ _)];refine round i x _ (.raw id (.loop .busy .none tm ps a b)) _ _ _ _ (yO id K' .none true) (rO id K') _ hx hJ2 H' (fun tm' h nx Y HY hc => ?_) (fun tm' h nx Y L3 hJ3 HY => ?_) (fun tm' h nx Y L3 hJ3 HY => ?_) fun e tm' h nx Y L3 hJ3 HY => ?_
  ·rw [zd2 (vL HY (k:=Y.length) (at_len _ _ _))];have HZ:=HY.zhu (k:=Y.length) (at_len _ _ _) (b':=.loop .busy .none tm ps a b) (by intro e;cases e);rw [mV] at HZ;exact hc _ HZ
  ·refine HY.rend (k:=Y.length) (at_len _ _ _) fun h' H2 => ?_;rw [mV] at H2;exact hj _ _ _ ⟨L3,hJ3,rfl⟩ (Hp.pre Y H2)
  ·show yO id K' .ret false tm' h nx=_;refine HY.rend (k:=Y.length) (at_len _ _ _) fun h' H2 => ?_;rw [mV] at H2;exact hs _ _ _ ⟨L3,.ret,.inl ⟨rfl,hJ3⟩,rfl⟩ (Hp.pre Y H2)
  ·show yO id K' (.exit e) false tm' h nx=_;refine HY.rend (k:=Y.length) (at_len _ _ _) fun h' H2 => ?_;rw [mV] at H2;exact hs _ _ _ ⟨L3,.exit e,.inr ⟨e,rfl,hJ3⟩,rfl⟩ (Hp.pre Y H2)
 ·rcases hJX with ⟨L2,hJ2,rfl⟩ | ⟨L2,j,hj,rfl⟩
  ·refine H'.fV fun h15 H15 => ?_;rw [zbd];exact hK _ _ _ hJ2 H15
  ·refine H'.fV fun h15 H15 => ?_;rcases hj with ⟨rfl,hX⟩ | ⟨e,rfl,hX⟩
   ·rw [pX];exact hRt _ _ _ hX H15
   ·rw [zhd];exact hEx _ _ _ _ hX H15
end Go.Ev
namespace Go.Ev
section
variable {G S:List Sym} {n:Nat}
end
end Go.Ev
namespace Go.Ev
open Go
def sJ (p:List (List Int)) (i j:Nat):Prop:=∃ row∈p,row.getD i 0=(j:Int)
structure tY (p:List (List Int)) (m:Nat):Prop where
 rng:PlOk p m
 refl:∀ i,i<m->sJ p i i
 symm:∀ i j,i<m->sJ p i j->sJ p j i
 trans:∀ i j k,i<m->sJ p i j->sJ p j k->sJ p i k
theorem sJ.lt {p:List (List Int)} {m i j:Nat} (h:PlOk p m) (hi:i<m) (ho:sJ p i j):j<m:=by
 obtain ⟨row,hr,e⟩:=ho;obtain ⟨h1,h2⟩:=h row hr;have hx:row[i]? = some (row.getD i 0):=by rw [Zab,List.getElem?_eq_getElem (by omega)];rfl
 have:=h2 _ (Zaa hx);omega
theorem zia (p:List (List Int)) (j:Nat):(yB p j=(j:Int)\/∃ row∈p,row.getD j 0=yB p j)/\yB p j<=(j:Int)/\∀ row∈p,yB p j<=row.getD j 0:=by
 have key:∀ (q:List (List Int)) (a:Int),(q.foldl (fun m row=>min m (row.getD j 0)) a=a\/∃ row∈q,row.getD j 0=q.foldl (fun m row=>min m (row.getD j 0)) a)/\q.foldl (fun m row=>min m (row.getD j 0)) a<=a/\∀ row∈q,q.foldl (fun m row=>min m (row.getD j 0)) a<=row.getD j 0:=by
  intro q
  induction q with
  | nil=>exact fun a=>⟨.inl rfl,Int.le_refl _,fun row h=>by cases h⟩
  | cons r q ih =>
   intro a;obtain ⟨h1,h2,h3⟩:=ih (min a (r.getD j 0));rw [Zce];refine ⟨?_,by omega,fun row hr => ?_⟩
   ·rcases h1 with h1 | ⟨row,hr,e⟩
    ·by_cases c:a<=r.getD j 0
     ·exact .inl (by rw [h1];omega)
     ·exact .inr ⟨r,by simp,by rw [h1];omega⟩
    ·exact .inr ⟨row,by simp [hr],e⟩
   ·rcases List.mem_cons.1 hr with rfl | hr
    ·omega
    ·exact h3 row hr
 exact key p j
section
variable {p:List (List Int)} {m:Nat}
theorem zcy (A:tY p m) {j:Nat} (hj:j<m):∃ c:Nat,yB p j=(c:Int)/\sJ p j c/\c<=j/\∀ k,sJ p j k->c<=k:=by
 obtain ⟨h1,h2,h3⟩:=zia p j;have hb:=zfq A.rng hj p.length;rw [Zca] at hb;have hb:0<=yB p j:=hb.1;refine ⟨(yB p j).toNat,by omega,?_,by omega,fun k ⟨row,hr,e⟩=>by have:=h3 row hr;omega⟩;rcases h1 with h1 | ⟨row,hr,e⟩
 ·have:(yB p j).toNat=j:=by omega
  rw [this];exact A.refl j hj
 ·exact ⟨row,hr,by omega⟩
theorem wK (A:tY p m) {i j:Nat} (hj:j<m):yB p j=(i:Int)↔sJ p j i/\∀ k,sJ p j k->i<=k:=by
 obtain ⟨c,h1,h2,h3,h4⟩:=zcy A hj;constructor
 ·intro h;obtain rfl:c=i:=by omega
  exact ⟨h2,h4⟩
 ·rintro ⟨h5,h6⟩;have:=h4 i h5;have:=h6 c h2;omega
theorem dL (A:tY p m) {i j:Nat} (hj:j<m) (h:yB p j=(i:Int)):i<m/\yB p i=(i:Int):=by
 obtain ⟨h1,h2⟩:=(wK A hj).1 h;have hi:=h1.lt A.rng hj;exact ⟨hi,(wK A hi).2 ⟨A.refl i hi,fun k hk=>h2 k (A.trans j i k hj h1 hk)⟩⟩
theorem zk0 (A:tY p m) {i j:Nat} (hi:i<m) (hl:yB p i=(i:Int)) (hj:j<m):yB p j=(i:Int)↔sJ p i j:=by
 rw [wK A hj];constructor
 ·exact fun h=>A.symm j i hj h.1
 ·intro h;have hs:=A.symm i j hi h;exact ⟨hs,fun k hk=>((wK A hi).1 hl).2 k (A.trans i j k hi h hk)⟩
theorem zob (A:tY p m) {i:Nat} (hi:i<m):0<bK p m i↔yB p i=(i:Int):=by
 rw [bK,List.length_pos_iff];constructor
 ·intro h;obtain ⟨j,hj⟩:=List.exists_mem_of_ne_nil _ h;obtain ⟨h1,h2⟩:=List.mem_filter.1 hj;exact (dL A (List.mem_range.1 h1) (of_decide_eq_true h2)).2
 ·intro h e;have:i∈(List.range m).filter fun j=>decide (yB p j=(i:Int)):=List.mem_filter.2 ⟨List.mem_range.2 hi,decide_eq_true h⟩;rw [e] at this;cases this
end
end Go.Ev
namespace Go.Ev
open Go Go.Proofs
variable {B:Nat}
theorem zqf {P:Program} {f:Nat} {p:Pa} {h:T Blk} {nx:Pa} {K:Kw Prop} {e:Nat} (h1:(CS P B).fn f p [.zf] h nx K=.ok True) (h2:(CS P B).fn f p [.esl] h nx K=.ok True):(CS P B).fn f p [.lst e 0 []] h nx K=.ok True:=by
 rw [fM] at h1 h2 ⊢;refine ⟨fun E w vs H hv => ?_,rfl⟩;simp only [VRL] at hv;obtain ⟨v,m,hvs,hv1,hm⟩:=hv;rcases hv1.lst0 with q | q
 ·exact h1.1 E w vs H (by simp only [VRL];exact ⟨v,m,hvs,q,hm⟩)
 ·exact h2.1 E w vs H (by simp only [VRL];exact ⟨v,m,hvs,q,hm⟩)
theorem zoc (f:List Int) (hl:f.length<=1000):Pure Tryz.prog B 48 [encI f] (· = encI f):=by
 have body:∀ (w:AV) {h:T Blk} {nx:Pa} {K:Kw Prop} (H0:Hp h h nx []) (hr:∀ h1 (no:OP) (K':List AV->Nat->OP),uI w h1 no K'=K' (f.map I) f.length) (hK:∀ (v:AV) (h':T Blk) (nx':Pa) (L:List Ob) (v':AV),Hp h h' nx' L->rF h h' v v'->v'=encI f->K v h' nx'=.ok True),
   (yU 1 0 [I 0] [] h nx fun v2 h3 n4=>sZ 1 8 v2 w h3 n4 fun v5 h6 n7=>K v5 h6 n7)=.ok True:=by
  intro w h nx K H0 hr hK;refine H0.copy (new:=f.map I) (c:=f.length) (fun h1 _=>hr h1) (by simp) (fun v hv=>by obtain ⟨x,_,rfl⟩:=List.mem_map.1 hv;rfl) (by decide) (by omega) fun v X h' nx' H' _ _ hF => ?_;exact hK _ _ _ _ _ H' (hF _ _ _ _ H' (by simp)) rfl
 cases f with
 | cons x t =>
  refine yM fun h nx K H0 hK=>zN zQ yh 9 fun hf => ?_;rw [F48.go];have e:∀ A C:OP,(zk .eql (.nil .sl) (encI (x::t)) .zf fun v1=>zO v1 A C)=C:=fun A C=>nr rfl;rw [e];exact body _ H0 (fun h1=>zvo 1) hK
 | nil =>
  intro p h nx K hK;refine zqf ?_ ?_
  ·refine zdx (Q:=(· = encI [])) (fun hfr K hK=>zN zQ yh 9 fun _ => ?_) (fun v hv hf=>hK v hv hf);rw [F48.go];have e:∀ A C:OP,(zk .eql (.nil .sl) .zf .zf fun v1=>zO v1 A C)=A:=fun A C=>nr rfl;rw [e];exact hK _ _ _ hfr (fun _ _=>rfl) ⟨_,.za7 1,rfl⟩
  ·refine zdx (Q:=(· = encI [])) (fun hfr K hK=>zN zQ yh 9 fun _ => ?_) (fun v hv hf=>hK v hv hf);rw [F48.go];have e:∀ A C:OP,(zk .eql (.nil .sl) .esl .zf fun v1=>zO v1 A C)=C:=fun A C=>nr rfl;rw [e];exact body _ (Hp.init hfr) (fun h1 no K'=>rfl) (fun v h' nx' L v' H' hF hv=>hK v h' nx' H'.fr H'.keep ⟨v',hF,hv⟩)
def mN (row:List Int) (i:Nat):Nat:=((List.range i).filter fun j=>decide (row.getD j 0=(j:Int))).length
def fixL (p:List (List Int)) (m:Nat):List Int:=p.map fun row=>((mN row m:Nat):Int)
theorem zib (row:List Int) (i:Nat):mN row (i+1)=mN row i+if row.getD i 0=(i:Int) then 1 else 0:=by
 rw [mN,Zcf,List.filter_append,Zan]
 congr 1
 by_cases c:row.getD i 0=(i:Int)
 ·rw [if_pos c,Zaw,if_pos (decide_eq_true c)];rfl
 ·rw [if_neg c,Zaw,if_neg (by simpa using c)];rfl
structure oP (G:List Sym) (l:List (List Int)) (n:Nat):Prop where
 gr:oH G n
 len:l.length<=1024
 ord:Ord l
 fl:∀ f∈l,f.length=n/\∀ x∈f, -999999999<=x/\x<=999999999
 cl:∀ g∈G,∀ f∈l,yI g.2 g.1 f∈l
end Go.Ev
namespace Go.Ev
theorem zcz {α:Type} [DecidableEq α]:∀ (l r:List α),l.Nodup->(∀ x∈l,x∈r)->∃ s,r.Perm (l++s)
 | [],r,_,_=>⟨r,.refl _⟩
 | a::l,r,hn,hs=>by
  obtain ⟨h1,h2⟩:=List.nodup_cons.1 hn;have ha:=hs a (by simp);obtain ⟨s,hp⟩:=zcz l (r.erase a) h2 fun x hx=>(List.mem_erase_of_ne (by rintro rfl;exact h1 hx)).2 (hs x (by simp [hx]));exact ⟨s,(List.perm_cons_erase ha).trans (.cons a hp)⟩
theorem zf7 {α:Type} [DecidableEq α] {l r:List α} (h1:l.Nodup) (h2:∀ x∈l,x∈r) (h3:r.length<=l.length):r.Perm l:=by
 obtain ⟨s,hs⟩:=zcz l r h1 h2;have hl:=hs.length_eq;obtain rfl:s=[]:=Zbc (by rw [Zan] at hl;omega);simpa using hs
theorem zc0 {α:Type} {l:List α} (h:l.Nodup) {i j:Nat} {x:α} (hi:l[i]? = some x) (hj:l[j]? = some x):i=j:=by
 obtain ⟨a1,a2⟩:=List.getElem?_eq_some_iff.1 hi;obtain ⟨b1,b2⟩:=List.getElem?_eq_some_iff.1 hj;have hp:=List.pairwise_iff_getElem.1 h;rcases Nat.lt_trichotomy i j with c | c | c
 ·exact absurd (a2.trans b2.symm) (hp i j a1 b1 c)
 ·exact c
 ·exact absurd (b2.trans a2.symm) (hp j i b1 a1 c)
theorem getD_some {l:List Int} {i:Nat} (h:i<l.length):l[i]? = some (l.getD i 0):=by
 rw [Zab,List.getElem?_eq_getElem h];rfl
theorem bf.surj {g:List Int} (h:bf g) {j:Nat} (hj:j<g.length):∃ i,i<g.length/\g[i]? = some (j:Int):=by
 have hp:((List.range g.length).map fun (i:Nat)=>(i:Int)).Perm g:=zf7 h.1 (fun x hx=>by
  have:=h.2 x hx;exact List.mem_map.2 ⟨x.toNat,List.mem_range.2 (by omega),by omega⟩) (by simp)
 have hm:(j:Int)∈g:=hp.mem_iff.1 (List.mem_map.2 ⟨j,List.mem_range.2 hj,rfl⟩);obtain ⟨i,hi⟩:=List.mem_iff_getElem?.1 hm;exact ⟨i,(List.getElem?_eq_some_iff.1 hi).1,hi⟩
theorem zbt {n:Nat} {c:Bool} {g f:List Int} (hg:bf g) (hgn:g.length=n):∀ (i k:Nat),i<=n->k<i->(wC n c g f i)[(g.getD k 0).toNat]? = some (xOf n c (f.getD k 0))
 | 0,k,_,h=>by omega
 | i+1,k,hi,h=>by
  rw [qW];have hk:=hg.2 _ (Zaa (getD_some (l:=g) (i:=k) (by omega)));have hi':=hg.2 _ (Zaa (getD_some (l:=g) (i:=i) (by omega)));by_cases e:k=i
  ·subst e;rw [List.getElem?_set,if_pos rfl,if_pos (by rw [jY];omega)]
  ·rw [List.getElem?_set_ne,zbt hg hgn i k (by omega) (by omega)];intro q;have e1:g.getD i 0=g.getD k 0:=by omega
   have:=zc0 hg.1 (getD_some (l:=g) (i:=i) (by omega)) (e1 ▸ getD_some (l:=g) (i:=k) (by omega));omega
theorem zic {c:Bool} {g f:List Int} (hg:bf g) (hgn:g.length=f.length) {k:Nat} (h:k<f.length):(yI c g f)[(g.getD k 0).toNat]? = some (xOf f.length c (f.getD k 0)):=zbt hg hgn _ k (Zaf _) h
theorem Nrm.surj {f:List Int} (h:Nrm f) {j:Nat} (hj:j<f.length):∃ i,i<f.length/\(f.getD i 0-1).toNat=j:=by
 have hm:(j:Int)+1∈f:=by
  have h1:=(zpy f).2 h;have:(j:Int)+1∈srt f:=by rw [h1];exact List.mem_map.2 ⟨j,List.mem_range.2 hj,rfl⟩
  exact (dZ f).mem_iff.1 this
 obtain ⟨i,hi⟩:=List.mem_iff_getElem?.1 hm;refine ⟨i,(List.getElem?_eq_some_iff.1 hi).1,?_⟩;rw [Zab,hi];simp
end Go.Ev
namespace Go.Ev
open Go Go.Proofs
theorem oP.of {G:List Sym} {l:List (List Int)} (h:uS G l=0):∃ n:Nat,yG G=(n:Int)/\oP G l n:=by
 obtain ⟨e1,e2,e3,e4⟩:=zfz h;obtain ⟨n,hn,hg⟩:=vK e1;obtain ⟨f1,f2,_⟩:=zh0 e3
 exact ⟨n,hn,hg,e2,f2,fun f hf=>by
  obtain ⟨q1,q2⟩:=dP (f1 f hf);exact ⟨by omega,q2⟩,e4⟩
theorem wU (c:Bool) (g f:List Int):(yI c g f).length=f.length:=jY _ _ _ _ _
theorem zqg (n:Nat) (a b:Bool) (x:Int):xOf n a (xOf n b x)=xOf n (a != b) x:=by
 cases a <;> cases b <;> simp [xOf] <;> omega
theorem DP.surj {n:Nat} {a:Sym} (ha:DP n a) {j:Nat} (hj:j<n):∃ i,i<n/\a.1.getD i 0=(j:Int):=by
 have h1:=ha.1.1;obtain ⟨i,hi,e⟩:=ha.perm.surj (show j<a.1.length by omega);exact ⟨i,by omega,by rw [Zab,e];rfl⟩
theorem vS {n:Nat} {a:Sym} (ha:DP n a) {f:List Int} (hf:f.length=n) {k:Nat} (hk:k<n):(yI a.2 a.1 f)[(a.1.getD k 0).toNat]? = some (xOf n a.2 (f.getD k 0)):=by
 have h1:=ha.1.1;have:=zic (c:=a.2) ha.perm (show a.1.length=f.length by omega) (show k<f.length by omega);rw [hf] at this;exact this
theorem dU {n:Nat} {a b:Sym} (ha:DP n a) (hb:DP n b) {f:List Int} (hf:f.length=n):yI (yK a b).2 (yK a b).1 f=yI a.2 a.1 (yI b.2 b.1 f):=by
 have hc:=(xV n).dm a b ha hb;have hl:=wU b.2 b.1 f;refine wP (n:=n) (by rw [wU,hf]) (by rw [wU,wU,hf]) fun j hj => ?_;obtain ⟨i,hi,e⟩:=hc.surj hj;have g1:=vS hc hf hi;obtain ⟨_,b1,b2⟩:=hb.1.get hi;have hk:(b.1.getD i 0).toNat<n:=by omega
 have g2:=vS hb hf hi;have g3:=vS ha (show (yI b.2 b.1 f).length=n by omega) hk;rw [Zab (l:=yI b.2 b.1 f),g2] at g3;have e2:a.1.getD (b.1.getD i 0).toNat 0=(j:Int):=by
  rw [<- e,Zab (l:=(yK a b).1),uO hb.1 hi];rfl
 rw [e2,Int.toNat_natCast] at g3;rw [e,Int.toNat_natCast] at g1;rw [g1,g3]
 congr 1
 exact (zqg n a.2 b.2 _).symm
theorem zf8 {n:Nat} {f:List Int} (hf:f.length=n):yI (idS n).2 (idS n).1 f=f:=by
 have hd:=(xV n).de;refine wP (n:=n) (by rw [wU,hf]) hf fun j hj => ?_;have e:(idS n).1.getD j 0=(j:Int):=by
  show ((List.range n).map fun j:Nat=>(j:Int)).getD j 0=_;rw [Zab,List.getElem?_map,List.getElem?_range hj];rfl
 have:=vS hd hf hj;rw [e,Int.toNat_natCast] at this;rw [this,Zab,List.getElem?_eq_getElem (by omega)];rfl
theorem oH.linv {G:List Sym} {n:Nat} (h:oH G n) {a:Sym} (ha:a∈G):∃ b∈G,yK b a=idS n:=by
 have L:=xV n;obtain ⟨b,hb,e1⟩:=h.inv a ha;obtain ⟨c,hc,e2⟩:=h.inv b hb;have da:=h.dp a ha;have db:=h.dp b hb;have dc:=h.dp c hc;have:a=c:=by
  have:=L.assoc a b c da db dc;rw [e1,e2,L.el c dc,L.er a da] at this;exact this.symm
 exact ⟨b,hb,by rw [this];exact e2⟩
section
variable {G:List Sym} {l:List (List Int)} {n:Nat}
theorem zed (l:List (List Int)) (g:Sym) {i:Nat} (hi:i<l.length):(uY l g l.length).getD i 0=((l.idxOf (yI g.2 g.1 (l.getD i [])):Nat):Int):=by
 rw [uY,Zca,Zab,List.getElem?_map,List.getElem?_eq_getElem hi,Zab (l:=l),List.getElem?_eq_getElem hi];rfl
theorem kD {l:List (List Int)} {i:Nat} (hi:i<l.length):l.getD i []∈l:=by
 rw [Zab,List.getElem?_eq_getElem hi];exact Zah hi
theorem zbu (ho:Ord l) {i:Nat} (hi:i<l.length):l.idxOf (l.getD i [])=i:=zjb ho (by rw [Zab,List.getElem?_eq_getElem hi];rfl)
theorem zbv {f:List Int} (hf:f∈l):l.getD (l.idxOf f) []=f:=by
 have h:=List.idxOf_lt_length_iff.2 hf;rw [Zab,List.getElem?_eq_getElem h];exact List.getElem_idxOf h
theorem xB (H:oP G l n) {i j:Nat} (hi:i<l.length):sJ (plT G l) i j↔j<l.length/\∃ g∈G,yI g.2 g.1 (l.getD i [])=l.getD j []:=by
 constructor
 ·rintro ⟨row,hr,e⟩;obtain ⟨g,hg,rfl⟩:=List.mem_map.1 hr;rw [zed l g hi] at e;have hm:=H.cl g hg _ (kD hi);have hj:l.idxOf (yI g.2 g.1 (l.getD i []))=j:=by omega
  exact ⟨by rw [<- hj];exact List.idxOf_lt_length_iff.2 hm,g,hg,by rw [<- hj,zbv hm]⟩
 ·rintro ⟨hj,g,hg,e⟩;exact ⟨_,List.mem_map.2 ⟨g,hg,rfl⟩,by rw [zed l g hi,e,zbu H.ord hj]⟩
theorem oP.act (H:oP G l n):tY (plT G l) l.length:={
 rng:=zn5 H.cl
 refl i hi:=(xB H hi).2 ⟨hi,idS n,H.gr.one,zf8 (H.fl _ (kD hi)).1⟩
 symm i j hi h:=by
  obtain ⟨hj,g,hg,e⟩:=(xB H hi).1 h;obtain ⟨b,hb,eb⟩:=H.gr.linv hg;refine (xB H hj).2 ⟨hi,b,hb,?_⟩;rw [<- e,<- dU (H.gr.dp b hb) (H.gr.dp g hg) (H.fl _ (kD hi)).1,eb,zf8 (H.fl _ (kD hi)).1]
 trans i j k hi h1 h2:=by
  obtain ⟨hj,g,hg,e⟩:=(xB H hi).1 h1;obtain ⟨hk,g',hg',e'⟩:=(xB H hj).1 h2;refine (xB H hi).2 ⟨hk,yK g' g,H.gr.cl g' hg' g hg,?_⟩;rw [dU (H.gr.dp g' hg') (H.gr.dp g hg) (H.fl _ (kD hi)).1,e,e'] }
def fixG (l:List (List Int)) (g:Sym) (i:Nat):Nat:=((List.range i).filter fun j=>decide (yI g.2 g.1 (l.getD j [])=l.getD j [])).length
theorem zqh (H:oP G l n) {g:Sym} (hg:g∈G) {i:Nat} (hi:i<=l.length):fixG l g i=mN (uY l g l.length) i:=by
 rw [fixG,mN]
 congr 1
 refine List.filter_congr fun j hj => ?_;have hj:j<l.length:=by have:=List.mem_range.1 hj;omega
 have hm:=H.cl g hg _ (kD hj);rw [zed l g hj]
 congr 1
 apply propext;constructor
 ·intro e;rw [e,zbu H.ord hj]
 ·intro e;have e:l.idxOf (yI g.2 g.1 (l.getD j []))=j:=by omega
  have:=zbv hm;rw [e] at this;exact this.symm
theorem zqi (H:oP G l n):fixL (plT G l) l.length=G.map fun g=>((fixG l g l.length:Nat):Int):=by
 rw [fixL,plT,List.map_map];exact Zch fun g hg=>by rw [zqh H hg (Zaf _)];rfl
end
end Go.Ev
namespace Go.Ev
abbrev AscS (l:List Sym):Prop:=l.Pairwise fun a b=>sH a b=true
theorem AscS.nd {l:List Sym} (h:AscS l):l.Nodup:=h.imp fun hab e=>by rw [e,zf1] at hab;cases hab
end Go.Ev
namespace Go.Ev
open Go Go.Proofs
variable {B:Nat}
set_option maxRecDepth 100000
theorem zqj {P:Program} {f:Nat} {p:Pa} {args args':List AV} {h:T Blk} {nx:Pa} {K:Kw Prop} (hv:∀ (E:Env) (vs:List Value),VRL E args vs->VRL E args' vs) (hk:(CS P B).fn f p args' h nx K=.ok True):(CS P B).fn f p args h nx K=.ok True:=by
 rw [fM] at hk ⊢;exact ⟨fun E w vs H hv'=>hk.1 E w vs H (hv _ _ hv'),rfl⟩
theorem zqk {E:Env} {e:Nat} {vv:Value} (h:VR E .zf vv):VR E (.lst e 0 []) vv:=by
 simp only [VR] at h ⊢;exact ⟨rfl,by simp,none,0,h,.inl (by simp)⟩
def LG (v:AV) (l:List Sym):Prop:=(v=.zf/\l=[])\/(v=qo l/\l≠[])
theorem LG.len {v:AV} {l:List Sym} (h:LG v l) {op:AV->OP}:sLen v op=op (I l.length):=by
 rcases h with ⟨rfl,rfl⟩ | ⟨rfl,_⟩
 ·exact yN
 ·exact zG ..
theorem LG.frz {v:AV} {l:List Sym} (h:LG v l) {N:Pa->Prop} {O:AV->Prop} {hh:T Blk}:Frz True N O hh v (qo l):=by
 rcases h with ⟨rfl,rfl⟩ | ⟨rfl,_⟩
 ·exact .za7 2
 ·exact zJ (zct _)
theorem LG.call {P:Program} {f:Nat} {p:Pa} {v:AV} {rest:List AV} {l:List Sym} (h:LG v l) {hh:T Blk} {nx:Pa} {K:Kw Prop} (hk:(CS P B).fn f p (qo l::rest) hh nx K=.ok True):(CS P B).fn f p (v::rest) hh nx K=.ok True:=by
 rcases h with ⟨rfl,rfl⟩ | ⟨rfl,_⟩
 ·refine zqj (fun E vs hv => ?_) hk;simp only [VRL] at hv ⊢;obtain ⟨a,m,q,r,s⟩:=hv;exact ⟨a,m,q,zqk r,s⟩
 ·exact hk
end Go.Ev
namespace Go.Ev
open Go.Proofs (uh xR qT kU jJ)
abbrev AscT (l:List (List Int)):Prop:=l.Pairwise fun a b=>yS a b=true
end Go.Ev
namespace Go.Ev
open Go Go.Proofs
variable {B:Nat}
set_option maxRecDepth 100000
def Kept (s r:List (List Int)) (j:Nat):Prop:=AscT r/\(∀ x,x∈r↔x∈s.take j)/\1<=r.length/\r.length<=j/\r.getLast? = s[j-1]?
theorem Kept.same {s r:List (List Int)} {j:Nat} (hj:1<=j) (h:Kept s r j) (hl:j<s.length) (e:s[j]=s[j-1]):Kept s r (j+1):=by
 obtain ⟨h1,h2,h3,h4,h5⟩:=h;have hp:s[j-1]? = some s[j-1]:=List.getElem?_eq_getElem (by omega);refine ⟨h1,fun x => ?_,h3,by omega,?_⟩
 ·rw [h2,Zar,List.getElem?_eq_getElem hl,Zao];constructor
  ·exact .inl
  ·rintro (q | q)
   ·exact q
   ·have:x=s[j-1]:=by rw [<- e];simpa using q
    rw [this];exact Zaa (i:=j-1) (by rw [List.getElem?_take_of_lt (by omega)];exact hp)
 ·rw [h5,hp,Nat.add_sub_cancel,List.getElem?_eq_getElem hl,e]
theorem Kept.new {s r:List (List Int)} {j:Nat} (hj:1<=j) (h:Kept s r j) (hs:s.Pairwise fun a b=>uh a b<=0) (hl:j<s.length) (e:s[j]≠s[j-1]):Kept s (r++[s[j]]) (j+1):=by
 obtain ⟨h1,h2,h3,h4,h5⟩:=h;have hlt:∀ x∈s.take j,yS x s[j]=true:=fun x hx=>by
  have hpw:=List.pairwise_iff_getElem.1 hs;obtain ⟨i,hi⟩:=List.getElem?_of_mem hx;have hil:=(List.getElem?_eq_some_iff.1 hi).1;rw [Zbm] at hil;rw [List.getElem?_take_of_lt (by omega),List.getElem?_eq_getElem (by omega)] at hi;obtain rfl:=Option.some.inj hi;have a1:=hpw i j (by omega) hl (by omega);have a2:=hpw (j-1) j (by omega) hl (by omega);have a3:uh s[j-1] s[j]≠0:=fun q=>e (qT q).symm;rw [u5];by_cases q:i=j-1
  ·subst q;exact decide_eq_true (by omega)
  ·have a4:=hpw i (j-1) (by omega) (by omega) (by omega);by_cases z:uh s[i] s[j-1]=0
   ·rw [qT z];exact decide_eq_true (by omega)
   ·exact decide_eq_true (jJ (b:=s[j-1]) (by omega) (by omega))
 refine ⟨List.pairwise_append.2 ⟨h1,by simp,fun x hx y hy => ?_⟩,fun x => ?_,by simp,by simp;omega,?_⟩
 ·rw [List.mem_singleton.1 hy];exact hlt x ((h2 x).1 hx)
 ·rw [Zao,h2,Zar,List.getElem?_eq_getElem hl,Zao];simp
 ·rw [Nat.add_sub_cancel,List.getElem?_eq_getElem hl];simp
theorem q8 {a b c:List Int} (h1:uh a b<=0) (h2:uh b c<=0):uh a c<=0:=by
 by_cases z1:uh a b=0
 ·rw [qT z1];exact h2
 ·by_cases z2:uh b c=0
  ·rw [<- qT z2];exact h1
  ·have:=jJ (a:=a) (b:=b) (c:=c) (by omega) (by omega);omega
def LT (v:AV) (l:List (List Int)):Prop:=(v=.zf/\l=[])\/(v=cZ l/\l≠[])
theorem LT.len {v:AV} {l:List (List Int)} (h:LT v l) {op:AV->OP}:sLen v op=op (I l.length):=by
 rcases h with ⟨rfl,rfl⟩ | ⟨rfl,_⟩
 ·exact yN
 ·exact zG ..
theorem LT.frz {v:AV} {l:List (List Int)} (h:LT v l) {N:Pa->Prop} {O:AV->Prop} {hh:T Blk}:Frz True N O hh v (cZ l):=by
 rcases h with ⟨rfl,rfl⟩ | ⟨rfl,_⟩
 ·exact .za7 1
 ·exact zJ (zj3 _)
end Go.Ev
namespace Go.Ev
open Go.Proofs
section
variable {G S:List Sym} {n:Nat}
end
end Go.Ev
namespace Go.Ev
section
variable {G:List Sym} {n:Nat}
end
end Go.Ev
namespace Go.Ev
abbrev nxt (p:List Int) (c:Nat):Nat:=(p.getD c 0).toNat
def orbF (p:List Int):Nat->Nat->List Nat->List Nat
 | 0,_,S=>S
 | f+1,c,S=>if c∈S then S else orbF p f (nxt p c) (S++[c])
def oQ (p:List Int) (c:Nat) (S:List Nat):List Nat:=orbF p (p.length-S.length) c S
theorem zql {p:List Int} {c:Nat} {S:List Nat} (h:c∈S):∀ f,orbF p f c S=S
 | 0=>rfl
 | f+1=>by rw [orbF,if_pos h]
theorem zee {p:List Int} {c:Nat} {S:List Nat} (h:c∈S):oQ p c S=S:=zql h _
theorem zc1 {p:List Int} {c:Nat} {S:List Nat} (h:c∉S) (hl:S.length<p.length):oQ p c S=oQ p (nxt p c) (S++[c]):=by
 obtain ⟨f,hf⟩:∃ f,p.length-S.length=f+1:=⟨p.length-S.length-1,by omega⟩;unfold oQ;rw [hf,orbF,if_neg h,Zan,List.length_singleton,show p.length-(S.length+1)=f by omega]
def stT (p:List Int) (s:List Nat×List (List Nat)) (i:Nat):List Nat×List (List Nat):=(oQ p i s.1,if s.1.length<(oQ p i s.1).length then s.2++[(oQ p i s.1).drop s.1.length] else s.2)
def fH (p:List Int) (k:Nat):List Nat×List (List Nat):=(List.range k).foldl (stT p) ([],[])
theorem mD (p:List Int) (k:Nat):fH p (k+1)=stT p (fH p k) k:=by unfold fH;rw [Zcf,List.foldl_append];rfl
theorem mZ (p:List Int):∀ k,(fH p k).2.length<=k
 | 0=>Zaf _
 | k+1=>by
  have:=mZ p k;rw [mD];unfold stT;simp only;split
  ·simp;omega
  ·omega
def jT (p:List Int):List Nat:=(fH p p.length).2.map List.length
def itN (p:List Int):Nat->Nat->Nat
 | 0,c=>c
 | k+1,c=>nxt p (itN p k c)
theorem zjf (p:List Int):∀ a b c,itN p (a+b) c=itN p a (itN p b c)
 | 0,b,c=>by rw [Zax];rfl
 | a+1,b,c=>by rw [Nat.succ_add];show nxt p (itN p (a+b) c)=nxt p (itN p a (itN p b c));rw [zjf p a b c]
structure PN (p:List Int):Prop where
 lt:∀ i,i<p.length->nxt p i<p.length
 inj:∀ i j,i<p.length->j<p.length->nxt p i=nxt p j->i=j
theorem PN.itlt {p:List Int} (h:PN p):∀ k i,i<p.length->itN p k i<p.length
 | 0,_,hi=>hi
 | k+1,i,hi=>h.lt _ (h.itlt k i hi)
structure Cl (p:List Int) (S:List Nat):Prop where
 nd:S.Nodup
 lt:∀ x∈S,x<p.length
 cl:∀ x∈S,nxt p x∈S
theorem Cl.back {p:List Int} (h:PN p) {S:List Nat} (C:Cl p S) {x:Nat} (hx:x<p.length) (hn:nxt p x∈S):x∈S:=by
 have nd:(S.map (nxt p)).Nodup:=by
  rw [List.Nodup,Zbr];refine (List.Pairwise.and_mem.1 C.nd).imp ?_;rintro a b ⟨ha,hb,hab⟩ q;exact hab (h.inj a b (C.lt a ha) (C.lt b hb) q)
 have:=allG nd (fun y hy=>by obtain ⟨z,hz,rfl⟩:=List.mem_map.1 hy;exact C.cl z hz) (by simp) _ hn;obtain ⟨y,hy,e⟩:=List.mem_map.1 this;rw [<- h.inj y x (C.lt y hy) hx e];exact hy
theorem Cl.zro {p:List Int} (h:PN p) {S:List Nat} (C:Cl p S) {i:Nat} (hi:i<p.length):∀ k,itN p k i∈S->i∈S
 | 0,q=>q
 | k+1,q=>C.zro h hi k (C.back h (h.itlt k i hi) q)
abbrev tN (p:List Int) (i k:Nat):List Nat:=(List.range k).map fun j=>itN p j i
theorem zjg (p:List Int) (i k:Nat):tN p i (k+1)=tN p i k++[itN p k i]:=by unfold tN;rw [Zcf,Zbh];rfl
theorem zod {p:List Int} {i k a b:Nat} (h:(tN p i k).Nodup) (ha:a<k) (hb:b<k) (e:itN p a i=itN p b i):a=b:=by
 have:=List.pairwise_map.1 h;rcases Nat.lt_trichotomy a b with q | q | q
 ·have:=List.pairwise_iff_getElem.1 this a b (by simpa using ha) (by simpa using hb) q;simp at this;exact absurd e this
 ·exact q
 ·have:=List.pairwise_iff_getElem.1 this b a (by simpa using hb) (by simpa using ha) q;simp at this;exact absurd e.symm this
structure zc2 (p:List Int) (r h:Nat):Prop where
 pos:0<r
 back:itN p r h=h
 min:∀ j,0<j->j<r->itN p j h≠h
theorem zid {n:Nat} {l:List Nat} (hn:l.Nodup) (hl:∀ x∈l,x<n):l.length<=n:=by
 have:=lenG hn (r:=List.range n) fun x hx=>List.mem_range.2 (hl x hx);simpa using this
theorem zqm {p:List Int} (h:PN p) {S:List Nat} (C:Cl p S) {i:Nat} (hi:i<p.length) (hS:i∉S):∀ (f k:Nat),f=p.length-(S.length+k)->(S++tN p i k).Nodup ->
  ∃ r,oQ p (itN p k i) (S++tN p i k)=S++tN p i r/\(S++tN p i r).Nodup/\zc2 p r i:=by
 intro f
 induction f with
 | zero =>
  intro k hf hn;have hall:∀ x∈S++tN p i k,x<p.length:=fun x hx=>by
   rcases List.mem_append.1 hx with q | q
   ·exact C.lt x q
   ·obtain ⟨j,_,rfl⟩:=List.mem_map.1 q;exact h.itlt j i hi
  exact zbw h C hi hS hn (Decidable.byContradiction fun q=>by
   have:=zid (l:=(S++tN p i k)++[itN p k i]) (List.nodup_append.2 ⟨hn,by simp,by rintro a ha b hb rfl;rw [List.mem_singleton.1 hb] at ha;exact q ha⟩) (fun x hx=>by
    rcases List.mem_append.1 hx with q | q
    ·exact hall x q
    ·rw [List.mem_singleton.1 q];exact h.itlt k i hi)
   simp at this;omega)
 | succ f ih =>
  intro k hf hn;by_cases c:itN p k i∈S++tN p i k
  ·exact zbw h C hi hS hn c
  ·have hn2:(S++tN p i (k+1)).Nodup:=by
    rw [zjg,<- Zbx];exact List.nodup_append.2 ⟨hn,by simp,by rintro a ha b hb rfl;rw [List.mem_singleton.1 hb] at ha;exact c ha⟩
   rw [zc1 c (by simp;omega),Zbx,<- zjg];exact ih (k+1) (by omega) hn2
where
 zbw {p:List Int} (h:PN p) {S:List Nat} (C:Cl p S) {i k:Nat} (hi:i<p.length) (hS:i∉S) (hn:(S++tN p i k).Nodup) (c:itN p k i∈S++tN p i k):∃ r,oQ p (itN p k i) (S++tN p i k)=S++tN p i r/\(S++tN p i r).Nodup/\zc2 p r i:=by
  rw [zee c];have hk0:0<k:=Nat.pos_of_ne_zero fun q=>by
   subst q;have:i∈S:=by simpa [tN,itN] using c
   exact hS this
  have hnT:=(List.nodup_append.1 hn).2.1;rcases List.mem_append.1 c with q | q
  ·exact absurd (C.zro h hi k q) hS
  ·obtain ⟨j,hj,e⟩:=List.mem_map.1 q;have hj:=List.mem_range.1 hj;have e:itN p j i=itN p k i:=e;have hj0:j=0:=Decidable.byContradiction fun q=>by
    obtain ⟨j',rfl⟩:∃ j',j=j'+1:=⟨j-1,by omega⟩;obtain ⟨k',rfl⟩:∃ k',k=k'+1:=⟨k-1,by omega⟩;have:=h.inj _ _ (h.itlt j' i hi) (h.itlt k' i hi) e;have:=zod hnT (by omega) (by omega) this;omega
   subst hj0;refine ⟨k,rfl,hn,hk0,e.symm,fun a ha hak q => ?_⟩;have:=zod hnT hak hk0 (show itN p a i=itN p 0 i from q);omega
theorem zjh {p:List Int} (h:PN p):∀ k,k<=p.length->Cl p (fH p k).1/\(∀ j,j<k->j∈(fH p k).1)/\(∀ x∈(fH p k).1,∃ T∈(fH p k).2,∃ b a,x=itN p a b/\zc2 p T.length b/\b<p.length)/\∀ T∈(fH p k).2,∃ b,b<p.length/\zc2 p T.length b
 | 0,_=>⟨⟨by simp [fH],by simp [fH],by simp [fH]⟩,fun j hj=>by omega,by simp [fH],by simp [fH]⟩
 | k+1,hk=>by
  obtain ⟨C,h1,h2,h3⟩:=zjh h k (by omega);rw [mD]
  generalize fH p k=s at *
  unfold stT;simp only;by_cases c:k∈s.1
  ·rw [zee c,if_neg (by omega)];refine ⟨C,fun j hj => ?_,h2,h3⟩;by_cases e:j=k
   ·rw [e];exact c
   ·exact h1 j (by omega)
  ·obtain ⟨r,e1,e2,e3⟩:=zqm h C (show k<p.length by omega) c _ 0 rfl (by simpa [tN] using C.nd);have e1:oQ p k s.1=s.1++tN p k r:=by simpa [tN,itN] using e1
   have hr:=e3.pos;have hlen:(tN p k r).length=r:=by simp
   rw [e1,if_pos (by simp;omega),List.drop_left];have zoe:∀ x∈tN p k r,∃ j,j<r/\x=itN p j k:=fun x hx=>by
    obtain ⟨j,hj,rfl⟩:=List.mem_map.1 hx;exact ⟨j,List.mem_range.1 hj,rfl⟩
   refine ⟨⟨e2,fun x hx => ?_,fun x hx => ?_⟩,fun j hj => ?_,fun x hx => ?_,fun T hT => ?_⟩
   ·rcases List.mem_append.1 hx with q | q
    ·exact C.lt x q
    ·obtain ⟨j,_,rfl⟩:=zoe x q;exact h.itlt j k (by omega)
   ·rcases List.mem_append.1 hx with q | q
    ·exact Zbj _ (C.cl x q)
    ·obtain ⟨j,hj,rfl⟩:=zoe x q;refine Zby _ ?_;by_cases hj1:j+1<r
     ·exact List.mem_map.2 ⟨j+1,List.mem_range.2 hj1,rfl⟩
     ·have:itN p (j+1) k=k:=by rw [show j+1=r by omega];exact e3.back
      exact List.mem_map.2 ⟨0,List.mem_range.2 hr,this.symm⟩
   ·by_cases e:j=k
    ·rw [e];exact Zby _ (List.mem_map.2 ⟨0,List.mem_range.2 hr,rfl⟩)
    ·exact Zbj _ (h1 j (by omega))
   ·rcases List.mem_append.1 hx with q | q
    ·obtain ⟨T,hT,b,a,q1,q2,q3⟩:=h2 x q;exact ⟨T,by simp [hT],b,a,q1,q2,q3⟩
    ·obtain ⟨j,hj,rfl⟩:=zoe x q;exact ⟨tN p k r,by simp,k,j,rfl,by rw [hlen];exact e3,by omega⟩
   ·rcases List.mem_append.1 hT with q | q
    ·exact h3 T q
    ·rw [List.mem_singleton.1 q,hlen];exact ⟨k,by omega,e3⟩
theorem zc2.mul {p:List Int} {r b:Nat} (c:zc2 p r b):∀ q,itN p (q*r) b=b
 | 0=>by rw [Nat.zero_mul];rfl
 | q+1=>by rw [Nat.succ_mul,zjf,c.back,c.mul q]
end Go.Ev
namespace Go.Ev
open Go Go.Proofs
variable {B:Nat}
set_option maxRecDepth 100000
theorem zv5 {a b:Int} {K:AV->OP} (h0:b≠0) (h : -9223372036854775808<=a.tdiv b/\a.tdiv b<=9223372036854775807):zk .quo .int (I a) (I b) K=K (I (a.tdiv b)):=by
 have e:zk .quo .int (I a) (I b) K=(bif ieq b 0 then Out.no 5 else qp (IntKind.wrap .i64 (a.tdiv b)) fun z=>K (.int .i64 z)):=rfl;rw [e,xE];have hb:(b==0)=false:=by simpa using h0
 rw [hb,cond_false,uF];have hw:IntKind.wrap .i64 (a.tdiv b)=a.tdiv b:=by simpa [kZ] using kQ h
 rw [hw]
theorem ztl {a b:Nat} {K:AV->OP} (hb:0<b):zk .rem .int (I (a:Int)) (I (b:Int)) K=K (I ((a%b:Nat):Int)):=by
 have e:zk .rem .int (I (a:Int)) (I (b:Int)) K=(bif ieq (b:Int) 0 then Out.no 5 else qp ((a:Int).tmod b) fun z=>K (.int .i64 z)):=rfl;have h0:ieq (b:Int) 0=false:=by rw [xE,beq_eq_false_iff_ne];omega
 rw [e,h0,cond_false,uF];rfl
theorem ztm {a b:Nat} {K:AV->OP} (ha:a<=9223372036854775807) (hb:0<b):zk .quo .int (I (a:Int)) (I (b:Int)) K=K (I ((a / b:Nat):Int)):=by
 have h1:(a:Int).tdiv b=((a / b:Nat):Int):=by rw [Int.tdiv_eq_ediv_of_nonneg (by omega)];simp
 have h2:a / b<=a:=Nat.div_le_self a b;rw [zv5 (by omega) (by rw [h1];generalize a / b=q at *;omega),h1]
theorem zv6 {a b:Int} {K:AV->OP}:sMin true (I a) [I b] K=K (I (max a b)):=by
 have e:sMin true (I a) [I b] K=K (.int .i64 (bif ilt a b then b else a)):=rfl;rw [e,xD]
 congr 2
 by_cases c:a<b
 ·simp only [c,decide_true,cond_true];omega
 ·simp only [c,decide_false,cond_false];omega
abbrev nV (k:Nat):AV:=I (k:Int)
def vU (n:Nat) (S:List Nat):List AV:=aB n fun x:Nat=>.bool (decide (x∈S))
theorem zk1 {n:Nat} {S:List Nat} {c:Nat}:(vU n S).set c (.bool true)=vU n (S++[c]):=by
 unfold vU;rw [zmv];refine zbb fun j _ => ?_;by_cases e:j=c
 ·subst e;rw [if_pos rfl,decide_eq_true (by simp)]
 ·rw [if_neg e];have e2:(j∈S++[c])↔j∈S:=by
   rw [Zao,Zay];exact ⟨fun q=>q.resolve_right e,.inl⟩
  simp only [e2]
theorem zk2 {n:Nat} {S:List Nat} {c:Nat} (hc:c<n):(vU n S)[c]? = some (.bool (decide (c∈S))):=xO hc
theorem zk3 (n:Nat):List.replicate n (AV.bool false)=vU n []:=by
 rw [zhb,vU];exact zbb fun j _=>by simp
theorem bf.pn {p:List Int} (h:bf p):PN p:={
 lt i hi:=by
  have:=h.2 _ (Zaa (getD_some hi));show (p.getD i 0).toNat<_;omega
 inj i j hi hj e:=by
  have h1:=h.2 _ (Zaa (getD_some hi));have h2:=h.2 _ (Zaa (getD_some hj));have e:(p.getD i 0).toNat=(p.getD j 0).toNat:=e;have e2:p.getD i 0=p.getD j 0:=by omega
  exact zc0 h.1 (getD_some hi) (e2 ▸ getD_some hj) }
theorem zqn {p:List Int} (h:bf p) {c:Nat} (hc:c<p.length):p.getD c 0=((nxt p c:Nat):Int):=by
 have h1:=h.2 _ (Zaa (getD_some hc));show _=(((p.getD c 0).toNat:Nat):Int);omega
theorem ztn {n c:Nat} {S:List Nat} (h1:S.Nodup) (h2:∀ x∈S,x<n) (hc:c<n) (hn:c∉S):(S++[c]).Nodup/\(∀ x∈S++[c],x<n)/\S.length<n:=by
 have a1:(S++[c]).Nodup:=List.nodup_append.2 ⟨h1,by simp,by rintro a ha b hb rfl;rw [List.mem_singleton.1 hb] at ha;exact hn ha⟩;have a2:∀ x∈S++[c],x<n:=fun x hx=>by
  rcases List.mem_append.1 hx with q | q
  ·exact h2 x q
  ·rw [List.mem_singleton.1 q];exact hc
 have:=zid a1 a2;simp at this;exact ⟨a1,a2,by omega⟩
theorem zk4 {p:List Int} {c:Bool} {h0 h:T Blk} {nx p0:Pa} {L:List Ob} {K:Kw Prop} (H:Hp h0 h nx L) (hp:bf p) (hn:p.length<=1000)
  (hK:∀ o b1 sb z h' nx',Hp h0 h' nx' (.gro o 1 (jT p).length ((jT p).map nV)::.arr sb z::.arr b1 [encI p,.bool c]::L)->K (wz o 1 (jT p).length) h' nx'=.ok True):(CS Tryz.prog B).fn 150 p0 [.agg [encI p,.bool c]] h nx K=.ok True:=by
 refine gS (p:=.of 150) (K:=K) (zN zQ yh 10000000 fun hf => ?_) fun _ _ _ _ q=>q;have hP:=hp.pn;rw [zh.go,zh.t42,zE,zh.tq];refine H.box (l:=[encI p,.bool c]) rfl fun b1 h1 nx1 H1 => ?_;rw [zh.t41,zE,zh.tu,zh.t40,zE,zh.eG,sFx,H1.load (k:=0) (i:=0+0) rfl rfl,zG];refine H1.mk1 (z:=.bool false) p.length rfl rfl (by omega) (by decide) fun sb h2 nx2 H2 => ?_;rw [zk3] at H2;rw [zh.t39,zE,zh.t36,zE,zh.t3_s,sFx,H2.load (k:=1) (i:=0+0) rfl rfl,zG,zh.t35,jW];refine zh.zt2 (fun m x3 x9 h' nx'=>∃ (i:Nat) (o:Option Pa),x9=I i/\x3=wz o 1 (fH p i).2.length/\m=p.length-i/\i<=p.length/\Hp h0 h' nx' (.gro o 1 (fH p i).2.length (((fH p i).2.map List.length).map nV)::.arr sb (vU p.length (fH p i).1)::.arr b1 [encI p,.bool c]::L)) (m:=p.length) (by omega) ⟨0,none,rfl,rfl,by omega,by omega,H2.tV 1⟩ ?_;rintro m z3 z5 z6 z7 z9 z10 z11 z12 h3 nx3 R ⟨i,o,rfl,rfl,rfl,hi,H3⟩ hR;have hle:(fH p i).2.length<=i:=mZ p i;rw [zh.t33,zE,zh.t4_s,uq];by_cases hlt:i<p.length
 case neg =>
  obtain rfl:i=p.length:=by omega
  rw [decide_eq_false (by omega),zh.t32,zE,zh.t5,zZ,zh.v10,zD,vB,m5,zh.t38,zE,zh.zt3];simp only [jS,uU];rw [zh.ret];have e:(jT p).length=(fH p p.length).2.length:=Zas _;rw [<- e] at H3 ⊢;exact hK o b1 sb _ _ _ H3
 obtain ⟨C,_⟩:=zjh hP i hi;have hnx:=mD p i;unfold stT at hnx;rw [decide_eq_true (by omega),zh.t32,zE,zh.t5,zZ,zh.v10,zC,jB,zh.t31,zE,zh.t29,jW,zh.t28,zE,zh.t6_s,zh.t27,zE,zh.t7_s,zh.t26,zE,zh.t21,zE,zh.t8_s,zh.t20,jW]
 generalize hS:(fH p i).1=S at *
 generalize hT:(fH p i).2=Ts at *
 refine zh.zt1 (fun m x6 x7 h' nx'=>∃ (cc:Nat) (S':List Nat),x6=I ((S'.length-S.length:Nat):Int)/\x7=I cc/\m=p.length-S'.length/\S.length<=S'.length/\cc<p.length/\S'.Nodup/\(∀ x∈S',x<p.length)/\oQ p cc S'=oQ p i S/\Hp h0 h' nx' (.gro o 1 Ts.length ((Ts.map List.length).map nV)::.arr sb (vU p.length S')::.arr b1 [encI p,.bool c]::L)) (m:=p.length-S.length) (by omega) ⟨i,S,by rw [Nat.sub_self];rfl,rfl,rfl,Zaf _,hlt,C.nd,C.lt,rfl,H3⟩ ?_;rintro m y6 y7 y11 h5 nx5 R2 ⟨cc,S',rfl,rfl,rfl,q0,q1,q2,q3,q4,H5⟩ hR2;have hSl:=zid q2 q3;rw [zh.t18,zE,zh.t11,zE,zh.t9_s,sIx rfl q1,H5.load (k:=1) rfl (zk2 q1),y5,zh.t10,zZ,zh.v11];by_cases d:cc∈S'
 case neg =>
  obtain ⟨d1,d2,d3⟩:=ztn q2 q3 q1 d;rw [decide_eq_false d,Zai,zC,jB,zh.t17,zE,zh.t15,jW,zh.t14,zE,zh.ztz,sIx rfl q1];refine H5.store (k:=1) rfl (by rw [vU];simpa [aB] using q1) rfl fun h6 H6 => ?_;have H6:Hp h0 h6 nx5 (.gro o 1 Ts.length ((Ts.map List.length).map nV)::.arr sb (vU p.length (S'++[cc]))::.arr b1 [encI p,.bool c]::L):=H6.cast (by rw [<- zk1];rfl);rw [zh.zt0,qj (by omega),zh.zeh,sFx,H6.load (k:=2) (i:=0+0) rfl rfl,xk (i:=cc) rfl q1,ldL (fP (getD_some q1)),zqn hp q1];refine hR2 (p.length-(S'++[cc]).length) _ _ _ _ _ (by simp;omega) ⟨nxt p cc,S'++[cc],?_,rfl,rfl,by simp;omega,hP.lt cc q1,d1,d2,?_,H6⟩
  ·rw [Zan,List.length_singleton];congr 1;omega
  ·rw [<- zc1 d (by omega)];exact q4
 rw [decide_eq_true d,Zal,zD,vB,m5,zh.t25,zE,zh.zlf,pz];rw [zee d] at q4;rw [<- q4] at hnx;by_cases e:S.length<S'.length
 ·rw [if_pos e] at hnx;have eT:(fH p (i+1)).2=Ts++[S'.drop S.length]:=by rw [hnx]
  have eS:(fH p (i+1)).1=S':=by rw [hnx]
  rw [decide_eq_true (by omega),zh.t24,zZ,zh.v12,zC,zh.zlg];refine H5.yg (l:=[I ((S'.length-S.length:Nat):Int)]) rfl fun tb h6 nx6 H6 => ?_;refine H6.appN (k:=1) (o:=o) (c:=1) (esz:=1) (new:=[I ((S'.length-S.length:Nat):Int)]) rfl (je.rd (l:=[I ((S'.length-S.length:Nat):Int)]) (n:=1) (e:=1) (H6.own _ (Zaj ..)) rfl) rfl rfl (by decide) (by decide) (by omega) fun o' h7 nx7 _ H7 => ?_;rw [zh.zih,qj (by omega)];refine hR (p.length-(i+1)) _ _ _ _ _ _ _ _ _ _ (by omega) ⟨i+1,o',rfl,by rw [eT,Zan];rfl,rfl,by omega,?_⟩;rw [eT,eS];refine H7.drop.cast ?_;rw [Zan,Zbh,Zbh];simp
 ·rw [if_neg e] at hnx;have eT:(fH p (i+1)).2=Ts:=by rw [hnx]
  have eS:(fH p (i+1)).1=S':=by rw [hnx]
  rw [decide_eq_false (by omega),zh.t24,zZ,zh.v12,zD,jB,zh.zih,qj (by omega)];refine hR (p.length-(i+1)) _ _ _ _ _ _ _ _ _ _ (by omega) ⟨i+1,o,rfl,by rw [eT],rfl,by omega,?_⟩;rw [eT,eS];exact H5
end Go.Ev
namespace Go.Ev
section
variable {σ α:Type}
end
end Go.Ev
namespace Go.Ev
def SpOK (M:Int) (q:List (Int×Int)):Prop:=q.Pairwise (fun a b=>a.1<b.1)/\∀ p∈q,0<=p.1/\p.1<=M
theorem SpOK.len {q:List (Int×Int)} (h:SpOK 9000 q):q.length<=9001:=by
 obtain ⟨t,ht⟩:=zbl (q.map (·.1)) ((List.range 9001).map fun (i:Nat)=>(i:Int)) (by
  rw [List.nodup_iff_pairwise_ne,Zbr];exact h.1.imp fun {a b} q e=>by omega) fun x hx=>by
  obtain ⟨p,hp,rfl⟩:=List.mem_map.1 hx;have:=h.2 p hp;exact List.mem_map.2 ⟨p.1.toNat,List.mem_range.2 (by omega),by omega⟩
 have:=ht.length_eq;rw [Zas,List.length_range,Zan,Zas] at this;omega
def zf9 (n:Nat):Nat->List Int->List (List Int)
 | 0,pre=>[pre]
 | r+1,pre=>(List.range n).flatMap fun (x:Nat)=>if (x:Int)∈pre then [] else zf9 n r (pre++[(x:Int)])
theorem pZ {n:Nat}:∀ {r:Nat} {pre f:List Int},pre.Nodup->(f∈zf9 n r pre↔∃ t,f=pre++t/\t.length=r/\(pre++t).Nodup/\∀ x∈t,0<=x/\x<(n:Int))
 | 0,pre,f,hp=>by
  rw [zf9,Zay];constructor
  ·rintro rfl;exact ⟨[],by simp,rfl,by simpa using hp,by simp⟩
  ·rintro ⟨t,rfl,ht,_,_⟩;rw [Zbc ht];simp
 | r+1,pre,f,hp=>by
  rw [zf9,Zba];constructor
  ·rintro ⟨x,hx,hf⟩;have hxn:=List.mem_range.1 hx;by_cases c:(x:Int)∈pre
   ·rw [if_pos c] at hf;cases hf
   rw [if_neg c] at hf;have hn2:(pre++[(x:Int)]).Nodup:=List.nodup_append.2 ⟨hp,by simp,by rintro a ha b hb rfl;rw [List.mem_singleton.1 hb] at ha;exact c ha⟩;obtain ⟨t,rfl,h1,h2,h3⟩:=(pZ hn2).1 hf;refine ⟨(x:Int)::t,by simp,by simp [h1],by simpa using h2,fun y hy => ?_⟩;rcases List.mem_cons.1 hy with rfl | hy
   ·omega
   ·exact h3 y hy
  ·rintro ⟨t,rfl,h1,h2,h3⟩;cases t with
   | nil=>cases h1
   | cons y t =>
    obtain ⟨q1,q2⟩:=h3 y (by simp);have hy:y∉pre:=fun q=>(List.nodup_append.1 h2).2.2 y q y (by simp) rfl;refine ⟨y.toNat,List.mem_range.2 (by omega),?_⟩;rw [show ((y.toNat:Nat):Int)=y by omega,if_neg hy];have hn2:(pre++[y]).Nodup:=by
     have:pre++y::t=(pre++[y])++t:=by simp
     rw [this] at h2;exact (List.nodup_append.1 h2).1
    exact (pZ hn2).2 ⟨t,by simp,by simpa using h1,by simpa using h2,fun x hx=>h3 x (by simp [hx])⟩
end Go.Ev
namespace Go.Ev
open Go Go.Proofs
def nonJ:Nat->List AV->T Blk->Option (AV×T Blk):=fun _ _ _=>none
theorem zqo {P:Program} {B:Nat}:JOk P B nonJ:=fun _ _ hk=>by cases hk
def xM (f:Nat) (args:List AV) (res:AV):Bool:=match (xH (fun _=>false) nonJ tbl 1000 60).fn f (.of f) args .e .z endK with
 | .ok v=>aQ v res
 | .no _=>false
theorem u4 {f:Nat} {args:List AV} {res:AV} {B:Nat} (ha:nns args=true) (h:xM f args res=true):Pure Tryz.prog B f args (· = res):=by
 unfold xM at h;cases hq:(xH (fun _=>false) nonJ tbl 1000 60).fn f (.of f) args .e .z endK with
 | no n=>rw [hq] at h;cases h
 | ok v =>
  rw [hq] at h;have e:=xJ h;subst e;exact zd3 zQ mixed (fun _=>zqo) ha hq
def digB (k:Nat):List UInt8:=if k<10 then [UInt8.ofNat (48+k)] else if k<100 then [UInt8.ofNat (48+k / 10),UInt8.ofNat (48+k%10)] else [UInt8.ofNat (48+k / 100),UInt8.ofNat (48+k / 10%10),UInt8.ofNat (48+k%10)]
end Go.Ev
namespace Go.Ev
open Go Go.Proofs
variable {B:Nat}
set_option maxRecDepth 100000
abbrev sm (x:Int):AV:=.agg [I x,.zf]
theorem mW {K:AV->OP}:zk .eql (.nil .sl) .zf .zf K=K (.bool true):=nr rfl
theorem zto {a b:Bool} {K:AV->OP}:zk .eql .bool (.bool a) (.bool b) K=K (.bool (a==b)):=by cases a <;> cases b <;> exact nr rfl
theorem mX {n:Int} {K:AV->OP}:uH [(I 0),.zf] [(0,1,I n)] K=K (sm n):=nr rfl
theorem mB {N:Pa->Prop} {O:AV->Prop} {hh:T Blk} {x:Int}:Frz True N O hh (sm x) (sm x):=zi8 (by simp [fF])
theorem zji {x:Int}:Pure Tryz.prog B 85 [I x] (· = sm x):=by
 refine yM fun h nx K H0 hK=>zN zQ yh 100 fun hf => ?_;rw [F85.go,F85.t3,zE,F85.tq];refine H0.alloc fun p h1 nx1 H1 => ?_;rw [F85.t2,zE,F85.tu,mX];refine H1.uw (l2:=[I x,.zf]) (k:=0) rfl rfl rfl fun h2 H2 => ?_;simp only [jS,uU];rw [F85.ret,H2.zi (k:=0) (n:=2) rfl rfl];exact hK _ _ _ _ _ H2 mB rfl
theorem ztp {a b:Int} (ha : -9223372036854775808<=a/\a<=9223372036854775807) (hab : -9223372036854775808<=a+b/\a+b<=9223372036854775807):Pure Tryz.prog B 87 [sm a,sm b] (· = sm (a+b)):=by
 refine yM fun h nx K H0 hK=>zN zQ yh 100 fun hf => ?_;rw [F87.go,F87.t30,zE,F87.tq];refine H0.box (l:=[I a,.zf]) rfl fun pa h1 nx1 H1 => ?_;refine H1.box (l:=[I b,.zf]) rfl fun pb h2 nx2 H2 => ?_;refine H2.alloc fun p h3 nx3 H3 => ?_;rw [F87.t29,zE,F87.t10,zE,F87.tu,sFx,H3.load (k:=2) (i:=0+1) rfl rfl,mW,y0,sFx,y0,H3.load (k:=1) (i:=0+1) rfl rfl,y0,mW,zT,F87.t9,zZ,F87.v10,zC];rw [F87.t8,zE,F87.eG,sFx,H3.load (k:=2) (i:=0+0) rfl rfl,sFx,H3.load (k:=1) (i:=0+0) rfl rfl,qj hab];rw [F87.t7,zE,F87.t3_s,sFx,H3.load (k:=2) (i:=0+0) rfl rfl,pz,sFx,H3.load (k:=1) (i:=0+0) rfl rfl,pz];have e:(decide (a<a+b)==decide (0<b))=true:=by
  have:decide (a<a+b)=decide (0<b):=decide_eq_decide.2 (by omega);rw [this];simp
 rw [zto,e,F87.t6,zZ,F87.v11,zC,F87.t5,zE,F87.t4_s,mX];refine H3.uw (l2:=[I (a+b),.zf]) (k:=0) rfl rfl rfl fun h4 H4 => ?_;simp only [jS,uU];rw [F87.ret,H4.zi (k:=0) (n:=2) rfl rfl];exact hK _ _ _ _ _ H4 mB rfl
theorem zqp {a:Nat}:Pure Tryz.prog B 152 [sm a] (· = I (max (-1) (min 1 (a:Int)))):=by
 refine yM fun h nx K H0 hK=>zN zQ yh 100 fun hf => ?_;rw [qx.go,qx.t3,zE,qx.tq];refine H0.box (l:=[I a,.zf]) rfl fun pa h1 nx1 H1 => ?_;rw [qx.t2,zE,qx.tu,sFx,H1.load (k:=0) (i:=0+0) rfl rfl,zrm,zv6];simp only [jS,uU];rw [qx.ret];exact hK _ _ _ _ _ H1 (zJ rfl) rfl
theorem zk5 {a b:Nat} (ha:a<=1000000) (hb:0<b):Pure Tryz.prog B 154 [sm a,sm b] (· = .tup [sm ((a / b:Nat):Int),sm ((a%b:Nat):Int)]):=by
 refine yM fun h nx K H0 hK=>zN zQ yh 100 fun hf => ?_;rw [yc.go,yc.t29,zE,yc.tq];refine H0.box (l:=[I a,.zf]) rfl fun pa h1 nx1 H1 => ?_;refine H1.box (l:=[I b,.zf]) rfl fun pb h2 nx2 H2 => ?_;refine H2.alloc fun p h3 nx3 H3 => ?_;refine H3.alloc fun q h4 nx4 H4 => ?_;rw [yc.t28,zE,yc.t12,zE,yc.tu,yc.r1_0,yc.zgj,sFx,H4.load (k:=3) (i:=0+1) rfl rfl,mW,y0,sFx,y0,H4.load (k:=2) (i:=0+1) rfl rfl,y0,mW,zT,yc.r1_1,yc.zdb,y0,sFx,y0,H4.load (k:=3) (i:=0+0) rfl rfl,y0,vg,decide_eq_false (by omega),Zai,zT,yc.t11,zZ,yc.v15,zC];rw [yc.t10,zE,yc.eG,sFx,H4.load (k:=3) (i:=0+0) rfl rfl,sFx,H4.load (k:=2) (i:=0+0) rfl rfl,ztm (by omega) hb,sFx,H4.load (k:=3) (i:=0+0) rfl rfl,sFx,H4.load (k:=2) (i:=0+0) rfl rfl,ztl hb];rw [yc.t9,zE,yc.t6,zE,yc.t3_s,uq,decide_eq_false (by omega),yc.t5,zZ,yc.v16,zD,jB,yc.t8,zE,yc.t7_s,mX,mX];refine H4.uw (l2:=[I ((a / b:Nat):Int),.zf]) (k:=1) rfl rfl rfl fun h5 H5 => ?_;refine H5.uw (l2:=[I ((a%b:Nat):Int),.zf]) (k:=0) rfl rfl rfl fun h6 H6 => ?_;simp only [jS,uU];rw [yc.ret,H6.zi (k:=1) (n:=2) rfl rfl,H6.zi (k:=0) (n:=2) rfl rfl];exact hK _ _ _ _ _ H6 (kE mB mB) rfl
theorem ztq {a b:Nat} (ha:a<=1000000) (hb:0<b):Pure Tryz.prog B 90 [sm a,sm b] (· = sm ((a / b:Nat):Int)):=by
 refine yM fun h nx K H0 hK=>zN zQ yh 100 fun hf => ?_;rw [F90.go,F90.t10,zE,F90.tq];refine H0.box (l:=[I a,.zf]) rfl fun pa h1 nx1 H1 => ?_;refine H1.box (l:=[I b,.zf]) rfl fun pb h2 nx2 H2 => ?_;refine H2.alloc fun p h3 nx3 H3 => ?_;rw [F90.t9,zE,F90.t4,zE,F90.tu,H3.zi (k:=1) (n:=2) rfl rfl]
 (refine zqp _ _ _ _ ?_;rintro _ rfl _)
 rw [uq,decide_eq_false (by omega),F90.t3,zZ,F90.v6,zD,jB,F90.t8,zE,F90.t5_s,H3.zi (k:=2) (n:=2) rfl rfl,H3.zi (k:=1) (n:=2) rfl rfl]
 (refine (zk5 ha hb) _ _ _ _ ?_;rintro _ rfl _)
 rw [jD,jG];refine H3.alloc fun s h4 nx4 H4 => ?_;refine H4.alloc fun t h5 nx5 H5 => ?_;refine H5.uw (l2:=[I ((a / b:Nat):Int),.zf]) (k:=1) rfl rfl rfl fun h6 H6 => ?_;refine H6.uw (l2:=[I ((a%b:Nat):Int),.zf]) (k:=0) rfl rfl rfl fun h7 H7 => ?_;rw [F90.t7,zE,F90.t6_s,H7.zi (k:=1) (n:=2) rfl rfl];refine H7.uw (l2:=[I ((a / b:Nat):Int),.zf]) (k:=2) rfl rfl rfl fun h8 H8 => ?_;simp only [jS,uU];rw [F90.ret,H8.zi (k:=2) (n:=2) rfl rfl];exact hK _ _ _ _ _ H8 mB rfl
def ztr:Bool:=(List.range 4).all fun v=>(List.range 5).all fun i=>xM 151 [sm ((v ^ i:Nat):Int),sm v] (sm ((v ^ (i+1):Nat):Int))
theorem zk6:ztr=true:=by kernel_rfl
theorem zts {v i:Nat} (hv:v<4) (hi:i<5):Pure Tryz.prog B 151 [sm ((v ^ i:Nat):Int),sm v] (· = sm ((v ^ (i+1):Nat):Int)) :=
 u4 rfl (List.all_eq_true.1 (List.all_eq_true.1 zk6 v (List.mem_range.2 hv)) i (List.mem_range.2 hi))
theorem zof {p:List Int} {v:Nat} (hp:bf p) (hn:p.length<=5) (hv:v<4):Pure Tryz.prog B 88 [.agg [encI p,.bool false],I v] (· = sm ((v ^ (jT p).length:Nat):Int)):=by
 refine yM fun h nx K H0 hK=>zN zQ yh 10000 fun hf' => ?_;have hzl:(jT p).length<=5:=by
  have:=mZ p p.length;rw [jT,Zas];omega
 rw [F88.go,F88.t27,zE,F88.tq];refine H0.box (l:=[encI p,.bool false]) rfl fun b1 h1 nx1 H1 => ?_;refine H1.alloc fun r h2 nx2 H2 => ?_;rw [F88.t26,zE,F88.tu]
 (refine zji _ _ _ _ ?_;rintro _ rfl _)
 refine H2.alloc fun t h3 nx3 H3 => ?_;refine H3.uw (l2:=[I 1,.zf]) (k:=0) rfl rfl rfl fun h4 H4 => ?_;rw [F88.t25,zE,F88.t22,zE,F88.eG,H4.zi (k:=2) (n:=2) rfl rfl];refine zk4 H4 hp (by omega) fun o b1' sb zz h5 nx5 H5 => ?_;rw [H5.zd1 (k:=0) rfl,F88.t21,jW];refine F88.zt6 (fun m x9 h' nx'=>∃ i:Nat,x9=I i/\m=(jT p).length-i/\i<=(jT p).length/\Hp h h' nx' [.gro o 1 (jT p).length ((jT p).map nV),.arr sb zz,.arr b1' [encI p,.bool false],.arr t [I ((v ^ i:Nat):Int),.zf],.arr r [I 0,.zf],.arr b1 [encI p,.bool false]]) (m:=(jT p).length) (by omega) ⟨0,rfl,rfl,by omega,H5⟩ ?_;rintro m z5 z6 z9 z10 z11 h6 nx6 R ⟨i,rfl,rfl,hi,H6⟩ hR;rw [F88.t19,zE,F88.t3_s,uq];by_cases hlt:i<(jT p).length
 case neg =>
  obtain rfl:i=(jT p).length:=by omega
  rw [decide_eq_false (by omega),F88.t18,zE,F88.t4,zZ,F88.v10,zD,vB,m5,F88.t24,zE,F88.zlg,H6.zi (k:=3) (n:=2) rfl rfl];refine H6.uw (l2:=[I ((v ^ (jT p).length:Nat):Int),.zf]) (k:=4) rfl rfl rfl fun h7 H7 => ?_;simp only [jS,uU];rw [F88.ret,H7.zi (k:=4) (n:=2) rfl rfl];exact hK _ _ _ _ _ H7 mB rfl
 have hx:(jT p)[i]? = some (jT p)[i]:=List.getElem?_eq_getElem hlt
 generalize (jT p)[i]=x at *
 obtain ⟨id,q1,q2⟩:=H6.zvp (k:=0) rfl (show ((jT p).map nV)[i]? = some (nV x) by rw [List.getElem?_map,hx];rfl);rw [decide_eq_true (by omega),F88.t18,zE,F88.t4,zZ,F88.v10,zC,jB,F88.t17,zE,F88.t15,jW,F88.t14,zE,F88.t5_s,q1,q2,F88.t13,zE,F88.t6_s,F88.t12,zE,F88.t10,zE,F88.t7_s,sFx,H6.load (k:=5) (i:=0+1) rfl rfl];simp only [j5,zvr,zY];rw [F88.t9,zZ,F88.v11,zD,jB,F88.zei,H6.zi (k:=3) (n:=2) rfl rfl]
 (refine zji _ _ _ _ ?_;rintro _ rfl _)
 rw [H6.zi (k:=3) (n:=2) rfl rfl,zA]
 (refine (zts hv (by omega)) _ _ _ _ ?_;rintro _ rfl _)
 refine H6.uw (l2:=[I ((v ^ (i+1):Nat):Int),.zf]) (k:=3) rfl rfl rfl fun h7 H7 => ?_;rw [F88.zeh,qj (by omega)];exact hR ((jT p).length-(i+1)) _ _ _ _ _ _ _ (by omega) ⟨i+1,rfl,rfl,by omega,H7⟩
abbrev fr (x:Int):AV:=.agg [I x,.zf,I 1,.zf]
def zrp (x:Nat):Bool:=xM 89 [sm x] (fr x)&&xM 91 [fr x] (.bool false)&&xM 92 [fr x] (.str (digB x))
def zv7:Bool:=(List.range 82).all zrp
theorem zog:zv7=true:=by kernel_rfl
theorem zef {x:Nat} (h:x<=81):xM 89 [sm x] (fr x)=true/\xM 91 [fr x] (.bool false)=true/\xM 92 [fr x] (.str (digB x))=true:=by
 have:=List.all_eq_true.1 zog x (List.mem_range.2 (by omega));unfold zrp at this;rw [Zad,Zad] at this;exact ⟨this.1.1,this.1.2,this.2⟩
theorem zoh {x:Nat} (h:x<=81):Pure Tryz.prog B 89 [sm x] (· = fr x):=u4 rfl (zef h).1
theorem zoi {x:Nat} (h:x<=81):Pure Tryz.prog B 91 [fr x] (· = .bool false):=u4 rfl (zef h).2.1
theorem zqq {x:Nat} (h:x<=81):Pure Tryz.prog B 92 [fr x] (· = .str (digB x)):=u4 rfl (zef h).2.2
def sK (G:List Sym) (v:Nat):Nat:=(G.map fun g=>v ^ (jT g.1).length).sum
theorem zoj {v n k:Nat} (h1:1<=v) (hp:v ^ n<=81) (hk:k<=n):v ^ k<=81:=Zbp (Nat.pow_le_pow_right h1 hk) hp
theorem zga (p:List Int):(jT p).length<=p.length:=by
 have:=mZ p p.length;rw [jT,Zas];exact this
theorem zeg {v n:Nat} (hv:1<=v) (hp:v ^ n<=81):∀ {G:List Sym},(∀ g∈G,g.1.length<=n)->sK G v<=81*G.length
 | [],_=>Zaf _
 | g::G,h=>by
  have h1:=zeg hv hp (G:=G) fun x hx=>h x (by simp [hx]);have h2:=zoj hv hp (Zbp (zga g.1) (h g (by simp)));have e:sK (g::G) v=v ^ (jT g.1).length+sK G v:=by simp [sK]
  rw [e,Zbn];omega
theorem zk7 {G:List Sym} {v i:Nat} {x:Sym} (hx:G[i]? = some x):sK (G.take (i+1)) v=sK (G.take i) v+v ^ (jT x.1).length:=by
 unfold sK;rw [Zar,hx,Zbh,List.sum_append];simp
theorem zie {G:List Sym} {n v:Nat} (hg:yL G n=0) (hn:n<=5) (hv1:1<=v) (hp:v ^ n<=81) (hc:∀ g∈G,g.2=false) (hv:v<4) (hG:G.length<=24) (hT:sK G v / G.length<=81) :
  Pure Tryz.prog B 32 [qo G,I n,I v] (· = .tup [.str (digB (sK G v / G.length)),I 0]):=by
 refine yM fun h nx K H0 hK=>zN zQ yh 10000 fun hf' => ?_;obtain ⟨n',hn',ok⟩:=vK hg;obtain rfl:n'=n:=by omega
 have hlen:∀ g∈G,g.1.length=n':=fun g hm=>(ok.dp g hm).1.1;have hpos:0<G.length:=List.length_pos_iff.2 ok.ne;rw [F32.go,F32.t29,zE,F32.tq];refine H0.box (l:=[I v]) rfl fun b3 h1 nx1 H1 => ?_;have ld:∀ op:AV->OP,zF (.ptr b3 0) h1 op=op (I v):=fun op=>H1.load (k:=0) (i:=0) rfl rfl;rw [F32.t28,zE,F32.t7,zE,F32.tu,ld,uq,decide_eq_false (by omega)];refine wA (by omega) (fun g hm=>by rw [hlen g hm];omega) _ _ _ _ ?_;rintro _ rfl _;rw [hg,uq,decide_eq_false (by omega),zA,ld,zA,jF,ld,jF,pz,decide_eq_false (by omega),zY];refine wW _ _ _ _ _ _ ?_;rintro _ rfl _;rw [if_neg (by decide)];refine H1.yg (l:=[I 0,I 0]) rfl fun tb h2 nx2 H2 => ?_;refine wI (l:=[0,0]) H2 (k:=0) rfl (fun B=>zbq (by simp)) (fun v hv=>by rw [hv];exact .int _ _) ?_;rintro _ rfl;rw [show uC [0,0]=0 from rfl,F32.t6,zE,F32.eG,vg,decide_eq_true rfl,Zal,F32.t5,zZ,F32.v10,zD,jB,F32.t27,zE,F32.t8_s]
 (refine zji _ _ _ _ ?_;rintro _ rfl _)
 refine H2.drop.alloc fun t h3 nx3 H3 => ?_;refine H3.uw (l2:=[I ((0:Nat):Int),.zf]) (k:=0) rfl rfl rfl fun h4 H4 => ?_;rw [F32.t26,zE,F32.t15,zE,F32.t9_s];refine zh5 _ _ _ _ ?_;rintro _ rfl _;rw [F32.t14,jW,F32.t13]
 refine zv4 H4 F32.zt4 (fun v w k=>F32.zt5 k) (by omega)
  (fun i L'=>L'=[.arr t [I ((sK (G.take i) v:Nat):Int),.zf],.arr b3 [I v]])
  (fun _=>False) (fun _ _=>False) rfl
  (fun i x Rb Rb' h6 nx6 L' M E O1 O2 hx hJ H6 hM hE hR hX => ?_) (fun h6 nx6 L' hJ H6 => ?_) (fun _ _ _ hX _=>hX.elim) (fun _ _ _ _ hX _=>hX.elim)
 ·obtain rfl:=hJ;have hxm:=Zaa hx;have hdp:=ok.dp x hxm;have hxl:=hlen x hxm;have hxc:=hc x hxm;have hsn:=zk7 (v:=v) hx;have hs1:sK (G.take i) v<=81*(G.take i).length:=zeg hv1 hp fun g hm=>by rw [hlen g (List.mem_of_mem_take hm)];exact Zaf _
  have hs2:(G.take i).length<=24:=by rw [Zbm];omega
  have hs3:v ^ (jT x.1).length<=81:=zoj hv1 hp (Zbp (zga x.1) (by omega));rw [F32.zlh];refine H6.alloc fun b9 h7 nx7 H7 => ?_;refine H7.uw (k:=0) (n:=2) rfl rfl rfl fun h8 H8 => ?_;refine hM _ _ _ [_] H8 fun h9 H9 => ?_;rw [F32.t12,jW,F32.zei,H9.zi (k:=2) (n:=2) rfl rfl,H9.zi (k:=0) (n:=2) rfl rfl,H9.load (k:=3) (i:=0) rfl rfl,hxc]
  (refine (zof hdp.perm (by omega) hv) _ _ _ _ ?_;rintro _ rfl _)
  rw [H9.zi (k:=2) (n:=2) rfl rfl,zA]
  (refine (ztp (by omega) (by omega)) _ _ _ _ ?_;rintro _ rfl _)
  rw [show ((sK (G.take i) v:Nat):Int)+((v ^ (jT x.1).length:Nat):Int)=((sK (G.take (i+1)) v:Nat):Int) by rw [hsn];omega];refine H9.uw (n:=2) (l2:=[I ((sK (G.take (i+1)) v:Nat):Int),.zf]) (k:=2) rfl rfl rfl fun h10 H10 => ?_;exact hE _ _ _ [_] _ rfl H10
 ·obtain rfl:=hJ;rw [Zat (Zaf _)] at H6;have hs1:sK G v<=81*G.length:=zeg hv1 hp fun g hm=>by rw [hlen g hm];exact Zaf _
  have hle:(G.map encS).length=G.length:=Zas _;rw [F32.t25,zE,F32.zeh,show (true&&true)=true from rfl,jH,H6.zi (k:=0) (n:=2) rfl rfl];simp only [zG,qo,hle]
  (refine zji _ _ _ _ ?_;rintro _ rfl _)
  simp only [zG,qo,hle,zA,H6.zi (k:=0) (n:=2) rfl rfl]
  (refine (ztq (by omega) hpos) _ _ _ _ ?_;rintro _ rfl _)
  simp only [zG,qo,hle,zA,H6.zi (k:=0) (n:=2) rfl rfl]
  (refine (zoh hT) _ _ _ _ ?_;rintro _ rfl _)
  simp only [zG,qo,hle,zA,H6.zi (k:=0) (n:=2) rfl rfl];refine H6.alloc fun fb h7 nx7 H7 => ?_;simp only [zG,qo,hle,zA,H7.zi (k:=1) (n:=2) rfl rfl];refine H7.uw (n:=4) (l2:=[I ((sK G v / G.length:Nat):Int),.zf,I 1,.zf]) (k:=0) rfl rfl rfl fun h8 H8 => ?_;rw [F32.t24,zE,F32.t21,zE,F32.zli,H8.zi (k:=0) (n:=4) rfl rfl]
  (refine (zoi hT) _ _ _ _ ?_;rintro _ rfl _)
  rw [F32.t20,zZ,F32.v14,zD,jB,F32.t23,zE,F32.zlf,H8.zi (k:=0) (n:=4) rfl rfl]
  (refine (zqq hT) _ _ _ _ ?_;rintro _ rfl _)
  simp only [jS,uU];rw [F32.ret];exact hK _ _ _ _ _ H8 (kE (zJ rfl) (zJ rfl)) rfl
end Go.Ev
namespace Go.Ev
open Go Go.Proofs
def bJ (f:Nat->Nat):Nat->Nat
 | 0=>0
 | n+1=>bJ f n+f n
theorem gM {f g:Nat->Nat}:∀ {n},(∀ i,i<n->f i=g i)->bJ f n=bJ g n
 | 0,_=>rfl
 | n+1,h=>by rw [bJ,bJ,gM (n:=n) fun i hi=>h i (by omega),h n (by omega)]
theorem dY (f g:Nat->Nat):∀ n,bJ (fun i=>f i+g i) n=bJ f n+bJ g n
 | 0=>rfl
 | n+1=>by rw [bJ,bJ,bJ,dY f g n];omega
theorem wD:∀ n,bJ (fun _=>0) n=0
 | 0=>rfl
 | n+1=>by rw [bJ,wD n]
theorem zc3 (F:Nat->Nat->Nat) (a:Nat):∀ b,bJ (fun i=>bJ (fun j=>F i j) b) a=bJ (fun j=>bJ (fun i=>F i j) a) b
 | 0=>by
  show bJ (fun _=>0) a=0;exact wD a
 | b+1=>by
  show bJ (fun i=>bJ (fun j=>F i j) b+F i b) a=_;rw [dY,zc3 F a b];rfl
theorem zbx (d x:Nat):∀ n,bJ (fun i=>if d=i then x else 0) n=if d<n then x else 0
 | 0=>rfl
 | n+1=>by
  rw [bJ,zbx d x n];by_cases c:d=n
  ·subst c;rw [if_neg (Nat.lt_irrefl _),if_pos rfl,if_pos (by omega)];omega
  ·rw [if_neg c];by_cases c2:d<n
   ·rw [if_pos c2,if_pos (by omega),Nat.add_zero]
   ·rw [if_neg c2,if_neg (by omega)]
theorem qQ (P:Nat->Prop) [DecidablePred P] (x:Nat):∀ n,bJ (fun i=>if P i then x else 0) n=((List.range n).filter fun i=>decide (P i)).length*x
 | 0=>by simp [bJ]
 | n+1=>by
  rw [bJ,qQ P x n,Zcf,List.filter_append,Zan,Zbf]
  congr 1
  by_cases c:P n
  ·rw [if_pos c,Zaw,if_pos (decide_eq_true c)];simp
  ·rw [if_neg c,Zaw,if_neg (by simpa using c)];simp
def rE (p:List (List Int)) (i k:Nat):Nat:=(p.filter fun row=>decide (row.getD i 0=(k:Int))).length
theorem zc4 (r:List Int) (p:List (List Int)) (i k:Nat):rE (r::p) i k=(if r.getD i 0=(k:Int) then 1 else 0)+rE p i k:=by
 rw [rE,Zaw];by_cases c:r.getD i 0=(k:Int)
 ·rw [if_pos (decide_eq_true c),if_pos c,Zbn,Nat.add_comm];rfl
 ·rw [if_neg (by simpa using c),if_neg c,Zax];rfl
theorem zqr {p:List (List Int)} {m:Nat} (h:PlOk p m) {row:List Int} (hr:row∈p) {i:Nat} (hi:i<m):∃ d:Nat,row.getD i 0=(d:Int)/\d<m:=by
 obtain ⟨h1,h2⟩:=h row hr;have hx:row[i]? = some (row.getD i 0):=by rw [Zab,List.getElem?_eq_getElem (by omega)];rfl
 have:=h2 _ (Zaa hx);exact ⟨(row.getD i 0).toNat,by omega,by omega⟩
theorem zgb {m i:Nat} (hi:i<m):∀ {p:List (List Int)},PlOk p m->bJ (fun k=>rE p i k) m=p.length
 | [],_=>wD m
 | r::p,h=>by
  have ih:=zgb hi (p:=p) fun row hr=>h row (by simp [hr]);obtain ⟨d,e,hd⟩:=zqr h (Zaj ..) hi;simp only [zc4,e];rw [dY,ih];have:bJ (fun k=>if (d:Int)=(k:Int) then 1 else 0) m=1:=by
   rw [gM (g:=fun k=>if d=k then 1 else 0) fun k _=>by simp only [Int.ofNat_inj],zbx,if_pos hd]
  rw [this,Zbn];omega
theorem zc5 (row:List Int):∀ m,mN row m=bJ (fun j=>if row.getD j 0=(j:Int) then 1 else 0) m
 | 0=>rfl
 | m+1=>by rw [zib,zc5 row m];rfl
def sumL (l:List Int):Int:=l.foldr (· + ·) 0
theorem zgc (m:Nat):∀ p:List (List Int),sumL (fixL p m)=((bJ (fun j=>rE p j j) m:Nat):Int)
 | []=>by
  show (0:Int)=((bJ (fun _=>0) m:Nat):Int);rw [wD];rfl
 | r::p=>by
  show ((mN r m:Nat):Int)+sumL (fixL p m)=_;simp only [zc4];rw [dY,zgc m p,zc5];omega
section
variable {p:List (List Int)} {m:Nat}
theorem zc6 (A:tY p m) {j:Nat} (hj:j<m):∃ d:Nat,yB p j=(d:Int)/\d<m:=by
 obtain ⟨c,h1,h2,h3,h4⟩:=zcy A hj;exact ⟨c,h1,by omega⟩
theorem zk8 (A:tY p m) {i k:Nat} (hi:i<m) (hk:k<m):sJ p i k↔yB p k=yB p i:=by
 obtain ⟨d,e,hd⟩:=zc6 A hi;have h0:=(wK A hi).1 e;obtain ⟨q1,q2⟩:=dL A hi e;rw [e,zk0 A q1 q2 hk];constructor
 ·exact fun h=>A.trans d i k hd (A.symm i d hi h0.1) h
 ·exact fun h=>A.trans i d k hi h0.1 h
theorem zgd (A:tY p m) (hc:∀ i j k,i<m->j<m->sJ p j k->rE p i j<=rE p i k) {i d:Nat} (hi:i<m) (hd:yB p i=(d:Int)):bK p m d*rE p i i=p.length:=by
 rw [<- zgb hi A.rng,bK,<- qQ (fun j=>yB p j=(d:Int)) (rE p i i) m];refine gM fun k hk => ?_;have ho:=zk8 A hi hk;rw [hd] at ho;by_cases c:yB p k=(d:Int)
 ·rw [if_pos c];have h1:=ho.2 c;exact Nat.le_antisymm (hc i i k hi hi h1) (hc i k i hi hk (A.symm i k hi h1))
 ·rw [if_neg c,rE];have:(p.filter fun row=>decide (row.getD i 0=(k:Int)))=[]:=List.filter_eq_nil_iff.2 fun row hr q=>c (ho.1 ⟨row,hr,of_decide_eq_true q⟩);rw [this];rfl
def zjj (p:List (List Int)) (m:Nat):List Nat:=(List.range m).filter fun i=>decide (0<bK p m i)
theorem ztt (A:tY p m) (hc:∀ i j k,i<m->j<m->sJ p j k->rE p i j<=rE p i k) {i:Nat} (hi:i<m) (h:0<bK p m i):bK p m i∣p.length :=
 ⟨_,(zgd A hc hi ((zob A hi).1 h)).symm⟩
theorem burn (A:tY p m) (hc:∀ i j k,i<m->j<m->sJ p j k->rE p i j<=rE p i k):bJ (fun j=>rE p j j) m=(zjj p m).length*p.length:=by
 have e1:bJ (fun j=>rE p j j) m=bJ (fun j=>bJ (fun i=>if yB p j=(i:Int) then rE p j j else 0) m) m:=by
  refine gM fun j hj => ?_;obtain ⟨d,e,hd⟩:=zc6 A hj;rw [e,gM (g:=fun i=>if d=i then rE p j j else 0) fun i _=>by simp only [Int.ofNat_inj],zbx,if_pos hd]
 rw [e1,<- zc3,zjj,<- qQ (fun i=>0<bK p m i) p.length m];refine gM fun i hi => ?_;by_cases c:0<bK p m i
 ·rw [if_pos c];have e2:bJ (fun j=>if yB p j=(i:Int) then rE p j j else 0) m=bJ (fun j=>if yB p j=(i:Int) then p.length / bK p m i else 0) m:=by
   refine gM fun j hj => ?_;by_cases c2:yB p j=(i:Int)
   ·rw [if_pos c2,if_pos c2,<- zgd A hc hj c2,Nat.mul_div_cancel_left _ c]
   ·rw [if_neg c2,if_neg c2]
  rw [e2,qQ (fun j=>yB p j=(i:Int)),<- bK,Nat.mul_div_cancel' (ztt A hc hi c)]
 ·rw [if_neg c];rw [gM (g:=fun _=>0),wD];intro j hj;by_cases c2:yB p j=(i:Int)
  ·exact absurd ((zob A hi).2 (dL A hj c2).2) c
  ·rw [if_neg c2]
end
section
variable {G:List Sym} {l:List (List Int)} {n:Nat}
theorem zok (G:List Sym) (l:List (List Int)) {i k:Nat} (hi:i<l.length):rE (plT G l) i k=(G.filter fun g=>decide (l.idxOf (yI g.2 g.1 (l.getD i []))=k)).length:=by
 rw [rE,plT,List.filter_map,Zas]
 congr 1
 refine List.filter_congr fun g _ => ?_;show decide ((uY l g l.length).getD i 0=(k:Int))=_;rw [zed l g hi]
 congr 1
 exact propext ⟨fun e=>by omega,fun e=>by omega⟩
theorem zjk (H:oP G l n) {i k:Nat} {g:Sym} (hg:g∈G) (hi:i<l.length) (hk:k<l.length):l.idxOf (yI g.2 g.1 (l.getD i []))=k↔yI g.2 g.1 (l.getD i [])=l.getD k []:=by
 constructor
 ·intro e;rw [<- e,zbv (H.cl g hg _ (kD hi))]
 ·intro e;rw [e,zbu H.ord hk]
theorem oP.cnt (H:oP G l n) (i j k:Nat) (hi:i<l.length) (hj:j<l.length) (h:sJ (plT G l) j k):rE (plT G l) i j<=rE (plT G l) i k:=by
 obtain ⟨hk,g,hg,e⟩:=(xB H hj).1 h;rw [zok G l hi,zok G l hi];obtain ⟨b,hb,eb⟩:=H.gr.linv hg;have L:=xV n;have dg:=H.gr.dp g hg;have db:=H.gr.dp b hb;have hnd:(G.filter fun a=>decide (l.idxOf (yI a.2 a.1 (l.getD i []))=j)).Nodup:=(dI H.gr.ord).filter _;rw [<- Zas (f:=fun a=>yK g a)];have sub:∀ a b:List Sym,a.Nodup->(∀ x∈a,x∈b)->a.length<=b.length:=fun a b h1 h2=>by
  obtain ⟨s,hs⟩:=subG a b h1 h2;have:=hs.length_eq;rw [Zan] at this;omega
 refine sub _ _ ?_ fun x hx => ?_
 ·refine List.pairwise_map.2 (List.Pairwise.imp_of_mem (fun {x y} hx hy hne exy=>hne ?_) hnd);have dx:=H.gr.dp x (List.mem_filter.1 hx).1;have dy:=H.gr.dp y (List.mem_filter.1 hy).1;have:=congrArg (yK b) exy;rw [<- L.assoc b g x db dg dx,<- L.assoc b g y db dg dy,eb,L.el x dx,L.el y dy] at this;exact this
 ·obtain ⟨a,ha,rfl⟩:=List.mem_map.1 hx;obtain ⟨ha,hq⟩:=List.mem_filter.1 ha;have hq:=(zjk H ha hi hj).1 (of_decide_eq_true hq);have hga:=H.gr.cl g hg a ha;refine List.mem_filter.2 ⟨hga,decide_eq_true ((zjk H hga hi hk).2 ?_)⟩;rw [dU dg (H.gr.dp a ha) (H.fl _ (kD hi)).1,hq,e]
end
end Go.Ev
namespace Go.Ev
open Go Go.Proofs
variable {B:Nat} {G:List Sym} {l:List (List Int)} {n:Nat}
theorem zk9 (l:List (List Int)) (g:Sym) (i:Nat):fixG l g (i+1)=fixG l g i+if yI g.2 g.1 (l.getD i [])=l.getD i [] then 1 else 0:=by
 rw [fixG,Zcf,List.filter_append,Zan]
 congr 1
 by_cases c:yI g.2 g.1 (l.getD i [])=l.getD i []
 ·rw [if_pos c,Zaw,if_pos (decide_eq_true c)];rfl
 ·rw [if_neg c,Zaw,if_neg (by simpa using c)];rfl
end Go.Ev
namespace Go.Ev
open Go Go.Proofs
variable {B:Nat} {G:List Sym} {l:List (List Int)}
theorem zv8 {a b:Nat} {K:AV->OP} (hb:0<b):zk .rem .int (I (a:Int)) (I (b:Int)) K=K (I ((a%b:Nat):Int)):=by
 have e:zk .rem .int (I (a:Int)) (I (b:Int)) K=(bif ieq (b:Int) 0 then Out.no 5 else qp ((a:Int).tmod b) fun z=>K (.int .i64 z)):=rfl;have h0:ieq (b:Int) 0=false:=by rw [xE,beq_eq_false_iff_ne];omega
 rw [e,h0,cond_false,uF];rfl
end Go.Ev
namespace Go.Ev
open Go Go.Proofs
variable {B:Nat}
set_option maxRecDepth 100000
def xg:Nat->Nat->List (List Int)
 | 0,_=>[[]]
 | n+1,v=>(List.range v).flatMap fun (x:Nat)=>(xg n v).map fun l=>((x:Int)+1)::l
def tZ:List (Nat×Nat):=[(0,1),(0,2),(0,3),(1,1),(1,2),(1,3),(2,1),(2,2),(2,3),(3,1),(3,2),(3,3),(4,1),(4,2),(4,3),(5,1),(5,2)]
def nwZ (n z:Nat):Nat:=if n=5/\1+z%3=3 then 2 else 1+z%3
theorem zge {n z:Nat} (hn:n<=5):(n,nwZ n z)∈tZ:=by
 have h:=Nat.mod_lt z (show 0<3 by decide);unfold nwZ
 generalize z%3=r at h
 exact (show ∀ n<6,∀ r<3,(n,if n=5/\1+r=3 then 2 else 1+r)∈tZ by decide) n (by omega) r h
theorem zqs {n z:Nat} (hn:n<=5):1<=nwZ n z/\nwZ n z<4/\nwZ n z ^ n<=81:=by
 have h:=Nat.mod_lt z (show 0<3 by decide);unfold nwZ
 generalize z%3=r at h
 exact (show ∀ n<6,∀ r<3,1<=(if n=5/\1+r=3 then 2 else 1+r)/\(if n=5/\1+r=3 then 2 else 1+r)<4/\(if n=5/\1+r=3 then 2 else 1+r) ^ n<=81 by decide) n (by omega) r h
def zv9:Bool:=tZ.all fun p=>xM 34 [.zf,I p.1,I p.2] (cZ (xg p.1 p.2))
theorem zol:zv9=true:=by kernel_rfl
theorem ztu {n v:Nat} (h:(n,v)∈tZ):xM 34 [.zf,I n,I v] (cZ (xg n v))=true:=by
 have:=List.all_eq_true.1 zol _ h;exact this
theorem ztv {n v:Nat} (h:(n,v)∈tZ):Pure Tryz.prog B 34 [.zf,I n,I v] (· = cZ (xg n v)):=by
 have:=ztu h;exact u4 rfl this
theorem zwa {n z:Nat} (hn:n<=5):Pure Tryz.prog B 34 [.zf,I n,I (nwZ n z:Nat)] (· = cZ (xg n (nwZ n z))):=ztv (zge hn)
def okFI:Bool:=(List.range 82).all fun k=>xM 35 [I k] (.str (digB k))
theorem zqu:okFI=true:=by kernel_rfl
theorem zla {k:Nat} (h:k<=81):Pure Tryz.prog B 35 [I k] (· = .str (digB k)):=u4 rfl (List.all_eq_true.1 zqu k (List.mem_range.2 (by omega)))
def lexT (n v:Nat):Bool:=decide ((xg n v).length<=81)&&decide (lsE n none (xg n v)=0)&&(zf9 n n []).all fun p=>((xg n v).all fun f=>decide (yI false p f∈xg n v))&&decide (((xg n v).filter fun f=>decide (yI false p f=f)).length=v ^ (jT p).length)
theorem zlb:(tZ.all fun p=>lexT p.1 p.2)=true:=by decide +kernel
theorem mM (l:List (List Int)) (g:Sym):∀ i,i<=l.length->fixG l g i=((l.take i).filter fun f=>decide (yI g.2 g.1 f=f)).length
 | 0,_=>by simp [fixG]
 | i+1,h=>by
  have hx:l[i]? = some l[i]:=List.getElem?_eq_getElem (by omega);have e:l.getD i []=l[i]:=by rw [Zab,hx];rfl
  rw [zk9,mM l g i (by omega),Zar,hx,List.filter_append,Zan,e]
  congr 1
  by_cases c:yI g.2 g.1 l[i]=l[i]
  ·rw [if_pos c];simp [c]
  ·rw [if_neg c];simp [c]
theorem zgf (f:Sym->Nat):∀ G:List Sym,sumL (G.map fun g=>((f g:Nat):Int))=(((G.map f).sum:Nat):Int)
 | []=>rfl
 | g::G=>by
  have ih:=zgf f G;show ((f g:Nat):Int)+sumL (G.map fun g=>((f g:Nat):Int))=_;rw [ih,List.map_cons,List.sum_cons];omega
theorem zc7 {G:List Sym} {n v:Nat} (ok:oH G n) (hm:(n,v)∈tZ) (hc:∀ g∈G,g.2=false):(xg n v).length<=81/\lsE n none (xg n v)=0/\∀ g∈G,(∀ f∈xg n v,yI g.2 g.1 f∈xg n v)/\((xg n v).filter fun f=>decide (yI g.2 g.1 f=f)).length=v ^ (jT g.1).length:=by
 have tb:=List.all_eq_true.1 zlb _ hm;simp only [lexT,Zad,decide_eq_true_eq] at tb;refine ⟨tb.1.1,tb.1.2,fun g hg => ?_⟩;have hd:=ok.dp g hg;have hl:g.1.length=n:=hd.1.1;have hp:=hd.perm;have:=List.all_eq_true.1 tb.2 g.1 ((pZ List.nodup_nil).2 ⟨g.1,rfl,hl,by simpa using hp.1,fun x hx=>by have:=hp.2 x hx;omega⟩);rw [Zad,decide_eq_true_eq] at this;rw [hc g hg];exact ⟨fun f hf=>of_decide_eq_true (List.all_eq_true.1 this.1 f hf),this.2⟩
theorem zqv {G:List Sym} {n v:Nat} (hg:yL G n=0) (hm:(n,v)∈tZ) (hc:∀ g∈G,g.2=false):uS G (xg n v)=0/\sK G v=(aY (xg n v) (plT G (xg n v)) (xg n v).length (xg n v).length).length*G.length:=by
 obtain ⟨n',hn',ok⟩:=vK hg;obtain rfl:n'=n:=by omega
 obtain ⟨h1,h2,h3⟩:=zc7 ok hm hc;have hpos:0<G.length:=List.length_pos_iff.2 ok.ne;have hcn:yG G=(n':Int):=by
  rw [yG,dif_pos hpos,(ok.dp _ (Zah hpos)).1.1]
 have himg:imgB G (xg n' v)=true:=List.all_eq_true.2 fun f hf=>List.all_eq_true.2 fun g hgm=>decide_eq_true ((h3 g hgm).1 f hf);have hpl:uS G (xg n' v)=0:=by
  rw [uS,hcn,if_neg (fun q=>q hg),vI,if_neg (by omega),if_neg (fun q=>q h2),himg];rfl
 refine ⟨hpl,?_⟩;obtain ⟨m,hm',H⟩:=oP.of hpl;have A:=H.act;have b:=burn A H.cnt;have e1:=zgc (xg n' v).length (plT G (xg n' v));rw [zqi H,b,zgf] at e1;have e2:(G.map fun g=>fixG (xg n' v) g (xg n' v).length).sum=sK G v:=by
  unfold sK;refine congrArg List.sum (Zch fun g hgm => ?_);rw [mM _ _ _ (Zaf _),Zat (Zaf _),(h3 g hgm).2]
 have e3:(plT G (xg n' v)).length=G.length:=by simp [plT]
 have e4:(aY (xg n' v) (plT G (xg n' v)) (xg n' v).length (xg n' v).length).length=(zjj (plT G (xg n' v)) (xg n' v).length).length:=by
  rw [show aY (xg n' v) (plT G (xg n' v)) (xg n' v).length (xg n' v).length=(zjj (plT G (xg n' v)) (xg n' v).length).map fun j=>((xg n' v).getD j [],bK (plT G (xg n' v)) (xg n' v).length j) from rfl,Zas]
 rw [e2,e3] at e1;rw [e4];omega
theorem zqw {s:List UInt8} {K:AV->OP}:zk .eql .str (.str s) (.str s) K=K (.bool true):=by
 have e:zk .eql .str (.str s) (.str s) K=K (.bool (jV s s)):=nr rfl;rw [e,xw.2 rfl]
theorem zgg {a b:AV} {l:List AV} {h:T Blk} {K:AV->OP}:zI 2 (.fp (a::b::l)) h K=K (.agg [a,b]):=nr rfl
theorem zqx {z:Int} {K:AV->OP} (h:0<=z/\z<256):vV .i64 (.int .u8 z) K=K (I z):=by
 show qp (kK .i64 z) (fun z=>K (.int .i64 z))=_;rw [uF,kZ,kQ (by omega)]
theorem law6 {G:List Sym} {z:Nat} (hz:z<256) (haw:∀ {B},Pure Tryz.prog B 8 [] (· = .bool true)):Pure Tryz.prog B 6 [qo G,.int .u8 (z:Int)] (· = .bool true):=by
 refine yM fun h nx K H0 hK=>zN zQ yh 100000 fun hf => ?_;have awk:∀ (h:T Blk) (nx:Pa) (Z:Kw Prop),Z (.bool true) h nx=.ok True->(CS Tryz.prog B).fn 8 (.of 8) [] h nx Z=.ok True:=fun h nx Z hZ=>haw _ _ _ _ fun v hv _=>by rw [hv];exact hZ
 have ret:∀ {h1 nx1 L},Hp h h1 nx1 L->K (.bool true) h1 nx1=.ok True:=fun H=>hK _ _ _ _ _ H (zJ rfl) rfl;rw [F6.go,F6.t39,zE,F6.tq,F6.t38,zE,F6.t5,zE,F6.tu,F6.r1_0,F6.zgj];simp only [zG,qo,fG];by_cases c0:(G.length:Int)=0
 ·simp only [c0,decide_true,y8,zT];rw [F6.r1_1,F6.zdb];simp only [y8,zT];rw [F6.r1_2,F6.zgk];simp only [y8,znw];rw [F6.r1_3,F6.zdc];simp only [y8,zT];rw [F6.t4,zZ,F6.v10,zC,F6.t3,zE,F6.eG];refine awk _ _ _ ?_;simp only [jS,uU];rw [F6.ret];exact ret H0
 have hpos:0<G.length:=by omega
 simp only [c0,decide_false,jF,zG,pz,zY];rw [F6.r1_1,F6.zdb];by_cases c24:(24:Int)<(G.length:Int)
 ·simp only [c24,decide_true,y8,zT];rw [F6.r1_2,F6.zgk];simp only [y8,znw];rw [F6.r1_3,F6.zdc];simp only [y8,zT];rw [F6.t4,zZ,F6.v10,zC,F6.t3,zE,F6.eG];refine awk _ _ _ ?_;simp only [jS,uU];rw [F6.ret];exact ret H0
 have ix0:∀ op:AV->OP,zK 2 (.lst 2 G.length (yR G)) (I 0) op=op (.fp (encI G[0].1::.bool G[0].2::(yR G).drop ((0+1)*2))):=fun op =>
  (xk (i:=0) (j:=0) rfl hpos).trans (congrArg (fun x=>op (.fp x)) (yW hpos))
 simp only [c24,decide_false,jF,zY,ix0,zja,sLdF,zG,pz];obtain ⟨n,hn⟩:∃ n,n=G[0].1.length:=⟨_,rfl⟩;rw [<- hn];rw [F6.r1_2,F6.zgk];by_cases c5:(5:Int)<(n:Int)
 ·simp only [c5,decide_true,y8,znw];rw [F6.r1_3,F6.zdc];simp only [y8,zT];rw [F6.t4,zZ,F6.v10,zC,F6.t3,zE,F6.eG];refine awk _ _ _ ?_;simp only [jS,uU];rw [F6.ret];exact ret H0
 simp only [c5,decide_false,jF,ix0,zja,sLdF,zG,zv0,<- hn];refine zfn (G:=G) (n:=(n:Int)) (by omega) _ _ _ _ ?_;rintro _ rfl _;rw [F6.r1_3,F6.zdc];simp only [jF,vg,zY];by_cases cg:yL G n=0
 case neg =>
  simp only [cg,decide_false,Zai];rw [F6.t4,zZ,F6.v10,zC,F6.t3,zE,F6.eG];refine awk _ _ _ ?_;simp only [jS,uU];rw [F6.ret];exact ret H0
 simp only [cg,decide_true,Zal];rw [F6.t4,zZ,F6.v10,zD,jB,F6.t37,zE,F6.t23,zE,F6.t6_s,zG,F6.t22,jW];refine F6.zt7 (fun m x13 h' nx'=>∃ i:Nat,x13=I i/\m=G.length-i/\i<=G.length/\(∀ g∈G.take i,g.2=false)/\Hp h h' nx' []) (m:=G.length) (by omega) ⟨0,rfl,by omega,by omega,by simp,H0⟩ ?_;rintro m z2 z3 z13 z14 z15 h3 nx3 R ⟨i,rfl,rfl,hi,hci,H3⟩ hR;rw [F6.t20,zE,F6.t7_s,uq];by_cases hlt:i<G.length
 case pos =>
  have hx:G[i]? = some G[i]:=List.getElem?_eq_getElem hlt;rw [decide_eq_true (by omega),F6.t19,zE,F6.t8,zZ,F6.v14,zC,jB,F6.t18,zE,F6.t16,jW,F6.t15,zE,F6.t9_s,xk rfl hlt,yW hlt,zgg];refine H3.alloc fun ga h4 nx4 H4 => ?_;refine H4.uw (l2:=[encI G[i].1,.bool G[i].2]) (k:=0) rfl rfl rfl fun h5 H5 => ?_;rw [F6.t14,zE,F6.zlh,sFx,H5.load (k:=0) (i:=0+1) rfl rfl];cases e:G[i].2 with
  | true =>
   rw [F6.t13,zZ,F6.v15,zC,F6.t12,zE,F6.zei];refine awk _ _ _ ?_;simp only [jS,zsq,uU];rw [F6.ret];exact ret H5
  | false =>
   rw [F6.t13,zZ,F6.v15,zD,jB,F6.zli,qj (by omega)];refine hR (G.length-(i+1)) _ _ _ _ _ _ _ (by omega) ⟨i+1,rfl,rfl,by omega,fun g hgm => ?_,H5.drop⟩;rw [Zar,hx] at hgm;rcases List.mem_append.1 hgm with q | q
   ·exact hci g q
   ·have:g=G[i]:=by simpa using q
    rw [this];exact e
 obtain rfl:i=G.length:=by omega
 rw [Zat (Zaf _)] at hci;have hc:=hci;have hn5:n<=5:=by omega
 have hszm:=zge (z:=z) hn5;obtain ⟨s1,s2,s3⟩:=zqs (z:=z) hn5;obtain ⟨hpl,hsum⟩:=zqv cg hszm hc;have hcl:=zfr (xg n (nwZ n z)) (plT G (xg n (nwZ n z))) (xg n (nwZ n z)).length (xg n (nwZ n z)).length;obtain ⟨n',hn',ok⟩:=vK cg;obtain rfl:n'=n:=by omega
 have hlen81:=(zc7 ok hszm hc).1;have hlw:∀ q∈xg n' (nwZ n' z),q.length<=1000:=fun q hq=>by
  obtain ⟨m,hm',H⟩:=oP.of hpl;have:=(H.fl q hq).1;have h2:=H.gr.n256;omega
 have hrem:∀ K:AV->OP,zk .rem .int (I (z:Int)) (I 3) K=K (I ((z%3:Nat):Int)):=fun K=>zv8 (b:=3) (by decide);have hz3:=Nat.mod_lt z (show 0<3 by decide);rw [decide_eq_false (by omega),F6.t19,zE,F6.t8,zZ,F6.v14,zD,vB,m5,F6.t36,zE,F6.zt8,ix0,zja,sLdF,zG,zqx (by omega),hrem,qj (by omega),<- hn,F6.t35,zE,F6.t28,zE,F6.zt9,fG];have body:∀ w4 w5 w6 w7 w8 w9 w10 w11 w12 w13 w14 w15 w16:AV,True:=fun _ _ _ _ _ _ _ _ _ _ _ _ _=>trivial;have tail:∀ (w3 w6 w7 w8 w9 w10 w11 w12 w13 w14 w15 w16 z2:AV),IR.run F6.t34 (CS Tryz.prog B) 100000 (fnO F6.res K) (qw F6.res K) (F6.fr (qo G) (.int .u8 (z:Int)) z2 w3 (I (n':Int)) (I ((nwZ n' z:Nat):Int)) w6 w7 w8 w9 w10 w11 w12 w13 w14 w15 w16) h3 nx3=.ok True:=by
  intro w3 w6 w7 w8 w9 w10 w11 w12 w13 w14 w15 w16 z2;rw [F6.t34,zE,F6.zue];refine zie cg hn5 s1 s3 hc s2 (by omega) (by rw [hsum,Nat.mul_div_cancel _ hpos];omega) _ _ _ _ ?_;rintro _ rfl _;rw [hsum,Nat.mul_div_cancel _ hpos,jD,jG,F6.t33,zE,F6.zih];refine zwa hn5 _ _ _ _ ?_;rintro _ rfl _;refine zd9 (fun B f hf=>zoc f hf) (fun B n=>wA (G:=G) (by omega) (fun g hm=>by have:=(ok.dp g hm).1.1;omega)) (by omega) (by omega) hlw _ _ _ _ ?_;rintro _ rfl _;rw [if_neg (fun q=>q hpl),jD,jG,F6.t32,zE,F6.zuf,F6.zlj,F6.zom];simp only [fG,decide_true,y0,zT];rw [F6.zq0,F6.zon];simp only [y0,zi6];refine zla (by omega) _ _ _ _ ?_;rintro _ rfl _;rw [F6.zqz,F6.zoo];simp only [y0,zqw,zT,zi6];refine awk _ _ _ ?_;rw [F6.zqy,F6.zop,zT];simp only [jS,uU];rw [F6.ret];exact ret H3
 by_cases d5:(n':Int)=5
 ·simp only [d5,decide_true,y0,fG];rw [d5] at tail;by_cases d3:(1:Int)+((z%3:Nat):Int)=3
  ·simp only [d3,decide_true,zT];rw [F6.t27,zZ,F6.v16,zC,F6.zua];have e:nwZ n' z=2:=by rw [nwZ,if_pos ⟨by omega,by omega⟩]
   rw [e] at tail;exact tail _ _ _ _ _ _ _ _ _ _ _ _ _
  ·simp only [d3,decide_false,zT];rw [F6.t27,zZ,F6.v16,zD,jB];have e:nwZ n' z=1+z%3:=by rw [nwZ,if_neg (by omega)]
   rw [e] at tail;exact tail _ _ _ _ _ _ _ _ _ _ _ _ _
 ·simp only [d5,decide_false,j5,zY];rw [F6.t27,zZ,F6.v16,zD,jB];have e:nwZ n' z=1+z%3:=by rw [nwZ,if_neg (by omega)]
  rw [e] at tail;exact tail _ _ _ _ _ _ _ _ _ _ _ _ _
end Go.Ev
