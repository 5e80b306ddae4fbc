import Derived.Test.YtfgpjkchdelphaaGreatDoorWordsa
import Derived.Test.YtfgpjkchdelphaaGreatDoorCodea
import Derived.Test.YtfgpjkchdelphaaGreatDoorEvD
import Derived.Test.YtfgpjkchdelphaaGreatDoorCodeb
set_option linter.unusedSimpArgs false
set_option linter.unusedVariables false
namespace Go.Ev
open Go Go.Proofs
variable {B:Nat}
set_option maxRecDepth 100000
theorem zck {α:Type} [DecidableEq α]:∀ (l r:List α),l.Nodup->(∀ x∈l,x∈r)->∃ s,r.Perm (l++s)
 | [],r,_,_=>⟨r,.refl _⟩
 | a::l,r,hn,hs=>by
  obtain ⟨h1,h2⟩:=List.nodup_cons.1 hn;have ha:=hs a (by simp);obtain ⟨s,hp⟩:=zck l (r.erase a) h2 fun x hx=>(List.mem_erase_of_ne (by rintro rfl;exact h1 hx)).2 (hs x (by simp [hx]));exact ⟨s,(List.perm_cons_erase ha).trans (.cons a hp)⟩
theorem zep {α:Type} [DecidableEq α] {l r:List α} (h1:l.Nodup) (h2:∀ x∈l,x∈r) (h3:r.length<=l.length):r.Perm l:=by
 obtain ⟨s,hs⟩:=zck l r h1 h2;have hl:=hs.length_eq;obtain rfl:s=[]:=Zch (by rw [Zaf] at hl;omega);simpa using hs
theorem zgo (l:List Int):(srt l).length=l.length:=(xP l).length_eq
theorem zgp {n:Nat} {x:Int}:x∈upTo n↔1<=x/\x<=(n:Int):=by
 rw [Zaz];constructor
 ·rintro ⟨i,hi,rfl⟩;have:=List.mem_range.1 hi;omega
 ·rintro ⟨h1,h2⟩;exact ⟨(x-1).toNat,List.mem_range.2 (by omega),by omega⟩
theorem zgq {f:List Int}:srt f=upTo f.length↔∀ j,j<f.length->((j:Int)+1)∈f:=by
 constructor
 ·intro h j hj;rw [<- (xP f).mem_iff,h,zgp];omega
 ·intro h;have hnd:(upTo f.length).Nodup:=by
   refine List.pairwise_map.2 (List.nodup_range.imp fun hne e=>hne (by omega))
  have hp:(upTo f.length).Perm f:=List.Perm.symm <| zep hnd (fun x hx=>by
   rw [zgp] at hx;have:=h (x-1).toNat (by omega)
   rwa [show (((x-1).toNat:Nat):Int)+1=x by omega] at this) (by simp)
  refine (zh8 hp ?_).symm;exact List.pairwise_map.2 (List.pairwise_lt_range.imp fun h=>by omega)
theorem zgr {f:List Int} (hj:∀ B,JOk Tryz.prog B xY) (hl:f.length<=100000):Pure Tryz.prog B 136 [encI f] (· = .bool (decide (srt f=upTo f.length))):=by
 intro p h nx K hK;refine zM zP jh 10000000 fun hf => ?_;rw [pz.go];refine zk3 _ _ _ _ ?_;rintro _ rfl _;refine zk5 hj hl _ _ _ _ ?_;rintro _ rfl _;have hlen:=zgo f;simp only [yF];refine pz.L1 (fun m z6 h' nx'=>∃ i:Nat,z6=I i/\f.length-i=m/\i<=f.length/\h'=h/\nx'=nx/\(srt f).take i=(upTo f.length).take i) (m:=f.length) (by omega) ⟨0,rfl,rfl,by omega,rfl,rfl,rfl⟩ ?_;rintro m z1 z2 z3 z6 z7 z8 _ _ R ⟨i,rfl,rfl,hi,rfl,rfl,htk⟩ hR;simp only [qo];by_cases hlt:i<f.length
 ·simp only [show (i:Int)<((srt f).length:Int) by omega,decide_true,zG];have hx:(srt f)[i]? = some (srt f)[i]:=List.getElem?_eq_getElem (by omega);have hu:(upTo f.length)[i]? = some ((i:Int)+1):=by simp [List.getElem?_map,hlt]
  rw [rq rfl (by omega),ldL (sV hx),qc (by omega)];simp only [fE];by_cases c:(srt f)[i]=(i:Int)+1
  ·simp only [c,decide_true,Zah,zE];rw [qc (by omega)];refine hR _ _ _ _ _ _ _ _ _ (by omega) ⟨i+1,rfl,rfl,by omega,rfl,rfl,?_⟩;rw [Zax,Zax,htk,hx,hu,c]
  ·simp only [c,decide_false,Zak,zG];refine hK _ ?_ hf;rw [decide_eq_false];intro q;have h9:(srt f)[i]? = some ((i:Int)+1):=by rw [q];exact hu
   rw [hx] at h9;exact c (Option.some.inj h9)
 ·simp only [show ¬ (i:Int)<((srt f).length:Int) by omega,decide_false,zE];rw [pz.k8];rw [Zae (by omega),Zae (by simp;omega)] at htk;exact hK _ (by rw [decide_eq_true htk]) hf
theorem zgs {f:List Int} (hl:f.length<=100000):Pure Tryz.prog B 46 [encI f] (· = .bool (decide (srt f=upTo f.length))):=by
 intro p h nx K hK;refine zM zP jh 10000000 fun hf => ?_;rw [F46.go];refine F46.L1 (fun m z2 h' nx'=>∃ k:Nat,z2=I ((k:Int)+1)/\f.length-k=m/\k<=f.length/\h'=h/\nx'=nx/\∀ j,j<k->((j:Int)+1)∈f) (m:=f.length) (by omega) ⟨0,rfl,rfl,by omega,rfl,rfl,fun j hj=>by omega⟩ ?_;rintro m z1 z2 z3 z4 z5 z6 z7 h nx R ⟨k,rfl,rfl,hk,rfl,rfl,hin⟩ hR;simp only [yF,oC];by_cases hlt:k<f.length
 case neg =>
  simp only [show ¬ (k:Int)+1<=(f.length:Int) by omega,decide_false,zE];rw [F46.k16];exact hK _ (by rw [decide_eq_true (zgq.2 fun j hj=>hin j (by omega))]) hf
 simp only [show (k:Int)+1<=(f.length:Int) by omega,decide_true,zG];refine F46.L7 (fun m z3 z4 h' nx'=>∃ i:Nat,z4=I i/\z3=.bool (decide (((k:Int)+1)∈f.take i))/\f.length-i=m/\i<=f.length/\h'=h/\nx'=nx) (m:=f.length) (by omega) ⟨0,rfl,by simp,rfl,by omega,rfl,rfl⟩ ?_;rintro m z3 z4 z6 _ _ R2 ⟨i,rfl,rfl,rfl,hi,rfl,rfl⟩ hR2;simp only [yF,qo];by_cases hlt2:i<f.length
 case neg =>
  simp only [show ¬ (i:Int)<(f.length:Int) by omega,decide_false,zE];rw [Zae (by omega),F46.k14];simp only [j4];by_cases c:((k:Int)+1)∈f
  ·rw [decide_eq_true c];simp only [Zah,zE];rw [F46.k15,qc (by omega)];refine hR _ _ _ _ _ _ _ _ _ _ (by omega) ⟨k+1,by push_cast;rfl,rfl,by omega,rfl,rfl,fun j hj => ?_⟩;by_cases e:j=k
   ·rw [e];exact c
   ·exact hin j (by omega)
  ·rw [decide_eq_false c];simp only [Zak,zG];exact hK _ (by rw [decide_eq_false fun q=>c (zgq.1 q k hlt)]) hf
 simp only [show (i:Int)<(f.length:Int) by omega,decide_true,zG];have hx:f[i]? = some f[i]:=List.getElem?_eq_getElem hlt2;have hs:f.take (i+1)=f.take i++[f[i]]:=by rw [Zax,hx];rfl
 by_cases c:((k:Int)+1)∈f.take i
 ·rw [decide_eq_true c];simp only [jM,zV];rw [qc (by omega)];exact hR2 _ _ _ _ _ _ (by omega) ⟨i+1,rfl,by rw [hs,decide_eq_true (List.mem_append_left _ c)],rfl,by omega,rfl,rfl⟩
 ·rw [decide_eq_false c];simp only [jE];rw [rq rfl hlt2,ldL (sV hx)];simp only [fA,zY];rw [qc (by omega)];refine hR2 _ _ _ _ _ _ (by omega) ⟨i+1,rfl,?_,rfl,by omega,rfl,rfl⟩;rw [hs]
  congr 1
  rw [decide_eq_decide,Zbp,Zci];exact ⟨fun e=>.inr e.symm,fun e=>(e.resolve_left c).symm⟩
end Go.Ev
namespace Go.Ev
open Go Go.Proofs
variable {B:Nat}
def dig (n:Nat):List UInt8:=if n<10 then [UInt8.ofNat (48+n)] else [UInt8.ofNat (48+n / 10),UInt8.ofNat (48+n%10)]
def txt (l:List Int):List UInt8:=Lib.join (l.map fun x=>dig x.toNat) [32]
theorem Hp.base {h0 h:T Blk} {nx:Pa} {L:List Ob} (H:Hp h0 h nx L):Hp .e h nx L :=
 ⟨fun j hj=>absurd (T.ru _ j) hj,H.own,fun n _=>T.ru _ n,H.nd,H.fr⟩
abbrev TRow:=AV×Ob×List Int
def eP (t:TRow):Prop:=(∃ p cap,capLe t.2.2.length cap/\t.2.1=.arr p (t.2.2.map I)/\t.1=.sl p 0 t.2.2.length cap 1)\/∃ o,t.2.1=.gro o 1 t.2.2.length (t.2.2.map I)/\t.1=cZ o 1 t.2.2.length
theorem eP.xg {t:TRow} (h:eP t):xg t.1=true:=by
 rcases h with ⟨p,cap,_,_,e⟩ | ⟨o,_,e⟩
 ·rw [e];rfl
 ·rw [e];exact zk6 _ _ _
theorem eP.cells {t:TRow} (h:eP t):t.1.cells=some [t.1]:=by
 rcases h with ⟨p,cap,_,_,e⟩ | ⟨o,_,e⟩
 ·rw [e];rfl
 ·rw [e];exact wV _ _ _
theorem zeq (l:List Int):∀ v∈l.map I,ni v=true:=fun v hv=>by obtain ⟨x,_,rfl⟩:=List.mem_map.1 hv;rfl
theorem eP.frz {h0 h:T Blk} {nx:Pa} {L:List Ob} {t:TRow} (hr:eP t) (H:Hp h0 h nx L) (hm:t.2.1∈L):af h0 h t.1 (encI t.2.2):=by
 obtain ⟨k,hk⟩:=List.mem_iff_getElem?.1 hm;rcases hr with ⟨p,cap,hc,e1,e2⟩ | ⟨o,e1,e2⟩
 ·rw [e1] at hk;rw [e2];exact H.znd hk hc (by simp) (zeq _)
 ·rw [e1] at hk;rw [e2];exact H.ah hk (zeq _)
theorem eP.len {h0 h:T Blk} {nx:Pa} {L:List Ob} {t:TRow} (hr:eP t) (H:Hp h0 h nx L) (hm:t.2.1∈L) (op:AV->OP):sLen t.1 op=op (I t.2.2.length):=by
 obtain ⟨k,hk⟩:=List.mem_iff_getElem?.1 hm;rcases hr with ⟨p,cap,hc,e1,e2⟩ | ⟨o,e1,e2⟩
 ·rw [e2];rfl
 ·rw [e1] at hk;rw [e2];exact H.zvf hk
theorem eP.rd {h0 h:T Blk} {nx:Pa} {L:List Ob} {t:TRow} (hr:eP t) (H:Hp h0 h nx L) (hm:t.2.1∈L) (no:OP) (K':List AV->Nat->OP):kN t.1 h no K'=K' (t.2.2.map I) t.2.2.length:=by
 obtain ⟨k,hk⟩:=List.mem_iff_getElem?.1 hm;rcases hr with ⟨p,cap,hc,e1,e2⟩ | ⟨o,e1,e2⟩
 ·rw [e1] at hk hm;rw [e2];exact xk.rd (H.own _ hm) (by simp) no K'
 ·rw [e1] at hk;rw [e2];rw [H.zqm hk (Zag _),Zae (by simp)]
def zo6 (x:AV) (X:Ob) (l:List Int) (v:Int):Prop:=(l=[v]/\∃ p,x=.sl p 0 1 (some 1) 1/\X=.arr p [I v])\/∃ o,x=cZ (some o) 1 l.length/\X=.gro (some o) 1 l.length (l.map I)
theorem zo6.ok {x:AV} {X:Ob} {l:List Int} {v:Int} (h:zo6 x X l v):eP (x,X,l):=by
 rcases h with ⟨rfl,p,rfl,rfl⟩ | ⟨o,rfl,rfl⟩
 ·exact .inl ⟨p,some 1,Zag _,rfl,rfl⟩
 ·exact .inr ⟨some o,rfl,rfl⟩
theorem zgt {x:Int} {v:AV} {K:AV->OP} (h:v.cells=some [v]):yV [(I 0),.zf] [(0,1,I x),(1,1,v)] K=K (.agg [I x,v]):=by
 have e:j8 [(I 0),AV.zf] [(0,1,I x),(1,1,v)]=some [I x,v]:=by simp only [j8,h];rfl
 show (match j8 [(I 0),AV.zf] [(0,1,I x),(1,1,v)] with
  | some l=>K (.agg l)
  | none=>Out.no 2)=_
 rw [e]
end Go.Ev
namespace Go.Ev
open Go Go.Proofs
variable {B:Nat}
set_option maxRecDepth 100000
theorem pS (op:KW3->OP) (h:T Blk) (nx:Pa) (k:KW3):sGW (.bool false) false op h nx k=op k:=nr rfl
theorem zo7 (op:KW3->OP) (h:T Blk) (nx:Pa) (k:KW3):sGW (.bool true) false op h nx k=k .u h nx:=nr rfl
abbrev aQ (x:Int):Bool:=decide (x < -999999999)||decide (999999999<x)
theorem zia {f:List Int} (hl:f.length<=100000):Pure Tryz.prog B 102 [encI f] (· = I (if f.any aQ then 3 else 0)):=by
 intro p h nx K hK;refine zM zP jh 10000000 fun hf => ?_;rw [mr.go];refine mr.L1 (fun m z2 h' nx'=>∃ i:Nat,z2=I i/\f.length-i=m/\i<=f.length/\h'=h/\nx'=nx/\(f.take i).any aQ=false) (m:=f.length) (by omega) ⟨0,rfl,rfl,by omega,rfl,rfl,rfl⟩ ?_;rintro m z1 z2 z3 z4 h nx R ⟨i,rfl,rfl,hi,rfl,rfl,htk⟩ hR;simp only [yF,qo];by_cases hlt:i<f.length
 case neg =>
  simp only [show ¬ (i:Int)<(f.length:Int) by omega,decide_false,zE];rw [mr.k8];rw [Zae (by omega)] at htk;exact hK _ (by rw [htk];rfl) hf
 simp only [show (i:Int)<(f.length:Int) by omega,decide_true,zG];have hx:f[i]? = some f[i]:=List.getElem?_eq_getElem hlt;have hm:=Zat hlt;have hs:(f.take (i+1)).any aQ=((f.take i).any aQ||aQ f[i]):=by
  rw [Zax,hx,List.any_append];simp
 rw [rq rfl hlt,ldL (sV hx)];simp only [qo];by_cases c1:f[i] < -999999999
 ·simp only [c1,decide_true,jM,zV,zG];exact hK _ (by rw [List.any_eq_true.2 ⟨_,hm,by simp [c1]⟩];rfl) hf
 simp only [c1,decide_false,jE];rw [rq rfl hlt,ldL (sV hx)];simp only [bZ,zY];by_cases c2:999999999<f[i]
 ·simp only [c2,decide_true,zG];exact hK _ (by rw [List.any_eq_true.2 ⟨_,hm,by simp [c2]⟩];rfl) hf
 simp only [c2,decide_false,zE];rw [qc (by omega)];exact hR _ _ _ _ _ _ _ (by omega) ⟨i+1,rfl,rfl,by omega,rfl,rfl,by rw [hs,htk];simp [c1,c2]⟩
theorem zib {f:List Int} (hl:f.length<=100000):Pure Tryz.prog B 183 [encI f] (· = I (if f.any aQ then 3 else 0)):=by
 intro p h nx K hK;refine zM zP jh 1000 fun hf => ?_;rw [oW.go];refine zjm (by omega) _ _ _ _ ?_;rintro _ rfl _;exact hK _ rfl hf
def yQ (l f:List Int):Int:=l.foldl (fun s c=>s+f.getD c.toNat 0) 0
structure zak (l f:List Int):Prop where
 len:l.length<=1000
 rng:∀ c∈l,0<=c/\c<(f.length:Int)
 bd:∀ x∈f, -1000000000<=x/\x<=1000000000
theorem zak.get {l f:List Int} (h:zak l f) {c:Int} (hc:c∈l):f[c.toNat]? = some (f.getD c.toNat 0) /\ -1000000000<=f.getD c.toNat 0/\f.getD c.toNat 0<=1000000000:=by
 have:=h.rng c hc;have hx:f[c.toNat]? = some (f.getD c.toNat 0):=by rw [Zad,List.getElem?_eq_getElem (by omega)];rfl
 exact ⟨hx,h.bd _ (Zaa hx)⟩
theorem u6 {l f:List Int} {i:Nat} (h:i<l.length):yQ (l.take (i+1)) f=yQ (l.take i) f+f.getD l[i].toNat 0:=by
 rw [yQ,Zax,List.getElem?_eq_getElem h,List.foldl_append];rfl
theorem zgu {l f:List Int} (h:zak l f):∀ i,i<=l.length -> -(1000000000*(i:Int))<=yQ (l.take i) f/\yQ (l.take i) f<=1000000000*(i:Int)
 | 0,_=>by simp [yQ]
 | i+1,hi=>by
  have ih:=zgu h i (by omega);have:=(h.get (Zat (show i<l.length by omega))).2;rw [u6 (by omega)];omega
theorem zwc {l f:List Int} (h0:zak l f):Pure Tryz.prog B 219 [encI l,encI f] (· = I (yQ l f)):=by
 intro p h nx K hK;have hl:=h0.len;refine zM zP jh 10000 fun hf => ?_;rw [mY.go];simp only [yF];refine mY.L1 (fun m x3 x7 h' nx'=>∃ i:Nat,x7=I i/\x3=I (yQ (l.take i) f)/\l.length-i=m/\i<=l.length/\h'=h/\nx'=nx) (m:=l.length) (by omega) ⟨0,rfl,rfl,rfl,by omega,rfl,rfl⟩ ?_;rintro m z3 z4 z7 z8 h nx R ⟨i,rfl,rfl,rfl,hi,rfl,rfl⟩ hR;simp only [qo];by_cases hlt:i<l.length
 case neg =>
  simp only [show ¬ (i:Int)<(l.length:Int) by omega,decide_false,zE];rw [mY.k8,Zae (by omega)];exact hK _ rfl hf
 simp only [show (i:Int)<(l.length:Int) by omega,decide_true,zG];have hx:l[i]? = some l[i]:=List.getElem?_eq_getElem hlt;have hr:=h0.rng _ (Zat hlt);obtain ⟨hg,hb⟩:=h0.get (Zat hlt);have hbd:=zgu h0 i (by omega);rw [rq rfl hlt,ldL (sV hx),rq (i:=l[i].toNat) (by omega) (by omega),ldL (sV hg),qc (by omega),qc (by omega)];exact hR _ _ _ _ _ _ _ (by omega) ⟨i+1,rfl,by rw [u6 hlt],rfl,by omega,rfl,rfl⟩
def wA (lines:List (List Int)) (f:List Int):List Int:=lines.map fun l=>yQ l f
theorem zcl {lines:List (List Int)} {f:List Int} {i:Nat} (h:i<lines.length):wA (lines.take (i+1)) f=wA (lines.take i) f++[yQ lines[i] f]:=by
 rw [wA,Zax,List.getElem?_eq_getElem h,Zaj];rfl
theorem zdi (lines:List (List Int)) (f:List Int):(wA lines f).length=lines.length:=by simp [wA]
theorem zrn {cells:Int} {lines:List (List Int)} {f:List Int} (hn:lines.length<=1000) (h0:∀ l∈lines,zak l f):Pure Tryz.prog B 139 [.agg [I cells,encT lines],encI f] (· = encI (wA lines f)):=by
 refine zS fun h nx K H0 hK=>zM zP jh 10000 fun hf => ?_;rw [mX.go];refine H0.box (l:=[I cells,encT lines]) rfl fun bx h1 nx1 H1 => ?_;rw [sFx,H1.load (k:=0) (i:=0+1) rfl rfl];simp only [yF];refine mX.L1 (fun m x4 x8 h' nx'=>∃ (i:Nat) (o:Option Pa),x8=I i/\x4=cZ o 1 (wA (lines.take i) f).length/\lines.length-i=m/\i<=lines.length/\Hp h h' nx' [.gro o 1 (wA (lines.take i) f).length ((wA (lines.take i) f).map I),.arr bx [I cells,encT lines]]) (m:=lines.length) (by omega) ⟨0,none,rfl,rfl,rfl,by omega,H1.zad 1⟩ ?_;rintro m z4 z5 z8 z9 h2 nx2 R ⟨i,o,rfl,rfl,rfl,hi,H2⟩ hR;simp only [qo];by_cases hlt:i<lines.length
 case neg =>
  simp only [show ¬ (i:Int)<(lines.length:Int) by omega,decide_false,zE];rw [Zae (by omega)] at H2 ⊢;rw [mX.k8];exact hK _ _ _ _ _ H2 (H2.ah (k:=0) rfl fun v hv=>by obtain ⟨x,_,rfl⟩:=List.mem_map.1 hv;rfl) rfl
 simp only [show (i:Int)<(lines.length:Int) by omega,decide_true,zG];have hx:lines[i]? = some lines[i]:=List.getElem?_eq_getElem hlt;have hlen:(wA (lines.take i) f).length=i:=by rw [zdi,Zaq];omega
 rw [rq rfl hlt,ldL (getT hx)];refine zwc (h0 _ (Zat hlt)) _ _ _ _ ?_;rintro _ rfl _;refine H2.yg (l:=[I (yQ lines[i] f)]) rfl fun tb h4 nx4 H4 => ?_;refine H4.appN (k:=1) (o:=o) (c:=1) (new:=[I (yQ lines[i] f)]) rfl (xk.rd (l:=[I (yQ lines[i] f)]) (n:=1) (H4.own _ (Zal ..)) rfl) rfl rfl (by decide) (by decide) (by omega) fun o' h5 nx5 _ H5 => ?_;rw [qc (by omega)];refine hR _ _ _ _ _ _ _ (by omega) ⟨i+1,o',rfl,by rw [zcl hlt,Zaf];rfl,rfl,by omega,?_⟩;rw [zcl hlt,Zaf,Zaj];exact H5.drop
def difA (a:Int):List Int->Nat->Int
 | [],_ => -1
 | x::t,i=>if x=a then difA a t (i+1) else (i:Int)
def zdj (S:List Int):Int:=difA (S.getD 0 0) S 0
theorem zk7 {a:Int} {S:List Int} {i k:Nat} (h:i<S.length):difA a (S.drop i) k=if S[i]=a then difA a (S.drop (i+1)) (k+1) else (k:Int):=by
 rw [Zbt h];rfl
theorem zo8 {h0 h:T Blk} {nx p bx:Pa} {L:List Ob} {k:Nat} {S:List Int} {K:Kw Prop} {v:AV} (hl:S.length<=100000) (H:Hp h0 h nx L) (hk:L[k]? = some (.arr bx [encI S]))
  (hK:K (I (zdj S)) h nx=.ok True):(CS Tryz.prog B).fn 184 p [encI S,.fn 185 (.of 185) [.ptr bx 0]] h nx K=.ok True:=by
 refine jA (p:=.of 184) (K:=K) (zM zP jh 1000000 fun hf => ?_) fun _ _ _ _ q=>q;rw [di.go];simp only [yF];refine di.L1 (fun m z5 h' nx'=>∃ i:Nat,z5=I i/\S.length-i=m/\i<=S.length/\h'=h/\nx'=nx/\zdj S=difA (S.getD 0 0) (S.drop i) i) (m:=S.length) (by omega) ⟨0,rfl,rfl,by omega,rfl,rfl,rfl⟩ ?_;rintro m z2 z3 z5 z6 z7 h nx R ⟨i,rfl,rfl,hi,rfl,rfl,he⟩ hR;simp only [qo];by_cases hlt:i<S.length
 case neg =>
  simp only [show ¬ (i:Int)<(S.length:Int) by omega,decide_false,zE];rw [di.k8];rw [he,List.drop_of_length_le (by omega)] at hK;exact hK
 simp only [show (i:Int)<(S.length:Int) by omega,decide_true,zG];have hx:S[i]? = some S[i]:=List.getElem?_eq_getElem hlt;have hy:S[0]? = some (S.getD 0 0):=by rw [Zad,List.getElem?_eq_getElem (by omega)];rfl
 rw [zk7 hlt] at he;rw [rq rfl hlt,ldL (sV hx),gO];refine jA (p:=.of 185) (zM zP jh 9 fun _ => ?_) fun _ _ _ _ q=>q;show zQ tbl 9 _ (Pa.of 185) [I S[i],.ptr bx 0] _ _ _=_;rw [oZ.go,H.load (k:=k) (i:=0) hk rfl,rq (i:=0) (show (0:Int)=((0:Nat):Int) from rfl) (by omega),ldL (sV hy)];simp only [fE];by_cases c:S[i]=S.getD 0 0
 ·rw [if_pos c] at he;simp only [c,decide_true,Zah,zE];rw [qc (by omega)];exact hR _ _ _ _ _ _ _ _ (by omega) ⟨i+1,rfl,rfl,by omega,rfl,rfl,he⟩
 ·rw [if_neg c] at he;simp only [c,decide_false,Zak,zG];rw [he] at hK;exact hK
theorem zk8 {cells:Int} {lines:List (List Int)} {f:List Int} (hn:lines.length<=1000) (h0:∀ l∈lines,zak l f):Pure Tryz.prog B 95 [.agg [I cells,encT lines],encI f] (· = I (zdj (wA lines f))):=by
 refine zS fun h nx K H0 hK=>zM zP jh 1000 fun hf => ?_;rw [F95.go];refine H0.box (l:=[I cells,encT lines]) rfl fun bx h1 nx1 H1 => ?_;rw [H1.zi (k:=0) (n:=2) rfl rfl];refine zrn hn h0 _ _ _ _ ?_;rintro _ rfl _;refine H1.alloc fun b8 h2 nx2 H2 => ?_;refine H2.store (k:=0) rfl (by simp) rfl fun h3 H3 => ?_;rw [H3.load (k:=0) (i:=0) rfl rfl];have hlen:=zdi lines f;refine zo8 (v:=.zf) (by omega) H3 (k:=0) rfl ?_;exact hK _ _ _ _ _ H3 (zK rfl) rfl
section
variable {cells:Int} {lines:List (List Int)} {f:List Int}
end
end Go.Ev
namespace Go.Ev
open Go Go.Proofs
set_option maxRecDepth 100000
noncomputable def mJ (k:Nat) (l:List Nat):Bool:=l.all fun n=>wZ xZ 152 [.str (uD k),I (n:Int)] (.agg [I ((n*n:Nat):Int),encT (sqL k n)])
theorem uM {k:Nat} {l:List Nat} (h:mJ k l=true) {n:Nat} {B:Nat} (hn:n∈l):Pure Tryz.prog B 152 [.str (uD k),I (n:Int)] (· = .agg [I ((n*n:Nat):Int),encT (sqL k n)]) :=
 gR (fun _=>uY) (pY _ _) (List.all_eq_true.1 h n hn)
theorem zwd:mJ 0 [1,2,3,4,5,6]=true:=by kernel_rfl
theorem zwe:mJ 1 [1,2,3,4,5,6]=true:=by kernel_rfl
theorem zwf:mJ 2 [1,2,3,4,5,6]=true:=by kernel_rfl
end Go.Ev
namespace Go.Ev
open Go Go.Proofs
variable {B:Nat}
set_option maxRecDepth 100000
def SqOk (n:Nat):Prop:=(1<=n/\n<=8)/\∀ k,k<3->∀ B,Pure Tryz.prog B 152 [.str (uD k),I (n:Int)] (· = .agg [I ((n*n:Nat):Int),encT (sqL k n)])
theorem zy2 {n:Nat} (h1:1<=n) (h2:n<=6):SqOk n:=by
 refine ⟨by omega,fun k hk B => ?_⟩;have hm:n∈[1,2,3,4,5,6]:=by simp;omega
 match k,hk with
 | 0,_=>exact uM zwd hm
 | 1,_=>exact uM zwe hm
 | 2,_=>exact uM zwf hm
def zo9 (n:Nat) (l:List Int):Bool:=decide (l.length<=8)&&l.all fun c=>decide (0<=c)&&decide (c<((n*n:Nat):Int))
theorem zpa:((List.range 3).all fun k=>(List.range 9).all fun n=>decide ((sqL k n).length<=100)&&(sqL k n).all (zo9 n))=true:=by decide +kernel
theorem zjn {k n:Nat} (hk:k<3) (hn:n<=8):(sqL k n).length<=100/\∀ l∈sqL k n,l.length<=8/\∀ c∈l,0<=c/\c<((n*n:Nat):Int):=by
 have h:=List.all_eq_true.1 (List.all_eq_true.1 zpa k (List.mem_range.2 hk)) n (List.mem_range.2 (by omega));simp only [Zac,decide_eq_true_eq,Zai,zo9] at h;exact h
structure ql (n:Nat) (f:List Int):Prop where
 len:f.length=n*n
 bd:∀ x∈f, -1000000000<=x/\x<=1000000000
theorem ql.ln {n k:Nat} {f:List Int} (hf:ql n f) (hk:k<3) (hn:n<=8):∀ l∈sqL k n,zak l f:=fun l hl=>by
 obtain ⟨h1,h2⟩:=(zjn hk hn).2 l hl;exact ⟨by omega,fun c hc=>by rw [hf.len];exact h2 c hc,hf.bd⟩
def mg (k n:Nat) (f:List Int):Bool:=decide (zdj (wA (sqL k n) f)<0)
theorem mK {n k:Nat} {f:List Int} (hs:SqOk n) (hk:k<3) (hf:ql n f):Pure Tryz.prog B 144 [.agg [I (n:Int),encI f],.str (uD k)] (· = .bool (mg k n f)):=by
 refine zS fun h nx K H0 hK=>zM zP jh 100 fun hf' => ?_;rw [F144.go];refine H0.box (l:=[I (n:Int),encI f]) rfl fun bx h1 nx1 H1 => ?_;simp only [sFx];rw [H1.load (k:=0) (i:=0) rfl rfl,H1.load (k:=0) (i:=0+1) rfl rfl];refine hs.2 k hk B _ _ _ _ ?_;rintro _ rfl _;rw [H1.load (k:=0) (i:=0+1) rfl rfl];simp only [zN];refine zk8 (by have:=(zjn hk hs.1.2).1;omega) (hf.ln hk hs.1.2) _ _ _ _ ?_;rintro _ rfl _;simp only [qo];exact hK _ _ _ _ _ H1 (zK rfl) rfl
theorem zes {h:T Blk} {nx p q:Pa} {g:Nat} {cap:List AV} {n:Nat} {v:Nat->Int} {K:Kw Prop} (hn:n<=1000000) (h0:n=0\/0<n) (hcl:∀ i,i<n->∀ K:Kw Prop,K (I (v i)) h nx=.ok True->(CS Tryz.prog B).fn g q (I (i:Int)::cap) h nx K=.ok True)
  (hK:K (.bool (decide (∀ i,i<n->v i=v 0))) h nx=.ok True):(CS Tryz.prog B).fn 272 p [I (n:Int),.fn g q cap] h nx K=.ok True:=by
 refine jA (p:=.of 272) (K:=K) (zM zP jh 10000000 fun hf => ?_) fun _ _ _ _ q=>q;rw [mZ.go];refine mZ.L1 (fun m x5 h' nx'=>∃ i:Nat,x5=I i/\n-i=m/\i<=n/\h'=h/\nx'=nx/\∀ j,j<i->v j=v 0) (m:=n) (by omega) ⟨0,rfl,rfl,by omega,rfl,rfl,fun j hj=>by omega⟩ ?_;rintro m z2 z3 z5 z6 z7 h nx R ⟨i,rfl,rfl,hi,rfl,rfl,hv⟩ hR;simp only [qo];by_cases hlt:i<n
 case neg =>
  simp only [show ¬ (i:Int)<(n:Int) by omega,decide_false,zE];rw [mZ.k8];rw [decide_eq_true (fun j hj=>hv j (by omega))] at hK;exact hK
 simp only [show (i:Int)<(n:Int) by omega,decide_true,zG];rw [gO];refine hcl i hlt _ ?_;rw [gO];refine hcl 0 (by omega) _ ?_;simp only [fE];by_cases c:v i=v 0
 ·simp only [c,decide_true,Zah,zE];rw [qc (by omega)];refine hR _ _ _ _ _ _ _ _ (by omega) ⟨i+1,rfl,rfl,by omega,rfl,rfl,fun j hj => ?_⟩;by_cases e:j=i
  ·rw [e,c]
  ·exact hv j (by omega)
 ·simp only [c,decide_false,Zak,zG];rw [decide_eq_false (fun q=>c (q i hlt))] at hK;exact hK
def asc (n:Nat) (f:List Int):Bool:=mg 1 n f&&decide (∀ i,i<f.length->f.getD i 0+f.getD (f.length-1-i) 0=f.getD 0 0+f.getD (f.length-1-0) 0)
theorem uA {f:List Int} {i:Nat} (h:i<f.length):f[i]? = some (f.getD i 0):=by
 rw [Zad,List.getElem?_eq_getElem h];rfl
theorem ql.get {n:Nat} {f:List Int} (hf:ql n f) {i:Nat} (h:i<f.length) : -1000000000<=f.getD i 0/\f.getD i 0<=1000000000:=hf.bd _ (Zaa (uA h))
theorem kG (op:KW3->OP) (h:T Blk) (nx:Pa) (k:KW3):sGW (.bool false) true op h nx k=k .u h nx:=nr rfl
theorem gB (op:KW3->OP) (h:T Blk) (nx:Pa) (k:KW3):sGW (.bool true) true op h nx k=op k:=nr rfl
theorem zwg {n:Nat} {f:List Int} (hs:SqOk n) (hf:ql n f):Pure Tryz.prog B 224 [.agg [I (n:Int),encI f]] (· = .bool (asc n f)):=by
 refine zS fun h nx K H0 hK=>zM zP jh 100 fun hf' => ?_;have hlen:f.length<=64:=by rw [hf.len];exact Zav hs.1.2 hs.1.2
 rw [F224.go];refine H0.box (l:=[I (n:Int),encI f]) rfl fun bx h1 nx1 H1 => ?_;rw [H1.zi (k:=0) (n:=2) rfl rfl];refine mK (k:=1) hs (by omega) hf _ _ _ _ ?_;rintro _ rfl _;cases c:mg 1 n f with
 | false =>
  simp only [jL,zY,kG];exact hK _ _ _ _ _ H1 (zK rfl) (by rw [asc,c];rfl)
 | true =>
  simp only [yX,gB,sFx];rw [H1.load (k:=0) (i:=0+1) rfl rfl];simp only [yF];refine zes (v:=fun i=>f.getD i 0+f.getD (f.length-1-i) 0) (by omega) (by omega) (fun i hi K hK => ?_) ?_
  ·refine jA (p:=.of 273) (zM zP jh 9 fun _ => ?_) fun _ _ _ _ q=>q;show zQ tbl 9 _ (Pa.of 273) [I (i:Int),.ptr bx 0] _ _ _=_;rw [F273.go];simp only [sFx];have b1:=hf.get hi;have b2:=hf.get (i:=f.length-1-i) (by omega);rw [H1.load (k:=0) (i:=0+1) rfl rfl,rq rfl hi,ldL (sV (uA hi)),H1.load (k:=0) (i:=0+1) rfl rfl,H1.load (k:=0) (i:=0+1) rfl rfl];simp only [yF];rw [fF (by omega),fF (by omega),rq (i:=f.length-1-i) (by omega) (by omega),ldL (sV (uA (by omega))),qc (by omega)];exact hK
  ·simp only [zV];exact hK _ _ _ _ _ H1 (zK rfl) (by rw [asc,c,Bool.true_and])
theorem wT {a b:Nat} {K:AV->OP} (_ha:a<=9223372036854775807) (hb:0<b):zh .rem .int (I (a:Int)) (I (b:Int)) K=K (I ((a%b:Nat):Int)):=by
 have e:zh .rem .int (I (a:Int)) (I (b:Int)) K=(bif ieq (b:Int) 0 then Out.no 5 else bn ((a:Int).tmod b) fun z=>K (.int .i64 z)):=rfl;have h0:ieq (b:Int) 0=false:=by rw [qY,beq_eq_false_iff_ne];omega
 rw [e,h0,cond_false,j9];rfl
theorem mS {a b:Nat} {K:AV->OP} (ha:a<=9223372036854775807) (hb:0<b):zh .quo .int (I (a:Int)) (I (b:Int)) K=K (I ((a / b:Nat):Int)):=by
 rw [zy0 (by omega) (by omega) hb,Int.tdiv_eq_ediv_of_nonneg (by omega)];simp
def atN (n:Nat) (f:List Int) (r c:Nat):Int:=f.getD (r%n*n+c%n) 0
theorem at_in {n r c:Nat} (hn:0<n):r%n*n+c%n<n*n:=by
 have h1:=Zbb r hn;have h2:=Zbb c hn;have:r%n*n<=(n-1)*n:=Zas n (by omega);have e:(n-1)*n+n=n*n:=by
  have:(n-1+1)*n=n*n:=by rw [Nat.sub_add_cancel hn]
  rw [<- this,Zaw,Nat.one_mul]
 omega
def blkN (n:Nat) (f:List Int) (i:Nat):Int:=atN n f (i / n) (i%n)+atN n f (i / n) (i%n+1)+atN n f (i / n+1) (i%n)+atN n f (i / n+1) (i%n+1)
def halN (n:Nat) (f:List Int) (i:Nat):Int:=atN n f (i / n) (i%n)+atN n f (i / n+n / 2) (i%n+n / 2)
def mper (n:Nat) (f:List Int):Bool := !decide (n%2=1)&&(mg 2 n f&&(decide (∀ i,i<f.length->blkN n f i=blkN n f 0)&&decide (∀ i,i<f.length->halN n f i=halN n f 0)))
theorem ql.at {n:Nat} {f:List Int} (hf:ql n f) (hn:0<n) (r c:Nat) : -1000000000<=atN n f r c/\atN n f r c<=1000000000:=hf.get (by rw [hf.len];exact at_in hn)
theorem zy3 {n:Nat} {f:List Int} {h0 h:T Blk} {nx:Pa} {L:List Ob} {k:Nat} {bx:Pa} {r c:Nat} {K:Kw Prop} (hn:0<n/\n<=8) (hf:ql n f) (H:Hp h0 h nx L) (hk:L[k]? = some (.arr bx [I (n:Int),encI f])) (hr:r<=1000) (hc:c<=1000) (hK:K (I (atN n f r c)) h nx=.ok True) :
  (CS Tryz.prog B).fn 274 (.of 274) [I (r:Int),I (c:Int),.ptr bx 0] h nx K=.ok True:=by
 refine jA (p:=.of 274) (zM zP jh 9 fun _ => ?_) fun _ _ _ _ q=>q;rw [F274.go];simp only [sFx];have hin:=at_in (n:=n) (r:=r) (c:=c) hn.1;have h1:=Zbb r hn.1;have h2:=Zbb c hn.1;have h3:r%n*n<=8*8:=Zav (by omega) (by omega);have e1:((r%n:Nat):Int)*(n:Int)=((r%n*n:Nat):Int):=by simp
 rw [H.load (k:=k) (i:=0+1) hk rfl,H.load (k:=k) (i:=0) hk rfl,wT (by omega) hn.1,H.load (k:=k) (i:=0) hk rfl,au (by rw [e1];omega),e1,H.load (k:=k) (i:=0) hk rfl,wT (by omega) hn.1,qc (by omega),
  rq (i:=r%n*n+c%n) (by omega) (by rw [hf.len];exact hin),ldL (sV (uA (by rw [hf.len];exact hin)))]
 exact hK
theorem zro {n:Nat} {f:List Int} (hs:SqOk n) (hf:ql n f):Pure Tryz.prog B 225 [.agg [I (n:Int),encI f]] (· = .bool (mper n f)):=by
 refine zS fun h nx K H0 hK=>zM zP jh 100 fun hf' => ?_;have hn:0<n/\n<=8:=⟨by have:=hs.1.1;omega,hs.1.2⟩;have hlen:f.length<=64:=by rw [hf.len];exact Zav hs.1.2 hs.1.2
 rw [F225.go];refine H0.box (l:=[I (n:Int),encI f]) rfl fun bx h1 nx1 H1 => ?_;simp only [sFx];rw [H1.load (k:=0) (i:=0) rfl rfl];have e2:∀ K:AV->OP,zh .rem .int (I (n:Int)) (I 2) K=K (I ((n%2:Nat):Int)):=fun K=>wT (b:=2) (by omega) (by omega);rw [e2];simp only [fA];by_cases c1:n%2=1
 ·simp only [show ((n%2:Nat):Int)=1 by omega,decide_true,jM,zo7,zV,zG];exact hK _ _ _ _ _ H1 (zK rfl) (by simp [mper,c1])
 simp only [show ¬ ((n%2:Nat):Int)=1 by omega,decide_false,jE,pS];rw [H1.zi (k:=0) (n:=2) rfl rfl];refine mK (k:=2) hs (by omega) hf _ _ _ _ ?_;rintro _ rfl _;have em:mper n f=(mg 2 n f&&(decide (∀ i,i<f.length->blkN n f i=blkN n f 0)&&decide (∀ i,i<f.length->halN n f i=halN n f 0))):=by simp [mper,c1]
 cases c2:mg 2 n f with
 | false =>
  simp only [j4,Zak,zY,zG];exact hK _ _ _ _ _ H1 (zK rfl) (by rw [em,c2];rfl)
 | true =>
 simp only [j4,Zah,zY,zE];refine H1.alloc fun pa h2 nx2 H2 => ?_;refine H2.store (k:=0) rfl (by simp) rfl fun h3 H3 => ?_;rw [H3.load (k:=1) (i:=0+1) rfl rfl];simp only [yF];have ha:∀ (r c:Nat),r<=1000->c<=1000->∀ K:Kw Prop,K (I (atN n f r c)) h3 nx2=.ok True->(CS Tryz.prog B).fn 274 (.of 274) [I (r:Int),I (c:Int),.ptr bx 0] h3 nx2 K=.ok True:=fun r c hr hc K hK=>zy3 hn hf H3 (k:=1) rfl hr hc hK;have ld:∀ op:AV->OP,zC (.ptr pa 0) h3 op=op (.fn 274 (.of 274) [.ptr bx 0]):=fun op=>H3.load (k:=0) (i:=0) rfl rfl;have sm1:∀ i:Nat,i<f.length->i / n<=64/\i%n<=64:=fun i hi=>⟨Zbk (Nat.div_le_self i n) (by omega),Zbk (Nat.mod_le i n) (by omega)⟩;refine zes (v:=blkN n f) (by omega) (by omega) (fun i hi K hK => ?_) ?_
 ·refine jA (p:=.of 275) (zM zP jh 9 fun _ => ?_) fun _ _ _ _ q=>q;show zQ tbl 9 _ (Pa.of 275) [I (i:Int),.ptr bx 0,.ptr pa 0] _ _ _=_;obtain ⟨d1,d2⟩:=sm1 i hi;rw [F275.go];simp only [sFx];have b1:=hf.at hn.1 (i / n) (i%n);have b2:=hf.at hn.1 (i / n) (i%n+1);have b3:=hf.at hn.1 (i / n+1) (i%n);have b4:=hf.at hn.1 (i / n+1) (i%n+1);have q1:∀ K:AV->OP,zh .add .int (I ((i%n:Nat):Int)) (I 1) K=K (I ((i%n+1:Nat):Int)):=fun K=>by generalize i%n=x at d2 ⊢;rw [qc (by omega)];simp
  have q2:∀ K:AV->OP,zh .add .int (I ((i / n:Nat):Int)) (I 1) K=K (I ((i / n+1:Nat):Int)):=fun K=>by generalize i / n=x at d1 ⊢;rw [qc (by omega)];simp
  rw [H3.load (k:=1) (i:=0) rfl rfl,mS (by omega) hn.1,H3.load (k:=1) (i:=0) rfl rfl,wT (by omega) hn.1];simp only [ld,q1,q2];rw [gO];refine ha _ _ (by omega) (by omega) _ ?_;simp only [ld,q1,q2,zN];rw [gO];refine ha _ _ (by omega) (by omega) _ ?_;simp only [ld,q1,q2,zN];rw [qc (by omega),gO];refine ha _ _ (by omega) (by omega) _ ?_;simp only [ld,q1,q2,zN];rw [qc (by omega)];simp only [zN];rw [qc (by omega),gO];refine ha _ _ (by omega) (by omega) _ ?_;rw [qc (by omega)];simp only [zN];rw [qc (by omega)];simp only [zN];rw [qc (by omega)];exact hK
 by_cases c3:∀ i,i<f.length->blkN n f i=blkN n f 0
 case neg =>
  rw [decide_eq_false c3];simp only [jL,kG,zY];exact hK _ _ _ _ _ H3 (zK rfl) (by rw [em,c2,decide_eq_false c3];rfl)
 rw [decide_eq_true c3];simp only [yX,gB,sFx];rw [H3.load (k:=1) (i:=0+1) rfl rfl];simp only [yF];refine zes (v:=halN n f) (by omega) (by omega) (fun i hi K hK => ?_) ?_
 ·refine jA (p:=.of 276) (zM zP jh 9 fun _ => ?_) fun _ _ _ _ q=>q;show zQ tbl 9 _ (Pa.of 276) [I (i:Int),.ptr bx 0,.ptr pa 0] _ _ _=_;obtain ⟨d1,d2⟩:=sm1 i hi;rw [F276.go];simp only [sFx];have b1:=hf.at hn.1 (i / n) (i%n);have b2:=hf.at hn.1 (i / n+n / 2) (i%n+n / 2);have q0:∀ K:AV->OP,zh .quo .int (I (n:Int)) (I 2) K=K (I ((n / 2:Nat):Int)):=fun K=>mS (b:=2) (by omega) (by omega);have q1:∀ K:AV->OP,zh .add .int (I ((i%n:Nat):Int)) (I ((n / 2:Nat):Int)) K=K (I ((i%n+n / 2:Nat):Int)):=fun K=>by generalize i%n=x at d2 ⊢;generalize hy:n / 2=y;rw [qc (by omega)];simp
  have q2:∀ K:AV->OP,zh .add .int (I ((i / n:Nat):Int)) (I ((n / 2:Nat):Int)) K=K (I ((i / n+n / 2:Nat):Int)):=fun K=>by generalize i / n=x at d1 ⊢;generalize hy:n / 2=y;rw [qc (by omega)];simp
  have l1:∀ op:AV->OP,zC (.ptr bx 0) h3 op=op (I (n:Int)):=fun op=>H3.load (k:=1) (i:=0) rfl rfl;rw [l1,mS (by omega) hn.1,l1,wT (by omega) hn.1];simp only [ld,l1,q0,q1,q2];rw [gO];refine ha _ _ (by omega) (by omega) _ ?_;simp only [ld,l1,q0,q1,q2,zN];rw [gO];refine ha _ _ (by omega) (by omega) _ ?_;rw [qc (by omega)];exact hK
 simp only [zV];exact hK _ _ _ _ _ H3 (zK rfl) (by rw [em,c2,decide_eq_true c3];rfl)
theorem zic {l:List Int}:∀ v∈l.map I,ni v=true:=fun v hv=>by obtain ⟨x,_,rfl⟩:=List.mem_map.1 hv;rfl
theorem zrp {n a b c:Nat} {l:List AV} {op:AV->OP} (hn:1<=n) (hab:a<=b) (hbc:b<=c) (hc:c<=n):dH 1 (.lst 1 n l) (some (I (a:Int))) (some (I (b:Int))) (some (I (c:Int))) op=op (.lst 1 (b-a) ((l.drop a).take (b-a))):=by
 show (bif Nat.beq 1 1&&Nat.ble 1 n then (match bnd (some (I (c:Int))) n n with | none=>Out.no 17 | some m=>match bnd (some (I (b:Int))) m n with | none=>.no 17 | some h=>match bnd (some (I (a:Int))) h 0 with | none=>.no 17 | some q=>op (.lst 1 (h-q) ((l.drop (q*1)).take ((h-q)*1)))) else .no 17)=_;rw [Zab hn,qM hc];show (match bnd (some (I (b:Int))) c n with | none=>Out.no 17 | some h=>match bnd (some (I (a:Int))) h 0 with | none=>.no 17 | some q=>op (.lst 1 (h-q) ((l.drop (q*1)).take ((h-q)*1))))=_;rw [qM hbc];show (match bnd (some (I (a:Int))) b 0 with | none=>Out.no 17 | some q=>op (.lst 1 (b-q) ((l.drop (q*1)).take ((b-q)*1))))=_;rw [qM hab];show op (.lst 1 (b-a) ((l.drop (a*1)).take ((b-a)*1)))=_;rw [Zbm,Zbm]
def uO (n:Nat) (f:List Int) (r:Nat):List Int:=(List.range r).flatMap fun i=>(f.drop ((i+1)*n+1)).take (n-2)
def u7 (n:Nat) (f:List Int):List Int:=uO n f (n-2)
theorem xX (n:Nat) (f:List Int) (r:Nat):uO n f (r+1)=uO n f r++(f.drop ((r+1)*n+1)).take (n-2):=by simp [uO,List.range_succ]
theorem xA {n:Nat} {f:List Int} (hf:f.length=n*n) (hn:2<=n):∀ r,r<=n-2->(uO n f r).length=r*(n-2)
 | 0,_=>by simp [uO]
 | r+1,h=>by
  have h1:(r+1)*n+n<=n*n:=by
   have:(r+1+1)*n<=n*n:=Zas n (by omega);rw [Zaw (r+1) 1 n,Nat.one_mul] at this;exact this
  rw [xX,Zaf,xA hf hn r (by omega),Zaq,List.length_drop,hf,Zbo (by omega),Zaw,Nat.one_mul]
theorem ql.inner {n:Nat} {f:List Int} (hf:ql n f) (hn:2<=n):ql (n-2) (u7 n f):=by
 refine ⟨xA hf.len hn _ (Zag _),fun x hx => ?_⟩;obtain ⟨i,_,hx⟩:=List.mem_flatMap.1 hx;exact hf.bd x (List.mem_of_mem_drop (List.mem_of_mem_take hx))
theorem zpb {n:Nat} {f:List Int} (hn:3<=n/\n<=8) (hf:ql n f):Pure Tryz.prog B 277 [.agg [I (n:Int),encI f]] (· = .agg [I ((n-2:Nat):Int),encI (u7 n f)]):=by
 refine zS fun h nx K H0 hK=>zM zP jh 100 fun hf' => ?_;have hlen:f.length<=64:=by rw [hf.len];exact Zav hn.2 hn.2
 have hpos:1<=f.length:=by rw [hf.len];exact Zav (show 1<=n by omega) (show 1<=n by omega)
 rw [bg.go];refine H0.box (l:=[I (n:Int),encI f]) rfl fun bx h1 nx1 H1 => ?_;refine H1.alloc fun p h2 nx2 H2 => ?_;simp only [sFx];rw [H2.load (k:=1) (i:=0) rfl rfl,fF (by omega),zrm];refine H2.alloc fun q h3 nx3 H3 => ?_;refine H3.qf (l2:=[I ((n:Int)-2),.zf]) (k:=0) rfl rfl rfl fun h4 H4 => ?_;refine bg.L1 (fun m x4 h' nx'=>∃ (r:Nat) (o:Option Pa),x4=I ((r+1:Nat):Int)/\n-2-r=m/\r<=n-2/\Hp h h' nx' [.gro o 1 (uO n f r).length ((uO n f r).map I),.arr q [I ((n:Int)-2),cZ o 1 (uO n f r).length],.arr p [I 0,.zf],.arr bx [I (n:Int),encI f]]) (m:=n-2) (by omega) ⟨0,none,rfl,rfl,by omega,H4.zad 1⟩ ?_;rintro m z4 z5 h5 nx5 R ⟨r,o,rfl,rfl,hr,H5⟩ hR;simp only [sFx];rw [qc (by omega),H5.load (k:=3) (i:=0) rfl rfl];simp only [qo];by_cases hlt:r<n-2
 case neg =>
  simp only [show ¬ (((r+1:Nat):Int)+1<(n:Int)) by omega,decide_false,zE];obtain rfl:r=n-2:=by omega
  rw [bg.k8,H5.zi (k:=1) (n:=2) rfl rfl];refine H5.qf (l2:=[I ((n:Int)-2),cZ o 1 (uO n f (n-2)).length]) (k:=2) rfl rfl rfl fun h6 H6 => ?_;rw [H6.zi (k:=2) (n:=2) rfl rfl];have hF:af h h6 (cZ o 1 (uO n f (n-2)).length) (encI (u7 n f)):=H6.ah (k:=0) rfl zic;refine hK _ _ _ _ (AV.agg [I ((n:Int)-2),encI (u7 n f)]) H6 (Frz.agg _ _ rfl rfl fun j v v' h1 h2 => ?_) (by congr 3;omega)
  match j,h1,h2 with
  | 0,h1,h2=>cases h1;cases h2;exact zK rfl
  | 1,h1,h2=>cases h1;cases h2;exact hF
  | j+2,h1,h2=>simp at h1
 simp only [show ((r+1:Nat):Int)+1<(n:Int) by omega,decide_true,zG];have hrn:(r+1)*n+n<=n*n:=by
  have:(r+1+1)*n<=n*n:=Zas n (by omega);rw [Zaw (r+1) 1 n,Nat.one_mul] at this;exact this
 have hb:(r+1)*n<=64:=by have:=hf.len;omega
 have em:((r+1:Nat):Int)*(n:Int)=(((r+1)*n:Nat):Int):=by simp
 have l0:∀ op:AV->OP,zC (.ptr bx 0) h5 op=op (I (n:Int)):=fun op=>H5.load (k:=3) (i:=0) rfl rfl;have l1:∀ op:AV->OP,zC (.ptr bx (0+1)) h5 op=op (encI f):=fun op=>H5.load (k:=3) (i:=0+1) rfl rfl;rw [H5.load (k:=1) (i:=0+1) rfl rfl];simp only [l0,l1];have mu:∀ K:AV->OP,zh .mul .int (I ((r+1:Nat):Int)) (I (n:Int)) K=K (I (((r+1)*n:Nat):Int)):=fun K=>by rw [au (by rw [em];omega),em]
 simp only [mu]
 generalize hq:(r+1)*n=rn at *
 have a1:∀ K:AV->OP,zh .add .int (I (rn:Int)) (I 1) K=K (I ((rn+1:Nat):Int)):=fun K=>by rw [qc (by omega)];simp
 have a2:∀ K:AV->OP,zh .add .int (I (rn:Int)) (I (n:Int)) K=K (I ((rn+n:Nat):Int)):=fun K=>by rw [qc (by omega)];simp
 have a3:∀ K:AV->OP,zh .sub .int (I ((rn+n:Nat):Int)) (I 1) K=K (I ((rn+n-1:Nat):Int)):=fun K=>by rw [fF (by omega)];congr 2;omega
 simp only [a1,a2,a3];rw [zrp (by omega) (by omega) (by omega) (by rw [hf.len];omega)];have e1:rn+n-1-(rn+1)=n-2:=by omega
 rw [e1];have hnl:(((f.map I).drop (rn+1)).take (n-2)).length=n-2:=by rw [Zaq,List.length_drop,Zao,hf.len];omega
 refine H5.appN (k:=0) (o:=o) (c:=n-2) (new:=((f.map I).drop (rn+1)).take (n-2)) rfl (zs8 1) (by rw [hnl];omega) ?_ (by decide) (by decide) (by rw [xA hf.len (by omega) r hr];have:r*(n-2)<=8*8:=Zav (by omega) (by omega);omega) fun o' h6 nx6 _ H6 => ?_
 ·refine List.all_eq_true.2 fun v hv => ?_;obtain ⟨x,_,rfl⟩:=List.mem_map.1 (List.mem_of_mem_drop (List.mem_of_mem_take hv));rfl
 refine H6.store (k:=1) rfl (by simp) (wV _ _ _) fun h7 H7 => ?_;rw [qc (by omega)];have e2:uO n f (r+1)=uO n f r++(f.drop (rn+1)).take (n-2):=by rw [xX,hq]
 refine hR _ _ _ _ _ (by omega) ⟨r+1,o',by congr 1,rfl,by omega,H7.cast ?_⟩;rw [e2,Zaf,Zaj,List.map_take,List.map_drop];have:((f.drop (rn+1)).take (n-2)).length=n-2:=by rw [Zaq,List.length_drop,hf.len];omega
 rw [this];rfl
theorem zrq {m:Nat} {K:AV->OP} (hm:m<=9223372036854775807):zh .and .int (I (m:Int)) (I 1) K=K (I ((m%2:Nat):Int)):=by
 have e:zh .and .int (I (m:Int)) (I ((1:Nat):Int)) K=bn (IntKind.i64.wrap ((BitVec.ofInt 64 (m:Int) &&& BitVec.ofInt 64 ((1:Nat):Int)).toNat:Int)) fun z=>K (.int .i64 z):=rfl;have e2:zh .and .int (I (m:Int)) (I 1) K=zh .and .int (I (m:Int)) (I ((1:Nat):Int)) K:=rfl;rw [e2,e,j9,BitVec.ofInt_natCast,BitVec.ofInt_natCast,BitVec.toNat_and,BitVec.toNat_ofNat,BitVec.toNat_ofNat,Zau (by omega),show (1:Nat)%2 ^ 64=1 from rfl,Nat.and_one_is_mod,uT (by omega)]
theorem zt6 {m:Nat} {K:AV->OP}:zh .shr .int (I (m:Int)) (.int .u64 1) K=K (I ((m / 2:Nat):Int)):=by
 have e:zh .shr .int (I (m:Int)) (.int .u64 ((1:Nat):Int)) K=(bif ilt ((1:Nat):Int) 0 then Out.no 5 else bn ((m:Int).fdiv (2 ^ (min ((1:Nat):Int).toNat IntKind.i64.bits))) fun z=>K (.int .i64 z)):=rfl;have e2:zh .shr .int (I (m:Int)) (.int .u64 1) K=zh .shr .int (I (m:Int)) (.int .u64 ((1:Nat):Int)) K:=rfl;have h0:ilt ((1:Nat):Int) 0=false:=rfl;rw [e2,e,h0,cond_false,j9,show IntKind.i64.bits=64 from rfl,Int.toNat_natCast,show min 1 64=1 from rfl,Int.fdiv_eq_ediv_of_nonneg _ (by omega)]
 congr 2
theorem Zs.pow {k:Nat} {a:Int} (h:Zs k a) {s e:Nat} (hs:s<=e):Zs (k*e+1) (a ^ s):=by
 unfold Zs at *
 have h1:∀ s:Nat,(a ^ s).natAbs<=18446744073709551616 ^ (k*s):=fun s=>by
  induction s with
  | zero=>simp
  | succ s ih =>
   rw [Int.pow_succ,Int.natAbs_mul,Nat.mul_succ,Nat.pow_add];exact Zav ih (Nat.le_of_lt h)
 have h2:18446744073709551616 ^ (k*s)<=18446744073709551616 ^ (k*e):=Zck (by decide) (Zbu _ hs);have h3:18446744073709551616 ^ (k*e)<18446744073709551616 ^ (k*e+1):=Nat.pow_lt_pow_right (by decide) (by omega);have:=h1 s;omega
theorem zwh {va:AV} {a:Int} {k e:Nat} (hva:sJ va a) (hk:k*e+1<=90000) (he:e<=1000) (hza:Zs k a):Pure Tryz.prog B 228 [va,I (e:Int)] (fun v=>sJ v (a ^ e)):=by
 obtain ⟨s0,w0,rfl,hva⟩:=hva;refine zS fun h nx K H0 hK=>zM zP yL 2000 fun hf => ?_;rw [jq.go,jq.t24,zA,jq.gq];refine H0.box (l:=[s0,w0]) rfl fun pa h1 nx1 H1 => ?_;refine H1.alloc fun p h2 nx2 H2 => ?_;rw [zA,jq.jv];refine of85 (by omega) _ _ _ _ ?_;rintro _ ⟨s1,w1,rfl,i1⟩ _;refine H2.alloc fun q h3 nx3 H3 => ?_;refine H3.qf (l2:=[s1,w1]) (k:=0) rfl rfl rfl fun h4 H4 => ?_;rw [zA,zI];refine jq.zaf (fun m x1 h' nx'=>∃ (u t:Nat) (s w s1 w1:AV),x1=I (m:Int)/\m<=e/\u+t*m=e/\aH s w (a ^ t)/\aH s1 w1 (a ^ u)/\Hp h h' nx' [.arr q [s1,w1],.arr p [I 0,.zf],.arr pa [s,w]]) (m:=e) (by omega) ⟨0,1,s0,w0,s1,w1,rfl,Zag _,by omega,by rw [Int.pow_succ,Int.pow_zero,Int.one_mul];exact hva,by rw [Int.pow_zero];exact i1,H4⟩ ?_;rintro m z1 z5 z6 z7 h5 nx5 R ⟨u,t,s,w,s1,w1,rfl,hm,hut,i0,i1,H5⟩ hR;rw [jq.t17,zA,zA,jq.uq,bZ,zB,jq.v5];by_cases c:m=0
 ·subst c;rw [Nat.mul_zero,Zcb] at hut;subst hut;rw [decide_eq_false (by omega),zE,zZ,yG,jq.t21,zA,jq.rY,H5.zi (k:=0) (n:=2) rfl rfl];refine H5.qf (l2:=[s1,w1]) (k:=1) rfl rfl rfl fun h6 H6 => ?_;simp only [zF,zL];rw [jq.ret,H6.zi (k:=1) (n:=2) rfl rfl];exact hK _ _ _ _ _ H6 (uAgg i1.fix) ⟨_,_,rfl,i1⟩
 ·have hu:u<=e:=by omega
  have ht:t<=e:=by
   have:t*1<=t*m:=Zbu _ (by omega);omega
  have z0:=hza.pow ht;have zu:=hza.pow hu;have hm2:=Nat.mod_add_div m 2
  have tail:∀ {h6:T Blk} {nx6:Pa} {s1 w1:AV} {x6 x7:AV} (u':Nat),u'=u+t*(m%2)->aH s1 w1 (a ^ u')->Hp h h6 nx6 [.arr q [s1,w1],.arr p [I 0,.zf],.arr pa [s,w]] ->
    jq.t12.run (CS Tryz.prog B) 2000 (((fnO jq.res K).blk 0 (jq.t21.run (CS Tryz.prog B) 2000 (fnO jq.res K) (yw jq.res K))).blk 1 (jq.t15.run (CS Tryz.prog B) 2000 ((fnO jq.res K).blk 0 (jq.t21.run (CS Tryz.prog B) 2000 (fnO jq.res K) (yw jq.res K))) R)) (jq.t15.run (CS Tryz.prog B) 2000 ((fnO jq.res K).blk 0 (jq.t21.run (CS Tryz.prog B) 2000 (fnO jq.res K) (yw jq.res K))) R) (jq.fr (.agg [s0,w0]) (I (m:Int)) (.ptr pa 0) (.ptr p 0) (.ptr q 0) x6 x7 z7) h6 nx6=.ok True:=by
   intro h6 nx6 s1 w1 x6 x7 u' hu' i1' H6;rw [jq.t12,zA,jq.fC,bZ,zB,jq.v7];by_cases d1:1<m
   ·rw [decide_eq_true (by omega),zG,jq.dh,H6.zi (k:=2) (n:=2) rfl rfl,H6.zi (k:=2) (n:=2) rfl rfl];refine zow ⟨_,_,rfl,i0⟩ ⟨_,_,rfl,i0⟩ hk z0 z0 _ _ _ _ ?_;rintro _ ⟨s2,w2,rfl,i2⟩ _;rw [<- Int.pow_add] at i2;refine H6.qf (l2:=[s2,w2]) (k:=2) rfl rfl rfl fun h7 H7 => ?_;rw [jq.rJ,zt6];refine hR (m / 2) _ _ _ _ _ _ (by omega) ⟨u',t+t,s2,w2,s1,w1,rfl,by omega,?_,i2,i1',H7⟩;rw [hu',<- hut];have e1:t*m=t*(m%2)+t*(2*(m / 2)):=by rw [<- Zbj,hm2]
    have e2:(t+t)*(m / 2)=t*(2*(m / 2)):=by rw [<- Zbi,Nat.mul_two]
    omega
   ·have e1:m=1:=by omega
    subst e1;rw [decide_eq_false (by omega),zE,zD,jq.rJ,zt6];exact hR (1 / 2) _ _ _ _ _ _ (by omega) ⟨u',t,s,w,s1,w1,rfl,by omega,by rw [hu',<- hut];rfl,i0,i1',H6⟩
  rw [decide_eq_true (by omega),zG,zD,zA,zI,zA,zA,jq.fZ,zrq (by omega),fA,zB,jq.v6];by_cases d:m%2=1
  ·rw [decide_eq_true (by omega),zG,jq.pq,H5.zi (k:=0) (n:=2) rfl rfl,H5.zi (k:=2) (n:=2) rfl rfl];refine zow ⟨_,_,rfl,i1⟩ ⟨_,_,rfl,i0⟩ hk zu z0 _ _ _ _ ?_;rintro _ ⟨s2,w2,rfl,i2⟩ _;rw [<- Int.pow_add] at i2;refine H5.qf (l2:=[s2,w2]) (k:=0) rfl rfl rfl fun h6 H6 => ?_;exact tail (u+t) (by rw [d,Zbm]) i2 H6
  ·rw [decide_eq_false (by omega),zE,zD];exact tail u (by rw [show m%2=0 by omega,Nat.mul_zero,Zcb]) i1 H5
def brd:Nat->Nat->List Int->Bool
 | 0,_,_=>true
 | k+1,n,f=>if n<3 then true else mg 1 n f&&brd k (n-2) (u7 n f)
def bord (n:Nat) (f:List Int):Bool:=decide (5<=n)&&brd n n f
theorem zdk {k n:Nat} {f:List Int} (h:n<3):brd k n f=true:=by cases k <;> simp [brd,h]
theorem zrr {n:Nat} {f:List Int} (hs:∀ m,1<=m->m<=n->SqOk m) (hn:1<=n/\n<=8) (hf:ql n f):Pure Tryz.prog B 226 [.agg [I (n:Int),encI f]] (· = .bool (bord n f)):=by
 refine zS fun h nx K H0 hK=>zM zP jh 100 fun hf' => ?_;rw [bf.go];refine H0.box (l:=[I (n:Int),encI f]) rfl fun bx h1 nx1 H1 => ?_;simp only [sFx];rw [H1.load (k:=0) (i:=0) rfl rfl];simp only [qo];by_cases c5:n<5
 ·simp only [show (n:Int)<5 by omega,decide_true,zG];exact hK _ _ _ _ _ H1 (zK rfl) (by rw [bord,decide_eq_false (by omega)];rfl)
 simp only [show ¬ (n:Int)<5 by omega,decide_false,zE];have eb:bord n f=brd n n f:=by rw [bord,decide_eq_true (by omega)];rfl
 refine bf.L2 (fun k h' nx'=>∃ (m:Nat) (g:List Int),m<=n/\ql m g/\brd n n f=brd k m g/\m<=k/\Hp h h' nx' [.arr bx [I (m:Int),encI g]]) (m:=n) (by omega) ⟨n,f,Zag _,hf,rfl,Zag _,H1⟩ ?_;rintro k z2 z4 z5 h2 nx2 R ⟨m,g,hm,hg,hb,hk,H2⟩ hR;simp only [sFx];rw [H2.load (k:=0) (i:=0) rfl rfl];simp only [eH];by_cases c3:3<=m
 case neg =>
  simp only [show ¬ (3:Int)<=(m:Int) by omega,decide_false,zE];rw [bf.k9];exact hK _ _ _ _ _ H2 (zK rfl) (by rw [eb,hb,zdk (by omega)])
 simp only [show (3:Int)<=(m:Int) by omega,decide_true,zG];rw [H2.zi (k:=0) (n:=2) rfl rfl];refine mK (k:=1) (hs m (by omega) hm) (by omega) hg _ _ _ _ ?_;rintro _ rfl _;obtain ⟨k,rfl⟩:∃ k',k=k'+1:=⟨k-1,by omega⟩;rw [brd,if_neg (by omega)] at hb;cases c:mg 1 m g with
 | false =>
  simp only [j4,Zak,zG];exact hK _ _ _ _ _ H2 (zK rfl) (by rw [eb,hb,c];rfl)
 | true =>
  simp only [j4,Zah,zE];rw [H2.zi (k:=0) (n:=2) rfl rfl];refine zpb (by omega) hg _ _ _ _ ?_;rintro _ rfl _;refine H2.qf (l2:=[I ((m-2:Nat):Int),encI (u7 m g)]) (k:=0) rfl rfl rfl fun h3 H3 => ?_;rw [c,Bool.true_and] at hb;exact hR k _ _ _ _ _ (by omega) ⟨m-2,u7 m g,by omega,hg.inner (by omega),hb,by omega,H3⟩
def pwF (p:Nat) (f:List Int):List Int:=f.map fun x=>x ^ p
theorem zrt {p:Nat} {f:List Int} {i:Nat} (h:i<f.length):(pwF p f).getD i 0=f.getD i 0 ^ p:=by
 rw [Zad,Zad,pwF,List.getElem?_map,List.getElem?_eq_getElem h];rfl
theorem zgv {p:Nat} {l f:List Int} (h:zak l f) {j:Nat} (hj:j<l.length):yQ (l.take (j+1)) (pwF p f)=yQ (l.take j) (pwF p f)+f.getD l[j].toNat 0 ^ p:=by
 have:=h.rng _ (Zat hj);rw [u6 hj,zrt (by omega)]
theorem zjo {p:Nat} {x:Int} (hp:p<=4) (h : -1000000000<=x/\x<=1000000000):(x ^ p).natAbs<=1000000000000000000000000000000000000:=by
 rw [Int.natAbs_pow];have h1:x.natAbs ^ p<=1000000000 ^ p:=Nat.pow_le_pow_left (by omega) p;have h2:1000000000 ^ p<=1000000000 ^ 4:=Zck (by decide) hp;have h3:(1000000000:Nat) ^ 4=1000000000000000000000000000000000000:=by decide
 omega
theorem zcm {p:Nat} {l f:List Int} (hp:p<=4) (h:zak l f):∀ j,j<=l.length->(yQ (l.take j) (pwF p f)).natAbs<=1000000000000000000000000000000000000*j
 | 0,_=>by simp [yQ]
 | j+1,hj=>by
  have ih:=zcm hp h j (by omega);have h1:=zjo hp (h.get (Zat (show j<l.length by omega))).2;rw [zgv h (by omega)];have h2:=Int.natAbs_add_le (yQ (l.take j) (pwF p f)) (f.getD l[j].toNat 0 ^ p);omega
def aI (p n:Nat) (f:List Int):Bool:=decide (∀ i,i<(sqL 1 n).length->yQ ((sqL 1 n).getD i []) (pwF p f)=yQ ((sqL 1 n).getD 0 []) (pwF p f))
def pow2 (n:Nat) (f:List Int):Bool:=aI 2 n f
theorem zid {L:List (List Int)} {i:Nat} (h:i<L.length):L[i]? = some (L.getD i []):=by
 rw [Zad,List.getElem?_eq_getElem h];rfl
theorem Zs3 {z:Int} (h:z.natAbs<=100000000000000000000000000000000000000000):Zs 3 z:=by
 unfold Zs;have:(18446744073709551616:Nat) ^ 3=6277101735386680763835789423207666416102355444464034512896:=by decide
 omega
theorem zay {a b:Int}:sgnZ (a-b)=0↔a=b:=by
 unfold sgnZ;by_cases c:a-b<0
 ·rw [if_pos c];omega
 ·rw [if_neg c];by_cases d:0<a-b
  ·rw [if_pos d];omega
  ·rw [if_neg d];omega
theorem zjq {n p:Nat} {f:List Int} (hs:SqOk n) (hf:ql n f) (hp:p<=4):Pure Tryz.prog B 145 [.agg [I (n:Int),encI f],I (p:Int)] (· = .bool (aI p n f)):=by
 refine zS fun h nx K H0 hK=>zM zP yL 1000 fun hf' => ?_;rw [yt.go,yt.t46,zA,yt.gq];refine H0.box (l:=[I (n:Int),encI f]) rfl fun bx h1 nx1 H1 => ?_;rw [zA,yt.jv];refine H1.alloc fun wt h2 nx2 H2 => ?_;rw [zA,zA,yt.uq];simp only [sFx];rw [H2.load (k:=1) (i:=0) rfl rfl];refine hs.2 1 (by omega) B _ _ _ _ ?_;rintro _ rfl _;obtain ⟨hn1,hn2⟩:=zjn (k:=1) (n:=n) (by omega) hs.1.2;have hln:=hf.ln (k:=1) (by omega) hs.1.2;have ep:aI p n f=decide (∀ i,i<(sqL 1 n).length->yQ ((sqL 1 n).getD i []) (pwF p f)=yQ ((sqL 1 n).getD 0 []) (pwF p f)):=rfl
 generalize aI p n f=res at *
 generalize sqL 1 n=Ls at *
 rw [xQ];simp only [yF];rw [zI];refine yt.zw7 (fun m x11 h' nx'=>∃ (i:Nat) (s w:AV) (ww:Int),x11=I i/\Ls.length-i=m/\i<=Ls.length/\aH s w ww/\ww.natAbs<=100000000000000000000000000000000000000000/\(0<i->ww=yQ (Ls.getD 0 []) (pwF p f))/\(∀ j,j<i->yQ (Ls.getD j []) (pwF p f)=yQ (Ls.getD 0 []) (pwF p f))/\Hp h h' nx' [.arr wt [s,w],.arr bx [I (n:Int),encI f]]) (m:=Ls.length) (by omega) ⟨0,I 0,.zf,0,rfl,rfl,by omega,.inl ⟨rfl,rfl,by omega,by omega⟩,by omega,by omega,fun j hj=>by omega,H2⟩ ?_;rintro m z3 z5 z6 z7 z8 z11 z12 z13 z14 z15 z16 z17 z18 h3 nx3 R ⟨i,s,w,ww,rfl,rfl,hi,hww,hwb,hw,hall,H3⟩ hR;rw [yt.t38,zA,yt.vk,qo,zA,zB,yt.v12];by_cases hlt:i<Ls.length
 case neg =>
  rw [decide_eq_false (by omega),zE,zZ,yG,zA,yt.zw8];simp only [zF,zL];rw [yt.ret];exact hK _ _ _ _ _ H3 (zK rfl) (by rw [ep,decide_eq_true (fun j hj=>hall j (by omega))])
 rw [decide_eq_true (by omega),zG,zD];have hx:=zid hlt;have hm:=Zaa hx;obtain ⟨g1,g2⟩:=hn2 _ hm;have hok:=hln _ hm
 generalize hl:Ls.getD i []=l at *
 rw [zA,zI,zA,yt.fZ,rq rfl hlt,ldL (getT hx),zA,yt.pq];refine of85 (by omega) _ _ _ _ ?_;rintro _ ⟨s1,w1,rfl,i1⟩ _;refine H3.alloc fun sb h4 nx4 H4 => ?_;refine H4.qf (l2:=[s1,w1]) (k:=0) rfl rfl rfl fun h5 H5 => ?_;rw [zA,zA,yt.vz,yF,zI];refine yt.zaf (fun m x15 h' nx'=>∃ (j:Nat) (s1 w1:AV),x15=I j/\l.length-j=m/\j<=l.length/\aH s1 w1 (yQ (l.take j) (pwF p f))/\Hp h h' nx' [.arr sb [s1,w1],.arr wt [s,w],.arr bx [I (n:Int),encI f]]) (m:=l.length) (by omega) ⟨0,s1,w1,rfl,rfl,by omega,i1,H5⟩ ?_;rintro m y8 y15 y16 h6 nx6 R2 ⟨j,s1,w1,rfl,rfl,hj,i1,H6⟩ hR2;have hbd:=zcm hp hok j hj;rw [yt.t17,zA,yt.dw,qo,zA,zB,yt.v16];by_cases hjt:j<l.length
 ·rw [decide_eq_true (by omega),zG,zD];have hy:l[j]? = some l[j]:=List.getElem?_eq_getElem hjt;have hr:=hok.rng _ (Zat hjt);obtain ⟨hg,hb⟩:=hok.get (Zat hjt);have hpw:=zjo hp hb;rw [zA,zI,zA,yt.dh,rq rfl hjt,ldL (sV hy),yt.xu,H6.zi (k:=0) (n:=2) rfl rfl];simp only [sFx];rw [H6.load (k:=2) (i:=0+1) rfl rfl,rq (i:=l[j].toNat) (by omega) (by omega),ldL (sV hg)];refine of85 (by omega) _ _ _ _ ?_;rintro v2 i2 _;rw [zN,H6.zi (k:=0) (n:=2) rfl rfl,zN];refine zwh (k:=1) i2 (by omega) (by omega) (by unfold Zs;omega) _ _ _ _ ?_;rintro v3 i3 _;rw [H6.zi (k:=0) (n:=2) rfl rfl,zN];refine zt1 (k:=3) ⟨_,_,rfl,i1⟩ i3 (by decide) (Zs3 (by omega)) (Zs3 (by omega)) _ _ _ _ ?_;rintro _ ⟨s4,w4,rfl,i4⟩ _;refine H6.qf (l2:=[s4,w4]) (k:=0) rfl rfl rfl fun h7 H7 => ?_;rw [yt.fG,qc (by omega)];exact hR2 _ _ _ _ _ _ (by omega) ⟨j+1,s4,w4,rfl,rfl,by omega,by rw [zgv hok hjt];exact i4,H7⟩
 have hjl:j=l.length:=by omega
 rw [decide_eq_false (by omega),zE,zZ,yG,zA,zA,yt.oK,fA,zB,yt.v17];rw [Zae (by omega)] at hbd i1;by_cases ci:i=0
 ·rw [decide_eq_true (by omega),zG,yt.tu,H6.zi (k:=0) (n:=2) rfl rfl];have e0:yQ l (pwF p f)=yQ (Ls.getD 0 []) (pwF p f):=by rw [<- hl,ci]
  refine H6.qf (l2:=[s1,w1]) (k:=1) rfl rfl rfl fun h7 H7 => ?_;rw [zA,yt.zsl,H7.zi (k:=0) (n:=2) rfl rfl,H7.zi (k:=1) (n:=2) rfl rfl];refine zov (k:=3) ⟨_,_,rfl,i1⟩ ⟨_,_,rfl,i1⟩ (by decide) (Zs3 (by omega)) (Zs3 (by omega)) _ _ _ _ ?_;rintro _ rfl _;rw [fE,zB,yt.v18];by_cases e:yQ l (pwF p f)=(yQ l (pwF p f))
  ·rw [decide_eq_true (zay.2 e),Zah,zE,zD,yt.za0,qc (by omega)];refine hR _ _ _ _ _ _ _ _ _ _ _ _ _ _ _ _ (by omega) ⟨i+1,_,_,(yQ l (pwF p f)),rfl,rfl,by omega,i1,by omega,fun _=>e0,fun j hj => ?_,H7.drop⟩;by_cases ej:j=i
   ·rw [ej,hl,e];exact e0
   ·exact hall j (by omega)
  ·rw [decide_eq_false (fun q=>e (zay.1 q)),Zak,zG,zA,yt.zcu];simp only [zF,jJ,zL];rw [yt.ret];refine hK _ _ _ _ _ H7 (zK rfl) ?_;rw [ep,decide_eq_false fun q=>e ((by rw [<- hl];exact q i hlt:yQ l (pwF p f)=yQ (Ls.getD 0 []) (pwF p f)).trans (e0).symm)]
 ·rw [decide_eq_false (by omega),zE,zD];have H7:=H6;rw [zA,yt.zsl,H7.zi (k:=0) (n:=2) rfl rfl,H7.zi (k:=1) (n:=2) rfl rfl];refine zov (k:=3) ⟨_,_,rfl,i1⟩ ⟨_,_,rfl,hww⟩ (by decide) (Zs3 (by omega)) (Zs3 (by omega)) _ _ _ _ ?_;rintro _ rfl _;rw [fE,zB,yt.v18];by_cases e:yQ l (pwF p f)=ww
  ·rw [decide_eq_true (zay.2 e),Zah,zE,zD,yt.za0,qc (by omega)];refine hR _ _ _ _ _ _ _ _ _ _ _ _ _ _ _ _ (by omega) ⟨i+1,_,_,ww,rfl,rfl,by omega,hww,by omega,fun _=>(hw (by omega)),fun j hj => ?_,H7.drop⟩;by_cases ej:j=i
   ·rw [ej,hl,e];exact (hw (by omega))
   ·exact hall j (by omega)
  ·rw [decide_eq_false (fun q=>e (zay.1 q)),Zak,zG,zA,yt.zcu];simp only [zF,jJ,zL];rw [yt.ret];refine hK _ _ _ _ _ H7 (zK rfl) ?_;rw [ep,decide_eq_false fun q=>e ((by rw [<- hl];exact q i hlt:yQ l (pwF p f)=yQ (Ls.getD 0 []) (pwF p f)).trans ((hw (by omega))).symm)]
theorem zwi {n:Nat} {f:List Int} (hs:SqOk n) (hf:ql n f):Pure Tryz.prog B 145 [.agg [I (n:Int),encI f],I 2] (· = .bool (pow2 n f)):=zjq (p:=2) hs hf (by decide)
theorem zcn (z:Int):bJ (z:Rat)=cO z:=by
 unfold bJ;rw [Rat.num_intCast,Rat.den_intCast,if_pos rfl,Zbd]
theorem zet {k:Nat} {z:Int} (hk:1<=k) (h:Z9 k z):Q9 k (z:Rat):=by
 refine ⟨by rw [Rat.num_intCast];exact h,?_⟩;rw [Rat.den_intCast];exact Z9.mono (k:=1) (by unfold Z9;decide) hk
theorem zpc:cO 1=[49]:=by
 unfold cO bG rH;rw [show (1:Int).natAbs=1 from rfl,kA (by decide) (by decide),jN];rfl
theorem zk9:cO 0=[48]:=by
 unfold cO;rw [show (0:Int).natAbs=0 from rfl,zdh];rfl
theorem zla {x:Int} (hx : -9223372036854775808<=x/\x<=9223372036854775807):Pure Tryz.prog B 42 [I x] (· = T9 (x:Rat)):=by
 refine zS fun h nx K H0 hK=>zM zP yL 100 fun hf => ?_;rw [F42.go,F42.t3,zA,F42.gq,zA,F42.jv];refine dT hx _ _ _ _ ?_;rintro _ rfl _;refine zen (k:=3) (by decide) (zo1 hx) _ _ _ _ ?_;rintro _ rfl _;simp only [zF,zL];rw [F42.ret,<- zcn];exact hK _ _ _ _ _ H0 (zK rfl) rfl
theorem mulI {a b:Int} {k:Nat} (hk:1<=k/\k<=10000) (ha:Z9 k a) (hb:Z9 k b):Pure Tryz.prog B 41 [T9 (a:Rat),T9 (b:Rat)] (· = T9 ((a*b:Int):Rat)):=by
 rw [Rat.intCast_mul];exact zv8 hk.2 (by rw [Rat.den_intCast,Rat.den_intCast];decide) (zet hk.1 ha) (zet hk.1 hb)
theorem addI {a b:Int} {k:Nat} (hk:1<=k/\k<=10000) (ha:Z9 k a) (hb:Z9 k b):Pure Tryz.prog B 40 [T9 (a:Rat),T9 (b:Rat)] (· = T9 ((a+b:Int):Rat)):=by
 rw [Rat.intCast_add];exact zv7 hk.2 (by rw [Rat.den_intCast,Rat.den_intCast];decide) (zet hk.1 ha) (zet hk.1 hb)
theorem Z9pw {x:Int} {s:Nat} (hs:s<=4) (hx:x.natAbs<=1000000000):Z9 5 (x ^ s):=by
 unfold Z9;have:=zjo (p:=s) (x:=x) hs (by omega);have e:(1000000000:Nat) ^ 5=1000000000000000000000000000000000000000000000:=by decide
 omega
theorem rem2 {m:Nat} (hm:m<=1000000) {K:AV->OP}:zh .rem .int (I (m:Int)) (I 2) K=K (I ((m%2:Nat):Int)):=wT (b:=2) (by omega) (by decide)
theorem quo2 {m:Nat} (hm:m<=1000000) {K:AV->OP}:zh .quo .int (I (m:Int)) (I 2) K=K (I ((m / 2:Nat):Int)):=mS (b:=2) (by omega) (by decide)
theorem zwj {x:Int} {p:Nat} (hp:p<=4) (hx:x.natAbs<=1000000000):Pure Tryz.prog B 233 [T9 (x:Rat),I (p:Int)] (· = T9 ((x ^ p:Int):Rat)):=by
 refine zS fun h nx K H0 hK=>zM zP yL 100 fun hf => ?_;rw [ul.go,ul.t27,zA,ul.gq,zA,zA,ul.jv,qo,decide_eq_false (by omega),zB,ul.v4,zE,zD,zA,ul.pq,zA,zI];refine ul.zln (fun m x0 x1 x3 h' nx'=>∃ u t:Nat,x0=T9 ((x ^ t:Int):Rat)/\x1=I (m:Int)/\x3=T9 ((x ^ u:Int):Rat)/\m<=p/\u+t*m=p/\h'=h/\nx'=nx) (m:=p) (by omega) ⟨0,1,by rw [Int.pow_succ,Int.pow_zero,Int.one_mul],rfl,by rw [Int.pow_zero];show _=AV.str _;rw [zcn,zpc],Zag _,by omega,rfl,rfl⟩ ?_;rintro m z0 z1 z3 z5 z6 h5 nx5 R ⟨u,t,rfl,rfl,rfl,hm,hut,rfl,rfl⟩ hR;rw [ul.t19,zA,zA,ul.vz,bZ,zB,ul.v5];by_cases c:m=0
 ·subst c;rw [Nat.mul_zero,Zcb] at hut;subst hut;rw [decide_eq_false (by omega),zE,zZ,yG,zA,ul.tu];simp only [zF,zL];rw [ul.ret];exact hK _ _ _ _ _ H0 (zK rfl) rfl
 have hu:u<=p:=by omega
 have ht:t<=p:=by
  have:t*1<=t*m:=Zbu _ (by omega);omega
 have z0:=Z9pw (x:=x) (s:=t) (by omega) hx;have zu:=Z9pw (x:=x) (s:=u) (by omega) hx;have hm2:=Nat.mod_add_div m 2;have e1:t*m=t*(m%2)+t*(2*(m / 2)):=by rw [<- Zbj,hm2]
 have e2:(t+t)*(m / 2)=t*(2*(m / 2)):=by rw [<- Zbi,Nat.mul_two]
 rw [decide_eq_true (by omega),zG,zD,zI,zA,zA,ul.dh,rem2 (by omega),fA,zB,ul.v6];by_cases d:m%2=1
 ·rw [decide_eq_true (by omega),zG,ul.xu];refine mulI (k:=5) (by omega) zu z0 _ _ _ _ ?_;rintro _ rfl _;rw [zA,ul.fG];refine mulI (k:=5) (by omega) z0 z0 _ _ _ _ ?_;rintro _ rfl _;rw [<- Int.pow_add,<- Int.pow_add,ul.rJ,quo2 (by omega)];rw [d,Zbm] at e1;exact hR (m / 2) _ _ _ _ _ _ _ (by omega) ⟨u+t,t+t,rfl,rfl,rfl,by omega,by omega,rfl,rfl⟩
 ·rw [decide_eq_false (by omega),zE,zD,zA,ul.fG];refine mulI (k:=5) (by omega) z0 z0 _ _ _ _ ?_;rintro _ rfl _;rw [<- Int.pow_add,ul.rJ,quo2 (by omega)];rw [show m%2=0 by omega,Nat.mul_zero] at e1;exact hR (m / 2) _ _ _ _ _ _ _ (by omega) ⟨u,t+t,rfl,rfl,rfl,by omega,by omega,rfl,rfl⟩
def qL (g:List Int):List Rat:=g.map fun (z:Int)=>(z:Rat)
theorem zwk (l:List Rat):∀ v∈l.map T9,ni v=true:=fun v hv=>by obtain ⟨x,_,rfl⟩:=List.mem_map.1 hv;rfl
theorem zru {p i:Nat} {f:List Int} {x:Int} (hx:f[i]? = some x):qL (pwF p (f.take (i+1)))=qL (pwF p (f.take i))++[((x ^ p:Int):Rat)]:=by
 rw [Zax,hx,Option.toList_some];unfold qL pwF;rw [Zaj,Zaj];rfl
theorem zwl {p:Nat} {f:List Int}:(qL (pwF p f)).length=f.length:=by unfold qL pwF;rw [Zao,Zao]
theorem pW {f:List Int} {p:Nat} (hp:p<=4) (hl:f.length<=1000) (hb:∀ x∈f, -1000000000<=x/\x<=1000000000):Pure Tryz.prog B 150 [encI f,I (p:Int)] (· = zo2 (qL (pwF p f))):=by
 refine zS fun h nx K H0 hK=>zM zP yL 2000 fun hf => ?_;rw [qi.go,qi.t18,zA,qi.gq,zA,qi.jv,zA,zA,qi.uq,zI];refine qi.zlo (fun m x3 x4 h' nx'=>∃ (i:Nat) (o:Option Pa),x4=I (i:Int)/\m+i=f.length/\x3=cZ o 1 (qL (pwF p (f.take i))).length/\Hp h h' nx' [.gro o 1 (qL (pwF p (f.take i))).length ((qL (pwF p (f.take i))).map T9)]) (m:=f.length) (by omega) ⟨0,none,rfl,rfl,rfl,H0.zad 1⟩ ?_;rintro m z3 z4 z5 h3 nx3 R ⟨i,o,rfl,hm,rfl,H3⟩ hR;rw [qi.t10,zA,zA,qi.vk,yF,qo,zB,qi.v5];by_cases c:i<f.length
 ·have hx:f[i]? = some f[i]:=List.getElem?_eq_getElem c;have hbx:=hb _ (Zat c);have en:=zru (p:=p) hx;obtain ⟨q,hq⟩:∃ q:Rat,q=((f[i] ^ p:Int):Rat):=⟨_,rfl⟩;rw [<- hq] at en;have el:(qL (pwF p (f.take i))).length<=1000:=by rw [zwl,Zaq];omega
  rw [decide_eq_true (by omega),zG,zD,zA,zI,qi.pq,rq rfl c,ldL (sV hx)];refine zla (by omega) _ _ _ _ ?_;rintro _ rfl _;refine zwj hp (by omega) _ _ _ _ ?_;rintro _ rfl _;rw [<- hq];refine H3.yg (l:=[T9 q]) rfl fun tb h6 nx6 H6 => ?_;refine H6.appN (k:=1) (o:=o) (c:=1) (new:=[T9 q]) rfl (xk.rd (l:=[T9 q]) (n:=1) (H6.own _ (Zal ..)) rfl) rfl rfl (by decide) (by decide) (by omega) fun o' h7 nx7 _ H7 => ?_;rw [qi.dw,qc (by omega)];refine hR (m-1) _ _ _ _ _ (by omega) ⟨i+1,o',by congr 1,by omega,by rw [en,Zaf];rfl,?_⟩;rw [en,Zaf,Zaj];exact H7.drop
 ·rw [decide_eq_false (by omega),zE,zZ,yG,zA,qi.fG];simp only [zF,zL];rw [qi.ret];rw [Zae (by omega)] at H3 ⊢;exact hK _ _ _ _ _ H3 (H3.ah (k:=0) rfl (zwk _)) rfl
end Go.Ev
namespace Go.Ev
open Go Go.Proofs
set_option maxRecDepth 100000
theorem zrv:mJ 0 [7,8]=true:=by kernel_rfl
theorem zrx:mJ 1 [7,8]=true:=by kernel_rfl
theorem zry:mJ 2 [7]=true:=by kernel_rfl
theorem zrz:mJ 2 [8]=true:=by kernel_rfl
theorem zpd:([7,8]:List Nat).all (fun n=>wZ xZ 70 [.str (uD 0),I (n:Int)] (sqVZ 0 n))=true:=by kernel_rfl
theorem zpe:([7,8]:List Nat).all (fun n=>wZ xZ 70 [.str (uD 1),I (n:Int)] (sqVZ 1 n))=true:=by kernel_rfl
theorem zr0:([7]:List Nat).all (fun n=>wZ xZ 70 [.str (uD 2),I (n:Int)] (sqVZ 2 n))=true:=by kernel_rfl
theorem zr1:([8]:List Nat).all (fun n=>wZ xZ 70 [.str (uD 2),I (n:Int)] (sqVZ 2 n))=true:=by kernel_rfl
theorem zy4:ok65 70 0=true:=by kernel_rfl
theorem zy5:ok65 70 1=true:=by kernel_rfl
theorem zy6:ok65 70 2=true:=by kernel_rfl
end Go.Ev
namespace Go.Ev
open Go Go.Proofs
variable {B:Nat}
set_option maxRecDepth 100000
theorem zie {n:Nat} (h1:1<=n) (h2:n<=8):SqOk n:=by
 by_cases h:n<=6
 ·exact zy2 h1 h
 refine ⟨by omega,fun k hk B => ?_⟩
 match k,hk with
 | 0,_=>exact uM zrv (by simp;omega)
 | 1,_=>exact uM zrx (by simp;omega)
 | 2,_ =>
  rcases (show n=7\/n=8 by omega) with rfl | rfl
  ·exact uM zry (by simp)
  ·exact uM zrz (by simp)
theorem zwm {n:Nat} (h1:1<=n) (h2:n<=8) {k:Nat} (hk:k<3) {B:Nat}:Pure Tryz.prog B 70 [.str (uD k),I (n:Int)] (· = sqVZ k n):=by
 by_cases h:n<=6
 ·match k,hk with
  | 0,_=>exact pX zy4 ⟨h1,h⟩
  | 1,_=>exact pX zy5 ⟨h1,h⟩
  | 2,_=>exact pX zy6 ⟨h1,h⟩
 match k,hk with
 | 0,_=>exact gR (fun _=>uY) (pY _ _) (List.all_eq_true.1 zpd n (by simp;omega))
 | 1,_=>exact gR (fun _=>uY) (pY _ _) (List.all_eq_true.1 zpe n (by simp;omega))
 | 2,_ =>
  rcases (show n=7\/n=8 by omega) with rfl | rfl
  ·exact gR (fun _=>uY) (pY _ _) (List.all_eq_true.1 zr0 7 (by simp))
  ·exact gR (fun _=>uY) (pY _ _) (List.all_eq_true.1 zr1 8 (by simp))
theorem zr2:((List.range 3).all fun k=>(List.range 9).all fun n=>(sqL k n).all fun l=>decide (l.length=n))=true:=by decide +kernel
theorem zwn {k n:Nat} (hk:k<3) (hn:n<=8) {l:List Int} (hl:l∈sqL k n):l.length=n:=by
 have h1:=List.all_eq_true.1 zr2 k (List.mem_range.2 hk);have h2:=List.all_eq_true.1 h1 n (List.mem_range.2 (by omega));exact of_decide_eq_true (List.all_eq_true.1 h2 l hl)
structure Fit (n:Nat) (g:List Int):Prop where
 len:g.length=n*n
 bd:∀ x∈g,x.natAbs<=1000000000000000000000000000000000000
theorem ql.fit {n p:Nat} {f:List Int} (hf:ql n f) (hp:p<=4):Fit n (pwF p f):=by
 refine ⟨by unfold pwF;rw [Zao];exact hf.len,fun x hx => ?_⟩;obtain ⟨y,hy,rfl⟩:=List.mem_map.1 hx;exact zjo hp (hf.bd y hy)
theorem zeu {n:Nat} {g:List Int} (hg:Fit n g) {i:Nat} (h:i<g.length):(g.getD i 0).natAbs<=1000000000000000000000000000000000000:=hg.bd _ (Zaa (uA h))
theorem getQ {g:List Int} {i:Nat} (h:i<g.length):((qL g).map T9)[i]? = some (T9 ((g.getD i 0:Int):Rat)):=by
 rw [List.getElem?_map,qL,List.getElem?_map,uA h];rfl
theorem zpf:(AV.str [48])=T9 (((0:Int)):Rat):=by show _=AV.str _;rw [zcn,zk9]
theorem zpg {g:List Int}:(qL g).length=g.length:=by unfold qL;rw [Zao]
theorem zt7 {a b:Int}:bJ (a:Rat)=bJ (b:Rat)↔a=b:=by
 refine ⟨fun h => ?_,fun h=>by rw [h]⟩;have:=congrArg Rat.num (zo3 h)
 rwa [Rat.num_intCast,Rat.num_intCast] at this
def mgz (k n:Nat) (g:List Int):Bool:=decide (∀ i,i<(sqL k n).length->yQ ((sqL k n).getD i []) g=yQ ((sqL k n).getD 0 []) g)
theorem p6 {g l:List Int} {n:Nat} (hg:Fit n g) (hl:∀ c∈l,0<=c/\c<((n*n:Nat):Int)):∀ j,j<=l.length->(yQ (l.take j) g).natAbs<=1000000000000000000000000000000000000*j
 | 0,_=>by simp [yQ]
 | j+1,hj=>by
  have ih:=p6 hg hl j (by omega);have h0:=hl _ (Zat (show j<l.length by omega));have h1:=zeu hg (i:=l[j].toNat) (by rw [hg.len];omega);rw [u6 (by omega)];have h2:=Int.natAbs_add_le (yQ (l.take j) g) (g.getD l[j].toNat 0);omega
theorem zjr {z:Int} {j:Nat} (hj:j<=100) (h:z.natAbs<=1000000000000000000000000000000000000*j):Z9 5 z:=by
 unfold Z9;have e:(1000000000:Nat) ^ 5=1000000000000000000000000000000000000000000000:=by decide
 omega
theorem zco {k n:Nat} {g:List Int} (hk:k<3) (hn:1<=n/\n<=8) (hg:Fit n g):Pure Tryz.prog B 149 [.str (uD k),I (n:Int),zo2 (qL g)] (· = .bool (mgz k n g)):=by
 refine zS fun h nx K H0 hK=>zM zP yL 1000 fun hf' => ?_;rw [zo.go,zo.t39,zA,zo.gq,zA,zo.jv];refine zwm hn.1 hn.2 hk _ _ _ _ ?_;rintro _ rfl _;have hin:=zjn (k:=k) (n:=n) hk hn.2;have hlen:∀ l∈sqL k n,l.length=n:=fun l hl=>zwn hk hn.2 hl;have ep:mgz k n g=decide (∀ i,i<(sqL k n).length->yQ ((sqL k n).getD i []) g=yQ ((sqL k n).getD 0 []) g):=rfl;rw [sqVZ]
 generalize mgz k n g=res at *
 generalize sqL k n=Ls at *
 obtain ⟨hn1,hn2⟩:=hin;simp only [jC,jB];refine H0.alloc fun sb h2 nx2 H2 => ?_;refine H2.qf (l2:=[I ((n*n:Nat):Int),encT Ls]) (k:=0) rfl rfl rfl fun h3 H3 => ?_;rw [zA,zA,zo.uq,zI];refine zo.zw9 (fun m x5 h' nx'=>∃ i:Nat,x5=I (i:Int)/\m+i=Ls.length/\(∀ j,j<i->yQ (Ls.getD j []) g=yQ (Ls.getD 0 []) g)/\h'=h3/\nx'=nx2) (m:=Ls.length) (by omega) ⟨0,rfl,rfl,fun j hj=>by omega,rfl,rfl⟩ ?_;rintro m z3 z5 z6 z7 z8 z9 z10 z11 h4 nx4 R ⟨i,rfl,hm,hall,rfl,rfl⟩ hR;have l1:∀ op:AV->OP,zC (.ptr sb (0+1)) h4 op=op (encT Ls):=fun op=>H3.load (k:=0) (i:=0+1) rfl rfl;rw [zo.t31,zA,zA,zo.vk,sFx,l1,yF,qo,zB,zo.v9];by_cases ci:i<Ls.length
 case neg =>
  rw [decide_eq_false (by omega),zE,zZ,yG,zA,zo.za0];simp only [zF,zL];rw [zo.ret];exact hK _ _ _ _ _ H3 (zK rfl) (by rw [ep,decide_eq_true (fun j hj=>hall j (by omega))])
 have hx0:=zid (L:=Ls) (i:=0) (by omega);have hxi:=zid ci;obtain ⟨_,b0⟩:=hn2 _ (Zaa hx0);obtain ⟨_,bi⟩:=hn2 _ (Zaa hxi);have e0:=hlen _ (Zaa hx0);have ei:=hlen _ (Zaa hxi);rw [decide_eq_true (by omega),zG,zD,zA,zI,zA,zo.pq,zA,zA,zo.vz,zI]
 generalize hl0:Ls.getD 0 []=la at *
 generalize hli:Ls.getD i []=lb at *
 refine zo.zaf (fun m x6 x7 x8 h' nx'=>∃ j:Nat,x8=I (j:Int)/\m+j=n/\x6=T9 ((yQ (la.take j) g:Int):Rat)/\x7=T9 ((yQ (lb.take j) g:Int):Rat)/\h'=h4/\nx'=nx4) (m:=n) (by omega) ⟨0,rfl,rfl,zpf,zpf,rfl,rfl⟩ ?_;rintro m2 y6 y7 y8 y10 h5 nx5 R2 ⟨j,rfl,hm2,rfl,rfl,rfl,rfl⟩ hR2;rw [zo.t17,zA,zA,zo.dw,qo,zB,zo.v10];by_cases cj:j<n
 ·have ja:j<la.length:=by omega
  have jb:j<lb.length:=by omega
  have ga:la[j]? = some la[j]:=List.getElem?_eq_getElem ja;have gb:lb[j]? = some lb[j]:=List.getElem?_eq_getElem jb;have ra:=b0 _ (Zat ja);have rb:=bi _ (Zat jb);have ka:la[j].toNat<g.length:=by rw [hg.len];omega
  have kb:lb[j].toNat<g.length:=by rw [hg.len];omega
  rw [decide_eq_true (by omega),zG,zD,zA,zI,zA,zo.xu,zo.r7_0,zo.zam,sFx,l1,rq (j:=0) (i:=0) rfl (by omega),ldL (getT hx0),rq (i:=j) rfl ja,zo.r7_1,zo.zan,ldL (sV ga),zo2,rq (i:=la[j].toNat) (by omega) (by rw [zpg];exact ka),ldL (getQ ka)];refine addI (k:=5) (by omega) (zjr (by omega) (p6 hg b0 j (by omega))) (zjr (j:=1) (by omega) (by have:=zeu hg ka;omega)) _ _ _ _ ?_;rintro _ rfl _;rw [zo.r7_2,zo.zao,zo.bT,zo.ou,zo.aW,sFx,l1,rq (i:=i) rfl ci,ldL (getT hxi),zo.r8_1,zo.tX,rq (i:=j) rfl jb,ldL (sV gb),rq (i:=lb[j].toNat) (by omega) (by rw [zpg];exact kb),ldL (getQ kb)];refine addI (k:=5) (by omega) (zjr (by omega) (p6 hg bi j (by omega))) (zjr (j:=1) (by omega) (by have:=zeu hg kb;omega)) _ _ _ _ ?_;rintro _ rfl _;rw [zo.r8_2,zo.zdm,zo.rJ,qc (by omega)];exact hR2 (m2-1) _ _ _ _ _ _ (by omega) ⟨j+1,by congr 1,by omega,by rw [u6 ja],by rw [u6 jb],rfl,rfl⟩
 ·rw [decide_eq_false (by omega),zE,zZ,yG,zA,zo.oK,Zae (by omega),Zae (by omega),zv9,zB,zo.v11];by_cases e:yQ la g=yQ lb g
  ·rw [decide_eq_true (zt7.2 e),Zah,zE,zD,zo.zle,qc (by omega)];refine hR (m-1) _ _ _ _ _ _ _ _ _ _ (by omega) ⟨i+1,by congr 1,by omega,fun j hj => ?_,rfl,rfl⟩;by_cases ej:j=i
   ·rw [ej,hli];exact e.symm
   ·exact hall j (by omega)
  ·rw [decide_eq_false (fun q=>e (zt7.1 q)),Zak,zG,zA,zo.tu];simp only [zF,jJ,zL];rw [zo.ret];refine hK _ _ _ _ _ H3 (zK rfl) ?_;rw [ep,decide_eq_false fun q=>e ((by rw [<- hli];exact q i ci:yQ lb g=yQ la g)).symm]
def Cst (L:List (List Int)) (f:List Int):Prop:=∀ l∈L,∀ l'∈L,yQ l f=yQ l' f
theorem zgw {a:Int}:∀ {S:List Int} {k:Nat},difA a S k<0↔∀ s∈S,s=a
 | [],k=>by simp [difA]
 | x::S,k=>by
  by_cases c:x=a
  ·rw [difA,if_pos c,zgw (S:=S)];simp [c]
  ·rw [difA,if_neg c];constructor
   ·intro h;omega
   ·intro h;exact absurd (h x (by simp)) c
theorem zph {L:List (List Int)} {f:List Int}:zdj (wA L f)<0↔Cst L f:=by
 rw [zdj,zgw];constructor
 ·intro h l hl l' hl';have h1:=h (yQ l f) (List.mem_map_of_mem hl);have h2:=h (yQ l' f) (List.mem_map_of_mem hl');rw [h1,h2]
 ·intro h s hs;obtain ⟨l,hl,rfl⟩:=List.mem_map.1 hs;cases L with
  | nil=>simp at hl
  | cons a L=>exact h l hl a (by simp)
theorem zwo {k n:Nat} {f:List Int}:mg k n f=true↔Cst (sqL k n) f:=by rw [mg,decide_eq_true_eq,zph]
theorem zr3 {L:List (List Int)} {f:List Int}:(∀ i,i<L.length->yQ (L.getD i []) f=yQ (L.getD 0 []) f)↔Cst L f:=by
 constructor
 ·intro h l hl l' hl';obtain ⟨i,hi⟩:=List.mem_iff_getElem?.1 hl;obtain ⟨j,hj⟩:=List.mem_iff_getElem?.1 hl';have h1:=h i (List.getElem?_eq_some_iff.1 hi).1;have h2:=h j (List.getElem?_eq_some_iff.1 hj).1;rw [Zad,hi] at h1;rw [Zad,hj] at h2;simp only [Option.getD_some] at h1 h2;rw [h1,h2]
 ·intro h i hi;have m:∀ i,i<L.length->L.getD i []∈L:=fun i hi=>by
   rw [Zad,List.getElem?_eq_getElem hi];exact Zat hi
  exact h _ (m i hi) _ (m 0 (by omega))
theorem zr4 {k n:Nat} {g:List Int}:mgz k n g=true↔Cst (sqL k n) g:=by rw [mgz,decide_eq_true_eq,zr3]
theorem zpi {k n:Nat} {f:List Int}:mgz k n f=mg k n f:=Bool.eq_iff_iff.2 (zr4.trans zwo.symm)
theorem zev (f:List Int):pwF 1 f=f:=by
 unfold pwF
 conv=>rhs;rw [<- List.map_id f]
 exact List.map_congr_left fun x _=>by rw [Int.pow_succ,Int.pow_zero,Int.one_mul];rfl
abbrev xM (n:Nat) (f:List Int):AV:=.agg [I (n:Int),I (n:Int),encI f]
theorem ql.le {n:Nat} {f:List Int} (hf:ql n f) (hn:n<=8):f.length<=64:=by rw [hf.len];exact Zav hn hn
theorem u9 {k n:Nat} {f:List Int} (hk:k<3) (hn:1<=n/\n<=8) (hf:ql n f):Pure Tryz.prog B 63 [.str (uD k),xM n f] (· = .bool (mg k n f)):=by
 refine zS fun h nx K H0 hK=>zM zP yL 1000 fun hf' => ?_;have hl:=hf.le hn.2;rw [F63.go,F63.t3,zA,F63.gq];refine H0.box (l:=[I (n:Int),I (n:Int),encI f]) rfl fun bx h1 nx1 H1 => ?_;have l0:∀ op:AV->OP,zC (.ptr bx (0+0)) h1 op=op (I (n:Int)):=fun op=>H1.load (k:=0) (i:=0+0) rfl rfl;have l2:∀ op:AV->OP,zC (.ptr bx (0+2)) h1 op=op (encI f):=fun op=>H1.load (k:=0) (i:=0+2) rfl rfl;rw [zA,F63.jv];simp only [sFx,l0,l2];refine pW (p:=1) (by omega) (by omega) hf.bd _ _ _ _ ?_;rintro _ rfl _;simp only [l0,zN];rw [zev];refine zco hk hn (by have:=hf.fit (p:=1) (by omega);rwa [zev] at this) _ _ _ _ ?_;rintro _ rfl _;simp only [zF,zL];rw [F63.ret];exact hK _ _ _ _ _ H1 (zK rfl) (by rw [zpi])
theorem zy7 {a b:List UInt8} {K:AV->OP}:zh .neq .str (.str a) (.str b) K=K (.bool (!decide (a=b))):=by
 have:zh .neq .str (.str a) (.str b) K=K (.bool (!j3 a b)):=rfl;rw [this];by_cases c:a=b
 ·rw [decide_eq_true c,bU.2 c]
 ·rw [decide_eq_false c];cases q:j3 a b with
  | false=>rfl
  | true=>exact absurd (bU.1 q) c
theorem zt8 (l:List (List UInt8)):∀ v∈l.map AV.str,ni v=true:=fun v hv=>by obtain ⟨x,_,rfl⟩:=List.mem_map.1 hv;rfl
theorem zif {P:Program} {f:Nat} {p id:Pa} {h0 h:T Blk} {nx:Pa} {L:List Ob} {k:Nat} {a b:Int} {l:List Int} {K:Kw Prop} {Q:AV->Prop} (H:Hp h0 h nx L) (hk:L[k]? = some (.arr id (l.map I))) (hq:∀ B,Pure P B f [I a,I b,encI l] Q) (hpl:∀ v,Q v->Plain v)
  (hK:∀ v,Q v->K v h nx=.ok True):(CS P B).fn f p [I a,I b,.sl id 0 l.length (some l.length) 1] h nx K=.ok True :=
 zft (.cons (.int _ _) (.cons (.int _ _) (.cons (xk.frz (H.own _ (Zaa hk)) (T.ru _ id) (Zag _) (by simp) (zeq _)) .nil))) (by
  have:=p9 l;simp only [nns,ni.nn this,Bool.and_self,show nn (I a)=true from rfl,show nn (I b)=true from rfl]) hq hpl fun v hv _=>hK v hv
def rngE (a b:Int) (l:List Int):Int:=if l.any (fun x=>decide (x<a)||decide (b<x)) then 3 else 0
theorem zwp {a b:Int} {h0 h:T Blk} {nx p:Pa} {L:List Ob} {l:List Int} {K:Kw Prop} {id:Pa} {k n:Nat} (hn:l.length=n) (hl:l.length<=1000000) (H:Hp h0 h nx L) (hk:L[k]? = some (.arr id (l.map I))) (hK:K (I (rngE a b l)) h nx=.ok True):(CS Tryz.prog B).fn 87 p [I a,I b,.sl id 0 n (some n) 1] h nx K=.ok True:=by
 subst hn;exact zif H hk (fun B=>zjm hl) (fun v hv=>by rw [hv];exact .int _ _) fun v hv=>by rw [hv];exact hK
theorem rng1 {a b n:Int}:rngE a b [n]=if n<a\/b<n then 3 else 0:=by
 unfold rngE;by_cases c1:n<a <;> by_cases c2:b<n <;> simp [c1,c2]
def nrm (f:List Int):Bool:=decide (srt f=upTo f.length)
def bim (n:Nat) (f:List Int):Bool:=mg 1 n f&&pow2 n f
def prs (n:Nat) (f:List Int):List Bool:=[nrm f,mg 0 n f,mg 1 n f,mg 2 n f,asc n f,mper n f,bord n f,bim n f]
def zpj:List UInt8:=[110,111,114,109,97,108]
def zih:List UInt8:=[97,115,115,111,99,105,97,116,105,118,101]
def zpk:List UInt8:=[109,111,115,116,45,112,101,114,102,101,99,116]
def zpl:List UInt8:=[98,111,114,100,101,114,101,100]
def kBim:List UInt8:=[98,105,109,97,103,105,99]
def knm:List (List UInt8):=[zpj,uD 0,uD 1,uD 2,zih,zpk,zpl,kBim]
def kfn:List Nat:=[220,221,222,223,224,225,226,227]
def kf:List (List UInt8)->List Bool->List (List UInt8)
 | x::l,b::bs=>if b then x::kf l bs else kf l bs
 | _,_=>[]
theorem zjs:∀ (l:List (List UInt8)) (bs:List Bool) (x:List UInt8) (b:Bool),l.length=bs.length->kf (l++[x]) (bs++[b])=kf l bs++if b then [x] else []
 | [],[],x,b,_=>by cases b <;> rfl
 | y::l,c::bs,x,b,h=>by
  show (if c then y::kf (l++[x]) (bs++[b]) else kf (l++[x]) (bs++[b]))=_;rw [zjs l bs x b (by simpa using h)];cases c <;> rfl
 | [],_::_,_,_,h=>by simp at h
 | _::_,[],_,_,h=>by simp at h
theorem zii:∀ (l:List (List UInt8)) (bs:List Bool),(kf l bs).length<=l.length
 | [],_=>by simp [kf]
 | x::l,[]=>by simp [kf]
 | x::l,b::bs=>by
  have:=zii l bs;show (if b then x::kf l bs else kf l bs).length<=_;cases b <;> simp <;> omega
def kinR (n:Nat) (f:List Int):List (List UInt8):=kf knm (prs n f)
theorem zij {t:T AV} {l:List AV} {off s:Nat} (h:yI t 0 l.length=l) (hle:off+s<=l.length):yI t off s=(l.drop off).take s:=by
 have e1:l.drop off=yI t off (l.length-off):=by
  have:=zf1 t l.length off (by omega);rw [h,Zay] at this;exact this
 rw [e1];apply Zbv;intro i;by_cases hi:i<s
 ·rw [yO _ _ _ _ hi,List.getElem?_take_of_lt hi,yO _ _ _ _ (by omega)]
 ·rw [List.getElem?_eq_none (by simp;omega),List.getElem?_eq_none (by simp;omega)]
theorem Hp.zwq {h0 h:T Blk} {nx:Pa} {L:List Ob} {k n off:Nat} {id:Pa} {l l2:List AV} {op:AV->OP} (H:Hp h0 h nx L) (hk:L[k]? = some (.arr id l)) (hle:off+n<=l.length) (he:(l.drop off).take n=l2):zO n (.ptr id off) h op=op (.agg l2):=by
 obtain ⟨o,t,h1,h2⟩:=H.own _ (Zaa hk);show vg (T.get .no id h) (fun _ m t=>bif Nat.ble (off+n) m then op (.agg (yI t off n)) else .no 8) (.no 9)=_;rw [h1];show (bif Nat.ble (off+n) l.length then op (.agg (yI t off n)) else .no 8)=_;rw [Zab hle,cond_true,zij h2 hle,he]
theorem zpm (f:List Int) (hl:f.length<=1000) (hp:0<f.length):Pure Tryz.prog B 142 [encI f] (· = encI f):=by
 cases f with
 | nil=>simp at hp
 | cons x t =>
  refine zS fun h nx K H0 hK=>zM zP jh 9 fun hf => ?_;rw [F142.go];have e:∀ A C:OP,(zh .eql (.nil .sl) (encI (x::t)) .zf fun v1=>yH v1 A C)=C:=fun A C=>nr rfl;rw [e];refine H0.copy (new:=(x::t).map I) (c:=(x::t).length) (fun h1 _=>zs8 1) (by simp) zic (by decide) (by omega) fun v X h' nx' H' _ _ hF => ?_;exact hK _ _ _ _ _ H' (hF _ _ _ _ H' (by simp)) rfl
theorem zwr {n:Nat} {f:List Int} (hj:∀ B,JOk Tryz.prog B xY) (hl:f.length<=100000):Pure Tryz.prog B 220 [.agg [I (n:Int),encI f]] (· = .bool (nrm f)):=by
 refine zS fun h nx K H0 hK=>zM zP jh 100 fun hf' => ?_;rw [F220.go];refine H0.box (l:=[I (n:Int),encI f]) rfl fun bx h1 nx1 H1 => ?_;simp only [sFx];rw [H1.load (k:=0) (i:=0+1) rfl rfl];refine zgr hj hl _ _ _ _ ?_;rintro _ rfl _;exact hK _ _ _ _ _ H1 (zK rfl) rfl
theorem k221 {n:Nat} {f:List Int} (hs:SqOk n) (hf:ql n f):Pure Tryz.prog B 221 [.agg [I (n:Int),encI f]] (· = .bool (mg 0 n f)):=by
 refine zS fun h nx K H0 hK=>zM zP jh 100 fun hf' => ?_;rw [F221.go];refine H0.box (l:=[I (n:Int),encI f]) rfl fun bx h1 nx1 H1 => ?_;rw [H1.zi (k:=0) (n:=2) rfl rfl];refine mK (k:=0) hs (by omega) hf _ _ _ _ ?_;rintro _ rfl _;exact hK _ _ _ _ _ H1 (zK rfl) rfl
theorem k222 {n:Nat} {f:List Int} (hs:SqOk n) (hf:ql n f):Pure Tryz.prog B 222 [.agg [I (n:Int),encI f]] (· = .bool (mg 1 n f)):=by
 refine zS fun h nx K H0 hK=>zM zP jh 100 fun hf' => ?_;rw [F222.go];refine H0.box (l:=[I (n:Int),encI f]) rfl fun bx h1 nx1 H1 => ?_;rw [H1.zi (k:=0) (n:=2) rfl rfl];refine mK (k:=1) hs (by omega) hf _ _ _ _ ?_;rintro _ rfl _;exact hK _ _ _ _ _ H1 (zK rfl) rfl
theorem k223 {n:Nat} {f:List Int} (hs:SqOk n) (hf:ql n f):Pure Tryz.prog B 223 [.agg [I (n:Int),encI f]] (· = .bool (mg 2 n f)):=by
 refine zS fun h nx K H0 hK=>zM zP jh 100 fun hf' => ?_;rw [F223.go];refine H0.box (l:=[I (n:Int),encI f]) rfl fun bx h1 nx1 H1 => ?_;rw [H1.zi (k:=0) (n:=2) rfl rfl];refine mK (k:=2) hs (by omega) hf _ _ _ _ ?_;rintro _ rfl _;exact hK _ _ _ _ _ H1 (zK rfl) rfl
theorem zwt {n:Nat} {f:List Int} (hs:SqOk n) (hf:ql n f):Pure Tryz.prog B 227 [.agg [I (n:Int),encI f]] (· = .bool (bim n f)):=by
 refine zS fun h nx K H0 hK=>zM zP jh 100 fun hf' => ?_;rw [F227.go];refine H0.box (l:=[I (n:Int),encI f]) rfl fun bx h1 nx1 H1 => ?_;rw [H1.zi (k:=0) (n:=2) rfl rfl];refine mK (k:=1) hs (by omega) hf _ _ _ _ ?_;rintro _ rfl _;cases c:mg 1 n f with
 | false =>
  simp only [jL,zY,kG];exact hK _ _ _ _ _ H1 (zK rfl) (by rw [bim,c];rfl)
 | true =>
  simp only [yX,gB];rw [H1.zi (k:=0) (n:=2) rfl rfl];refine zwi hs hf _ _ _ _ ?_;rintro _ rfl _;simp only [zV];exact hK _ _ _ _ _ H1 (zK rfl) (by rw [bim,c,Bool.true_and])
noncomputable def ktab:List AV:=[.str zpj,.fn 220 (.of 220) [],.str (uD 0),.fn 221 (.of 221) [],.str (uD 1),.fn 222 (.of 222) [],.str (uD 2),.fn 223 (.of 223) [],.str zih,.fn 224 (.of 224) [],.str zpk,.fn 225 (.of 225) [],.str zpl,.fn 226 (.of 226) [],.str kBim,.fn 227 (.of 227) []]
theorem zpn {h0 h:T Blk} {nx p:Pa} {L:List Ob} {K:Kw Prop} (H:Hp h0 h nx L) (hK:∀ ka h' nx',Hp h0 h' nx' (.arr ka ktab::L)->K (.sl ka 0 8 (some 8) 2) h' nx'=.ok True):(CS Tryz.prog B).fn 141 p [] h nx K=.ok True:=by
 refine jA (p:=.of 141) (K:=K) (zM zP jh 9 fun _ => ?_) fun _ _ _ _ q=>q;rw [F141.go];have sb:∀ (s:List UInt8) (g:Nat) (p:Pa) (K:AV->OP),yV [(.str []),.bM] [(0,1,.str s),(1,1,.fn g p [])] K=K (.agg [.str s,.fn g p []]):=fun s g p K=>nr rfl;simp only [sb];exact H.yg (l:=ktab) rfl hK
def jK (r c:Int) (f:List Int):Int:=if r≠c\/r<0\/1000<r\/(f.length:Int)≠r*r then 2 else if r<1\/16<r then 3 else if f.any aQ then 3 else 0
theorem zwu {r:Int} (h0:0<=r) (h:r<=1000):0<=r*r/\r*r<=1000000:=⟨Int.mul_nonneg h0 h0,Int.le_trans (Int.mul_le_mul h h h0 (by omega)) (by omega)⟩
theorem mT {r c:Int} {f:List Int}:Pure Tryz.prog B 50 [.agg [I r,I c,encI f]] (· = I (jK r c f)):=by
 refine zS fun h nx K H0 hK=>zM zP jh 100 fun hf' => ?_;rw [F50.go,F50.rJ,F50.gq];refine H0.box (l:=[I r,I c,encI f]) rfl fun bx h1 nx1 H1 => ?_;have l0:∀ op:AV->OP,zC (.ptr bx 0) h1 op=op (I r):=fun op=>H1.load (k:=0) (i:=0) rfl rfl;have l00:∀ op:AV->OP,zC (.ptr bx (0+0)) h1 op=op (I r):=l0;have l1:∀ op:AV->OP,zC (.ptr bx (0+1)) h1 op=op (I c):=fun op=>H1.load (k:=0) (i:=0+1) rfl rfl;have l2:∀ op:AV->OP,zC (.ptr bx (0+2)) h1 op=op (encI f):=fun op=>H1.load (k:=0) (i:=0+2) rfl rfl;have end1:∀ x:Int,jK r c f=x->K (I x) h1 nx1=.ok True:=fun x hx=>hK _ _ _ _ _ H1 (zK rfl) (by rw [hx]);rw [F50.fG,F50.fZ,F50.jv,F50.aA,F50.aB];have two:∀ x4 x5 x6 x7 x8 x9 x10:AV,True:=fun _ _ _ _ _ _ _=>trivial;by_cases c1:r=c
 case neg =>
  have e:jK r c f=2:=by rw [jK,if_pos (.inl c1)]
  simp only [sFx,l0,l00,l1,fE,c1,decide_false,Zak,jM,j7,zV,zY,F50.rU,F50.bY,F50.r1_2,F50.tC,F50.r1_3,F50.tH];rw [F50.cu,zG,F50.vk,F50.uq,zF,zL,F50.ret];exact end1 2 e
 subst c1;by_cases c2:r<0
 ·have e:jK r r f=2:=by rw [jK,if_pos (.inr (.inl c2))]
  simp only [sFx,l0,l00,l1,fE,decide_true,Zah,jE,jM,j7,zV,zY,F50.rU,F50.bY,F50.r1_2,F50.tC,F50.r1_3,F50.tH,qo,c2];rw [F50.cu,zG,F50.vk,F50.uq,zF,zL,F50.ret];exact end1 2 e
 by_cases c3:r<=1000
 case neg =>
  have e:jK r r f=2:=by rw [jK,if_pos (.inr (.inr (.inl (by omega))))]
  simp only [sFx,l0,l00,l1,fE,decide_true,decide_false,Zah,jE,jM,jL,j7,zV,zY,F50.rU,F50.bY,F50.r1_2,F50.tC,F50.r1_3,F50.tH,qo,c2,oC,c3,bZ,show 1000<r by omega];rw [F50.cu,zG,F50.vk,F50.uq,zF,zL,F50.ret];exact end1 2 e
 have hsq:=zwu (r:=r) (by omega) c3;have mul:∀ K:AV->OP,zh .mul .int (I r) (I r) K=K (I (r*r)):=fun K=>au (by omega);by_cases c4:(f.length:Int)=r*r
 case neg =>
  have e:jK r r f=2:=by rw [jK,if_pos (.inr (.inr (.inr c4)))]
  simp only [sFx,l0,l00,l1,l2,fE,decide_true,decide_false,Zah,Zak,jE,jM,yX,j7,zV,zY,F50.rU,F50.bY,F50.r1_2,F50.tC,F50.r1_3,F50.tH,qo,c2,oC,c3,bZ,yF,mul,c4];rw [F50.cu,zG,F50.vk,F50.uq,zF,zL,F50.ret];exact end1 2 e
 have e0:jK r r f=if r<1\/16<r then 3 else if f.any aQ then 3 else 0:=by rw [jK,if_neg (by omega)]
 simp only [sFx,l0,l00,l1,l2,fE,decide_true,decide_false,Zah,Zak,jE,jM,yX,j7,zV,zY,F50.rU,F50.bY,F50.r1_2,F50.tC,F50.r1_3,F50.tH,qo,c2,oC,c3,bZ,yF,mul,c4,show ¬ 1000<r by omega];rw [F50.cu,zE,zD,F50.fD,F50.dh,F50.pq];by_cases c5:r<1
 ·simp only [sFx,l0,l00,qo,c5,decide_true,jM,j7,zV,zY];rw [F50.fC,zG,F50.dw,F50.vz,zF,zL,F50.ret];exact end1 3 (by rw [e0,if_pos (.inl c5)])
 by_cases c6:16<r
 ·simp only [sFx,l0,l00,qo,c5,decide_false,jE,bZ,c6,decide_true,zY];rw [F50.fC,zG,F50.dw,F50.vz,zF,zL,F50.ret];exact end1 3 (by rw [e0,if_pos (.inr c6)])
 simp only [sFx,l0,l00,qo,c5,decide_false,jE,bZ,c6,zY];rw [F50.fC,zE,zD,F50.bT,F50.xu];simp only [sFx];rw [l2];have hsm:r*r<=16*16:=Int.mul_le_mul (by omega) (by omega) (by omega) (by omega);refine zia (by omega) _ _ _ _ ?_;rintro _ rfl _;rw [zF,zL,F50.ret];exact end1 _ (by rw [e0,if_neg (by omega)])
theorem xD {r c:Int} {f:List Int} (hl:f.length<=300):Pure Tryz.prog B 140 [.agg [I r,I c,encI f]] (· = I (jK r c f)):=by
 refine zS fun h nx K H0 hK=>zM zP jh 100 fun hf' => ?_;rw [jc.go,jc.fC,jc.gq];refine H0.box (l:=[I r,I c,encI f]) rfl fun bx h1 nx1 H1 => ?_;have l0:∀ op:AV->OP,zC (.ptr bx 0) h1 op=op (I r):=fun op=>H1.load (k:=0) (i:=0) rfl rfl;have l00:∀ op:AV->OP,zC (.ptr bx (0+0)) h1 op=op (I r):=l0;have l1:∀ op:AV->OP,zC (.ptr bx (0+1)) h1 op=op (I c):=fun op=>H1.load (k:=0) (i:=0+1) rfl rfl;have l2:∀ op:AV->OP,zC (.ptr bx (0+2)) h1 op=op (encI f):=fun op=>H1.load (k:=0) (i:=0+2) rfl rfl;have end1:∀ x:Int,jK r c f=x->K (I x) h1 nx1=.ok True:=fun x hx=>hK _ _ _ _ _ H1 (zK rfl) (by rw [hx]);rw [jc.dw,jc.fZ,jc.jv,jc.aA,jc.aB];by_cases c1:r=c
 case neg =>
  have e:jK r c f=2:=by rw [jK,if_pos (.inl c1)]
  simp only [sFx,l0,l00,l1,fE,c1,decide_false,Zak,jM,j7,zV,zY,jc.rU,jc.bY,jc.r1_2,jc.tC,jc.r1_3,jc.tH];rw [jc.cu,zG,jc.vk,jc.uq,zF,zL,jc.ret];exact end1 2 e
 subst c1;by_cases c2:r<0
 ·have e:jK r r f=2:=by rw [jK,if_pos (.inr (.inl c2))]
  simp only [sFx,l0,l00,l1,fE,decide_true,Zah,jE,jM,j7,zV,zY,jc.rU,jc.bY,jc.r1_2,jc.tC,jc.r1_3,jc.tH,qo,c2];rw [jc.cu,zG,jc.vk,jc.uq,zF,zL,jc.ret];exact end1 2 e
 by_cases c3:1048576<r
 ·have e:jK r r f=2:=by rw [jK,if_pos (.inr (.inr (.inl (by omega))))]
  simp only [sFx,l0,l00,l1,fE,decide_true,decide_false,Zah,jE,jM,jL,j7,zV,zY,jc.rU,jc.bY,jc.r1_2,jc.tC,jc.r1_3,jc.tH,qo,c2,c3,bZ];rw [jc.cu,zG,jc.vk,jc.uq,zF,zL,jc.ret];exact end1 2 e
 have hsq:0<=r*r/\r*r<=1048576*1048576:=⟨Int.mul_nonneg (by omega) (by omega),Int.mul_le_mul (by omega) (by omega) (by omega) (by omega)⟩;have mul:∀ K:AV->OP,zh .mul .int (I r) (I r) K=K (I (r*r)):=fun K=>au (by omega);by_cases c4:(f.length:Int)=r*r
 case neg =>
  have e:jK r r f=2:=by rw [jK,if_pos (.inr (.inr (.inr c4)))]
  simp only [sFx,l0,l00,l1,l2,fE,decide_true,decide_false,Zah,Zak,jE,jM,yX,j7,zV,zY,jc.rU,jc.bY,jc.r1_2,jc.tC,jc.r1_3,jc.tH,qo,c2,c3,bZ,yF,mul,c4];rw [jc.cu,zG,jc.vk,jc.uq,zF,zL,jc.ret];exact end1 2 e
 have hr1:r<=1000:=by
  by_cases q:r<=1000
  ·exact q
  ·have:1001*1001<=r*r:=Int.mul_le_mul (by omega) (by omega) (by omega) (by omega);omega
 have e0:jK r r f=if r<1\/16<r then 3 else if f.any aQ then 3 else 0:=by rw [jK,if_neg (by omega)]
 simp only [sFx,l0,l00,l1,l2,fE,decide_true,decide_false,Zah,Zak,jE,jM,yX,j7,zV,zY,jc.rU,jc.bY,jc.r1_2,jc.tC,jc.r1_3,jc.tH,qo,c2,c3,bZ,yF,mul,c4];rw [jc.cu,zE,zD,jc.vz,jc.pq];simp only [sFx,l00,l2];refine H1.yg (l:=[I r]) rfl fun b h2 nx2 H2 => ?_;have m2:∀ op:AV->OP,zC (.ptr bx (0+2)) h2 op=op (encI f):=fun op=>H2.load (k:=1) (i:=0+2) rfl rfl;simp only [m2,zN];refine zwp (l:=[r]) rfl (by simp) H2 (k:=0) rfl ?_;simp only [m2,zN];refine zib (by omega) _ _ _ _ ?_;rintro _ rfl _;refine H2.yg (l:=[I (rngE 1 16 [r]),I (if f.any aQ=true then 3 else 0)]) rfl fun b h3 nx3 H3 => ?_;refine zkz (l:=[rngE 1 16 [r],if f.any aQ=true then 3 else 0]) H3 (k:=0) rfl (fun B=>zo4 (by simp)) (fun v hv=>by rw [hv];exact .int _ _) ?_;rintro _ rfl;rw [zF,zL,jc.ret];refine hK _ _ _ _ _ H3 (zK rfl) ?_;rw [e0,rng1];by_cases c5:r<1\/16<r
 ·simp [vD,c5]
 ·simp only [vD,c5,if_false,ne_eq,not_true_eq_false];by_cases c6:f.any aQ=true <;> simp [c6]
abbrev zjt (l:List (List UInt8)):AV:=.lst 1 l.length (l.map .str)
theorem zpo {n:Nat} {f:List Int} (hj:∀ B,JOk Tryz.prog B xY) (hs:∀ m,1<=m->m<=n->SqOk m) (hn:1<=n/\n<=8) (hf:ql n f):∀ i,i<8->∃ g nm,kfn[i]? = some g/\knm[i]? = some nm/\(ktab.drop (i*2)).take 2=[.str nm,.fn g (.of g) []]/\Pure Tryz.prog B g [.agg [I (n:Int),encI f]] (· = .bool ((prs n f).getD i false)):=by
 have hsn:=hs n hn.1 (Zag _);have hlen:f.length<=64:=by rw [hf.len];exact Zav hn.2 hn.2
 intro i hi
 match i,hi with
 | 0,_=>exact ⟨220,zpj,rfl,rfl,rfl,zwr hj (by omega)⟩
 | 1,_=>exact ⟨221,uD 0,rfl,rfl,rfl,k221 hsn hf⟩
 | 2,_=>exact ⟨222,uD 1,rfl,rfl,rfl,k222 hsn hf⟩
 | 3,_=>exact ⟨223,uD 2,rfl,rfl,rfl,k223 hsn hf⟩
 | 4,_=>exact ⟨224,zih,rfl,rfl,rfl,zwg hsn hf⟩
 | 5,_=>exact ⟨225,zpk,rfl,rfl,rfl,zro hsn hf⟩
 | 6,_=>exact ⟨226,zpl,rfl,rfl,rfl,zrr hs hn hf⟩
 | 7,_=>exact ⟨227,kBim,rfl,rfl,rfl,zwt hsn hf⟩
theorem zr5 {n:Nat} {f:List Int} {i:Nat} (hi:i<8) {nm:List UInt8} (h:knm[i]? = some nm):kf (knm.take (i+1)) ((prs n f).take (i+1))=kf (knm.take i) ((prs n f).take i)++if (prs n f).getD i false then [nm] else []:=by
 have hl:(prs n f).length=8:=rfl;have hb:(prs n f)[i]? = some ((prs n f).getD i false):=by rw [Zad,List.getElem?_eq_getElem (by omega)];rfl
 rw [Zax,Zax,h,hb,Option.toList_some,Option.toList_some,zjs];rw [Zaq,Zaq,hl];rfl
theorem zr6 {r:Int} {f:List Int} (hj:∀ B,JOk Tryz.prog B xY) (hs:∀ m:Nat,1<=m->(m:Int)<=r->SqOk m) (hr:r<=8) (hl:f.length<=300) (he:jK r r f=0):Pure Tryz.prog B 51 [.agg [I r,I r,encI f]] (· = .tup [zjt (kinR r.toNat f),I 0]):=by
  obtain ⟨hr1,hlen,hfar⟩:1<=r/\(f.length:Int)=r*r/\f.any aQ=false:=by
    unfold jK at he;by_cases c1:r≠r\/r<0\/1000<r\/(f.length:Int)≠r*r
    · rw [if_pos c1] at he;cases he
    · rw [if_neg c1] at he;by_cases c2:r<1\/16<r
      · rw [if_pos c2] at he;cases he
      · rw [if_neg c2] at he;cases c3:f.any aQ with
        | true=>rw [c3] at he;cases he
        | false=>exact ⟨by omega,by omega,rfl⟩
  obtain ⟨n,rfl⟩:∃ n:Nat,r=(n:Int):=⟨r.toNat,by omega⟩;rw [Int.toNat_natCast];have hf:ql n f:=by
    refine ⟨by have:((f.length:Nat):Int)=((n*n:Nat):Int):=by rw [hlen];simp
               omega,fun x hx => ?_⟩
    have:=List.any_eq_false.1 hfar x hx;simp only [aQ,Zcg,decide_eq_true_eq] at this;omega
  have hpos:0<f.length:=by rw [hf.len];exact Zav (show 1<=n by omega) (show 1<=n by omega)
  have hlen64:f.length<=64:=by rw [hf.len];exact Zav (show n<=8 by omega) (show n<=8 by omega)
  refine zS fun h nx K H0 hK=>zM zP jh 100 fun hf' => ?_;rw [F51.go];refine H0.box (l:=[I (n:Int),I (n:Int),encI f]) rfl fun bx h1 nx1 H1 => ?_;rw [H1.zi (k:=0) (n:=3) rfl rfl];refine xD hl _ _ _ _ ?_;rintro _ rfl _;rw [he];simp only [fE,decide_true,Zah,zE];refine zpn H1 fun ka h2 nx2 H2 => ?_;simp only [qP];refine F51.L2 (fun m x5 x10 h' nx'=>∃ (i:Nat) (o:Option Pa),x10=I i/\x5=cZ o 1 (kf (knm.take i) ((prs n f).take i)).length/\8-i=m/\i<=8/\Hp h h' nx' [.gro o 1 (kf (knm.take i) ((prs n f).take i)).length ((kf (knm.take i) ((prs n f).take i)).map .str),.arr ka ktab,.arr bx [I (n:Int),I (n:Int),encI f]]) (m:=8) (by omega) ⟨0,none,rfl,rfl,rfl,by omega,H2.zad 1⟩ ?_;rintro m z5 z6 z10 z11 z12 h3 nx3 R ⟨i,o,rfl,rfl,rfl,hi,H3⟩ hR;have e8:(I ((8:Nat):Int))=I 8:=rfl;simp only [qo];by_cases hlt:i<8
  case neg =>
    simp only [show ¬ (i:Int)<((8:Nat):Int) by omega,decide_false,zE];obtain rfl:i=8:=by omega
    rw [F51.k9];refine hK _ _ _ _ _ H3 (gD (H3.ah (k:=0) rfl (zt8 _)) (zK rfl)) rfl
  simp only [show (i:Int)<((8:Nat):Int) by omega,decide_true,zG];obtain ⟨g,nm,q1,q2,q3,q4⟩:=zpo (B:=B) hj (fun m h1 h2=>hs m h1 (by omega)) (by omega) hf i hlt;have hnext:=zr5 (n:=n) (f:=f) hlt q2;have hkl:=zii (knm.take i) ((prs n f).take i);rw [Zaq,show knm.length=8 from rfl] at hkl;rw [zc7 hlt,Zay,H3.zwq (k:=1) rfl (by show _<=16;omega) q3];refine H3.alloc fun rb h4 nx4 H4 => ?_;refine H4.qf (l2:=[.str nm,.fn g (.of g) []]) (k:=0) rfl rfl rfl fun h5 H5 => ?_;simp only [sFx];have l1:∀ op:AV->OP,zC (.ptr rb (0+1)) h5 op=op (.fn g (.of g) []):=fun op=>H5.load (k:=0) (i:=0+1) rfl rfl;have l2:∀ op:AV->OP,zC (.ptr bx (0+0)) h5 op=op (I (n:Int)):=fun op=>H5.load (k:=3) (i:=0) rfl rfl;have l3:∀ op:AV->OP,zC (.ptr bx (0+2)) h5 op=op (encI f):=fun op=>H5.load (k:=3) (i:=0+2) rfl rfl;simp only [l1,l2,l3];refine zpm f (by omega) hpos _ _ _ _ ?_;rintro _ rfl _;simp only [l1,l2,l3,zN];rw [show ∀ K:AV->OP,yV [(I 0),.zf] [(0,1,I (n:Int)),(1,1,encI f)] K=K (.agg [I (n:Int),encI f]) from fun K=>zgt rfl,gO];refine q4 _ _ _ _ ?_;rintro _ rfl _;cases c:(prs n f).getD i false with
  | false =>
    rw [zE,qc (by omega)];rw [c,if_neg (by simp),Zbd] at hnext;exact hR _ _ _ _ _ _ _ _ (by omega) ⟨i+1,o,rfl,by rw [hnext],rfl,by omega,by rw [hnext];exact H5.drop⟩
  | true =>
    rw [zG,H5.load (k:=0) (i:=0) rfl rfl];rw [c,if_pos rfl] at hnext;refine H5.yg (l:=[.str nm]) rfl fun tb h6 nx6 H6 => ?_;refine H6.appN (k:=2) (o:=o) (c:=1) (new:=[.str nm]) rfl (xk.rd (l:=[.str nm]) (n:=1) (H6.own _ (Zal ..)) rfl) rfl rfl (by decide) (by decide) (by omega) fun o' h7 nx7 _ H7 => ?_;rw [qc (by omega)];refine hR _ _ _ _ _ _ _ _ (by omega) ⟨i+1,o',rfl,by rw [hnext,Zaf];rfl,rfl,by omega,?_⟩;rw [hnext,Zaf,Zaj];exact H7.drop.drop
theorem getS {l:List (List UInt8)} {i:Nat} (h:i<l.length):(l.map AV.str)[i]? = some (.str l[i]):=by rw [List.getElem?_map,List.getElem?_eq_getElem h];rfl
theorem zju {a b:List (List UInt8)} (ha:a.length<=1000):Pure Tryz.prog B 53 [zjt a,zjt b] (· = .bool (decide (a=b))):=by
 intro p h nx K hK;refine zM zP jh 10000 fun hf => ?_;rw [F53.go];simp only [yF,fE];by_cases hl:a.length=b.length
 case neg =>
  simp only [show ¬ (a.length:Int)=(b.length:Int) by omega,decide_false,Zak,zG];exact hK _ (by rw [decide_eq_false (fun e=>hl (by rw [e]))]) hf
 simp only [show (a.length:Int)=(b.length:Int) by omega,decide_true,Zah,zE];refine F53.L2 (fun m x6 h' nx'=>∃ i:Nat,x6=I i/\a.length-i=m/\i<=a.length/\h'=h/\nx'=nx/\a.take i=b.take i) (m:=a.length) (by omega) ⟨0,rfl,rfl,by omega,rfl,rfl,by simp⟩ ?_;rintro m z2 z3 z6 z7 z8 h nx R ⟨i,rfl,rfl,hi,rfl,rfl,ht⟩ hR;simp only [qo];by_cases hlt:i<a.length
 case neg =>
  simp only [show ¬ (i:Int)<(b.length:Int) by omega,decide_false,zE];rw [F53.k9];rw [Zae (by omega),Zae (by omega)] at ht;exact hK _ (by rw [decide_eq_true ht]) hf
 have hb:i<b.length:=by omega
 simp only [show (i:Int)<(b.length:Int) by omega,decide_true,zG];rw [rq rfl hlt,ldL (getS hlt),rq rfl hb,ldL (getS hb),zy7];by_cases c:a[i]=b[i]
 ·simp only [c,decide_true,Zah,zE];rw [qc (by omega)];refine hR _ _ _ _ _ _ _ _ (by omega) ⟨i+1,rfl,rfl,by omega,rfl,rfl,?_⟩;rw [Zax,Zax,ht,List.getElem?_eq_getElem hlt,List.getElem?_eq_getElem hb,c]
 ·simp only [c,decide_false,Zak,zG];refine hK _ ?_ hf;rw [decide_eq_false];rintro rfl;exact c rfl
def ascR (f:List Int):Bool:=decide (∀ i,i<f.length->f.getD i 0+f.getD (f.length-1-i) 0=f.getD 0 0+f.getD (f.length-1-0) 0)
theorem zwv {f:List Int} (hl:f.length<=1000) (hb:∀ x∈f, -1000000000<=x/\x<=1000000000):Pure Tryz.prog B 146 [encI f] (· = .bool (ascR f)):=by
 refine zS fun h nx K H0 hK=>zM zP yL 2000 fun hf' => ?_;have gb:∀ i,i<f.length -> -1000000000<=f.getD i 0/\f.getD i 0<=1000000000:=fun i hi=>hb _ (Zaa (uA hi));have ep:ascR f=decide (∀ i,i<f.length->f.getD i 0+f.getD (f.length-1-i) 0=f.getD 0 0+f.getD (f.length-1-0) 0):=rfl
 generalize ascR f=res at *
 rw [gu.go,gu.t20,zA,gu.gq,zA,zA,gu.jv,zI];refine gu.zlp (fun m x2 h' nx'=>∃ i:Nat,x2=I (i:Int)/\m+i=f.length/\(∀ j,j<i->f.getD j 0+f.getD (f.length-1-j) 0=f.getD 0 0+f.getD (f.length-1-0) 0)/\h'=h/\nx'=nx) (m:=f.length) (by omega) ⟨0,rfl,rfl,fun j hj=>by omega,rfl,rfl⟩ ?_;rintro m z1 z2 z3 z4 h4 nx4 R ⟨i,rfl,hm,hall,rfl,rfl⟩ hR;rw [gu.t13,zA,zA,gu.uq,yF,qo,zB,gu.v3];by_cases ci:i<f.length
 case neg =>
  rw [decide_eq_false (by omega),zE,zZ,yG,zA,gu.rF];simp only [zF,zL];rw [gu.ret];exact hK _ _ _ _ _ H0 (zK rfl) (by rw [ep,decide_eq_true (fun j hj=>hall j (by omega))])
 have g0:=gb 0 (by omega);have gi:=gb i ci;have gl:=gb (f.length-1-0) (by omega);have gj:=gb (f.length-1-i) (by omega);rw [decide_eq_true (by omega),zG,zD,zA,zI,zA,gu.fZ,gu.r3_0,gu.zgz,rq rfl ci,ldL (sV (uA ci)),yF,fF (by omega),gu.r3_1,gu.zdl,fF (by omega),rq (i:=f.length-1-i) (by omega) (by omega),ldL (sV (uA (show f.length-1-i<f.length by omega))),qc (by omega),rq (j:=0) (i:=0) rfl (by omega),ldL (sV (uA (show 0<f.length by omega))),gu.r3_2,gu.zuf,yF,fF (by omega),rq (i:=f.length-1-0) (by omega) (by omega),ldL (sV (uA (show f.length-1-0<f.length by omega))),qc (by omega),fE,zB,gu.v4];by_cases e:f.getD i 0+f.getD (f.length-1-i) 0=f.getD 0 0+f.getD (f.length-1-0) 0
 ·rw [decide_eq_true e,Zah,zE,zD,gu.xu,qc (by omega)];refine hR (m-1) _ _ _ _ _ _ (by omega) ⟨i+1,by congr 1,by omega,fun j hj => ?_,rfl,rfl⟩;by_cases ej:j=i
  ·rw [ej];exact e
  ·exact hall j (by omega)
 ·rw [decide_eq_false e,Zak,zG,zA,gu.pq];simp only [zF,jJ,zL];rw [gu.ret];exact hK _ _ _ _ _ H0 (zK rfl) (by rw [ep,decide_eq_false fun q=>e (q i ci)])
def oI (n:Nat) (f:List Int) (r c:Nat):Int:=atN n f r c+atN n f r (c+1)+atN n f (r+1) c+atN n f (r+1) (c+1)
def oJ (n:Nat) (f:List Int) (r c:Nat):Int:=atN n f r c+atN n f (r+n / 2) (c+n / 2)
theorem qW {n d e:Nat} (hd:d<n) (he:e<n):d*n+e<n*n:=by
 have:(d+1)*n<=n*n:=Zas n hd;rw [Zaw,Nat.one_mul] at this;omega
theorem zcp {n d:Nat} (hn:n<=8) (hd:d<n) {K:AV->OP}:zh .mul .int (I (n:Int)) (I (d:Int)) K=K (I ((d*n:Nat):Int)):=by
 have h1:d*n<=8*8:=Zav (by omega) hn;have e:(n:Int)*(d:Int)=((d*n:Nat):Int):=by rw [Int.mul_comm];simp
 rw [au (by rw [e];omega),e]
theorem pO {a b:Nat} (h:a+b<=1000000) {K:AV->OP}:zh .add .int (I (a:Int)) (I (b:Int)) K=K (I ((a+b:Nat):Int)):=by
 rw [qc (by omega)];simp
theorem zjv {a:Nat} (h:a<=1000000) {K:AV->OP}:zh .add .int (I (a:Int)) (I 1) K=K (I ((a+1:Nat):Int)):=by
 rw [qc (by omega)];simp
theorem zjw {a n:Nat} (ha:a<=1000000) (hn:0<n) {K:AV->OP}:zh .rem .int (I (a:Int)) (I (n:Int)) K=K (I ((a%n:Nat):Int)):=wT (by omega) hn
theorem ixN {n d e:Nat} {f:List Int} (hf:ql n f) (hd:d<n) (he:e<n) {op:AV->OP}:zT 1 (encI f) (I ((d*n+e:Nat):Int)) op=op (.fp ((f.map I).drop ((d*n+e)*1))):=by
 have:=qW hd he;rw [rq (i:=d*n+e) rfl (by rw [hf.len];exact this)]
theorem ldN {n d e:Nat} {f:List Int} (hf:ql n f) (hd:d<n) (he:e<n) {h:T Blk} {op:AV->OP}:zC (.fp ((f.map I).drop ((d*n+e)*1))) h op=op (I (f.getD (d*n+e) 0)):=by
 have:=qW hd he;rw [ldL (sV (uA (by rw [hf.len];exact this)))]
theorem zpp {n r c:Nat} {f:List Int} (hr:r<n) (hc:c<n):atN n f r c=f.getD (r*n+c) 0:=by
 unfold atN;rw [Zau hr,Zau hc]
theorem zy8 {n r c:Nat} {f:List Int} (hc:c<n):atN n f r c=f.getD (r%n*n+c) 0:=by
 unfold atN;rw [Zau hc]
theorem zy9 {n r c:Nat} {f:List Int} (hr:r<n):atN n f r c=f.getD (r*n+c%n) 0:=by
 unfold atN;rw [Zau hr]
theorem zpq {n r c:Nat} {f:List Int} (hn:1<=n/\n<=8) (hf:ql n f) (hr:r<n) (hc:c<n):Pure Tryz.prog B 230 [xM n f,I (r:Int),I (c:Int)] (· = I (oI n f r c)):=by
 refine zS fun h nx K H0 hK=>zM zP yL 1000 fun hf' => ?_;have hd:(r+1)%n<n:=Zbb _ (by omega);have he:(c+1)%n<n:=Zbb _ (by omega);have m1:=qW hr hc;have m2:=qW hr he;have m3:=qW hd hc;have m4:=qW hd he;have nn:n*n<=8*8:=Zav hn.2 hn.2;have gl:=hf.len;have g1:=hf.get (i:=r*n+c) (by omega);have g2:=hf.get (i:=r*n+(c+1)%n) (by omega);have g3:=hf.get (i:=(r+1)%n*n+c) (by omega);have g4:=hf.get (i:=(r+1)%n*n+(c+1)%n) (by omega);rw [uz.go,uz.t7,zA,uz.gq];refine H0.box (l:=[I (n:Int),I (n:Int),encI f]) rfl fun bx h1 nx1 H1 => ?_;have l0:∀ op:AV->OP,zC (.ptr bx 0) h1 op=op (I (n:Int)):=fun op=>H1.load (k:=0) (i:=0) rfl rfl;have l00:∀ op:AV->OP,zC (.ptr bx (0+0)) h1 op=op (I (n:Int)):=fun op=>H1.load (k:=0) (i:=0+0) rfl rfl;have l2:∀ op:AV->OP,zC (.ptr bx (0+2)) h1 op=op (encI f):=fun op=>H1.load (k:=0) (i:=0+2) rfl rfl;rw [zA,uz.jv];simp only [sFx,l0,l00];rw [zA,uz.uq,zjv (by omega),zjw (by omega) (by omega),zjv (by omega),zjw (by omega) (by omega),zA,uz.vk,uz.oL,uz.oM];simp only [sFx,l2];rw [zcp hn.2 hr,pO (by omega),ixN hf hr hc,uz.r2_1,uz.zal,ldN hf hr hc,sFx,l2,zcp hn.2 hr,pO (by omega),uz.r2_2,uz.zg3,ixN hf hr he,ldN hf hr he,qc (by omega),sFx,l2,zcp hn.2 hd,uz.r2_3,uz.zg4,pO (by omega),ixN hf hd hc,ldN hf hd hc,qc (by omega),sFx,l2,uz.r2_4,uz.zug,zcp hn.2 hd,pO (by omega),ixN hf hd he,ldN hf hd he,qc (by omega)];simp only [zF,zL];rw [uz.ret];refine hK _ _ _ _ _ H1 (zK rfl) ?_;rw [oI,zpp hr hc,zy9 hr,zy8 hc];rfl
theorem zjx {n r c:Nat} {f:List Int} (hn:1<=n/\n<=8) (hf:ql n f) (hr:r<n) (hc:c<n):Pure Tryz.prog B 231 [xM n f,I (r:Int),I (c:Int)] (· = I (oJ n f r c)):=by
 refine zS fun h nx K H0 hK=>zM zP yL 1000 fun hf' => ?_;have hd:(r+n / 2)%n<n:=Zbb _ (by omega);have he:(c+n / 2)%n<n:=Zbb _ (by omega);have m1:=qW hr hc;have m4:=qW hd he;have nn:n*n<=8*8:=Zav hn.2 hn.2;have gl:=hf.len;have g1:=hf.get (i:=r*n+c) (by omega);have g4:=hf.get (i:=(r+n / 2)%n*n+(c+n / 2)%n) (by omega);rw [qm.go,qm.t5,zA,qm.gq];refine H0.box (l:=[I (n:Int),I (n:Int),encI f]) rfl fun bx h1 nx1 H1 => ?_;have l0:∀ op:AV->OP,zC (.ptr bx 0) h1 op=op (I (n:Int)):=fun op=>H1.load (k:=0) (i:=0) rfl rfl;have l00:∀ op:AV->OP,zC (.ptr bx (0+0)) h1 op=op (I (n:Int)):=fun op=>H1.load (k:=0) (i:=0+0) rfl rfl;have l2:∀ op:AV->OP,zC (.ptr bx (0+2)) h1 op=op (encI f):=fun op=>H1.load (k:=0) (i:=0+2) rfl rfl;rw [zA,qm.jv];simp only [sFx,l0,l00];rw [zA,qm.uq,qm.oL,qm.oM,sFx,l2,zcp hn.2 hr,pO (by omega),ixN hf hr hc,qm.r2_1,qm.zal,ldN hf hr hc,sFx,l2,quo2 (by omega),pO (by omega),qm.r2_2,qm.zg3,zjw (by omega) (by omega),zcp hn.2 hd,quo2 (by omega),pO (by omega),qm.r2_3,qm.zg4,zjw (by omega) (by omega),pO (by omega),ixN hf hd he,ldN hf hd he,qc (by omega)];simp only [zF,zL];rw [qm.ret];refine hK _ _ _ _ _ H1 (zK rfl) ?_;rw [oJ,zpp hr hc];rfl
def perR (n:Nat) (f:List Int):Bool := !decide (n%2=1)&&decide (∀ r,r<n->∀ c,c<n->oI n f r c=oI n f 0 0/\oJ n f r c=oJ n f 0 0)
theorem zww {n:Nat} {f:List Int} (hn:1<=n/\n<=8) (hf:ql n f):Pure Tryz.prog B 147 [xM n f] (· = .bool (perR n f)):=by
 refine zS fun h nx K H0 hK=>zM zP yL 1000 fun hf' => ?_;rw [jf.go,jf.t39,zA,jf.gq];refine H0.box (l:=[I (n:Int),I (n:Int),encI f]) rfl fun bx h1 nx1 H1 => ?_;have l0:∀ op:AV->OP,zC (.ptr bx 0) h1 op=op (I (n:Int)):=fun op=>H1.load (k:=0) (i:=0) rfl rfl;have l00:∀ op:AV->OP,zC (.ptr bx (0+0)) h1 op=op (I (n:Int)):=fun op=>H1.load (k:=0) (i:=0+0) rfl rfl;have l3:∀ op:AV->OP,zO 3 (.ptr bx 0) h1 op=op (xM n f):=fun op=>H1.zi (k:=0) (n:=3) rfl rfl;rw [zA,jf.jv];simp only [sFx,l0,l00];rw [zA,zA,jf.uq,rem2 (by omega),fA,zB,jf.v6];by_cases c2:n%2=1
 ·rw [decide_eq_true (by omega),zG,zA,jf.vk];simp only [zF,zL];rw [jf.ret];exact hK _ _ _ _ _ H1 (zK rfl) (by rw [perR,decide_eq_true c2];rfl)
 have ep:perR n f=decide (∀ r,r<n->∀ c,c<n->oI n f r c=oI n f 0 0/\oJ n f r c=oJ n f 0 0):=by rw [perR,decide_eq_false c2];rfl
 generalize perR n f=res at *
 rw [decide_eq_false (by omega),zE,zD,zA,zA,jf.vz,zI];refine jf.zew (fun m x4 h' nx'=>∃ r:Nat,x4=I (r:Int)/\m+r=n/\(∀ r',r'<r->∀ c,c<n->oI n f r' c=oI n f 0 0/\oJ n f r' c=oJ n f 0 0)/\h'=h1/\nx'=nx1) (m:=n) (by omega) ⟨0,rfl,rfl,fun j hj=>by omega,rfl,rfl⟩ ?_;rintro m z2 z4 z5 z7 z8 z9 h4 nx4 R ⟨r,rfl,hm,hall,rfl,rfl⟩ hR;rw [jf.t30,zA,zA,jf.dw,qo,zB,jf.v7];by_cases cr:r<n
 case neg =>
  rw [decide_eq_false (by omega),zE,zZ,yG,zA,jf.zex];simp only [zF,zL];rw [jf.ret];exact hK _ _ _ _ _ H1 (zK rfl) (by rw [ep,decide_eq_true (fun j hj=>hall j (by omega))])
 rw [decide_eq_true (by omega),zG,zD,zA,zI,zA,jf.xu,zI];refine jf.zxa (fun m x5 h' nx'=>∃ c:Nat,x5=I (c:Int)/\m+c=n/\(∀ c',c'<c->oI n f r c'=oI n f 0 0/\oJ n f r c'=oJ n f 0 0)/\h'=h4/\nx'=nx4) (m:=n) (by omega) ⟨0,rfl,rfl,fun j hj=>by omega,rfl,rfl⟩ ?_;rintro m2 y2 y5 y8 y9 h5 nx5 R2 ⟨c,rfl,hm2,zt9,rfl,rfl⟩ hR2;rw [jf.t23,zA,zA,jf.bT,qo,zB,jf.v8];by_cases cc:c<n
 ·rw [decide_eq_true (by omega),zG,zD,zA,zI,zA,jf.rJ,l3,l3];refine zpq hn hf cr cc _ _ _ _ ?_;rintro _ rfl _;rw [l3,zN];refine zpq (r:=0) (c:=0) hn hf (by omega) (by omega) _ _ _ _ ?_;rintro _ rfl _;rw [fE];have no:¬ (oI n f r c=oI n f 0 0/\oJ n f r c=oJ n f 0 0)->K (.bool false) h5 nx5=.ok True:=fun q=>hK _ _ _ _ _ H1 (zK rfl) (by rw [ep,decide_eq_false fun w=>q (w r cr c cc)]);by_cases e1:oI n f r c=oI n f 0 0
  ·rw [decide_eq_true e1,Zah];simp only [jE,show gOk (.bool false) false=true from rfl,cond_true,l3,pS];refine zjx hn hf cr cc _ _ _ _ ?_;rintro _ rfl _;simp only [l3,zN];refine zjx (r:=0) (c:=0) hn hf (by omega) (by omega) _ _ _ _ ?_;rintro _ rfl _;simp only [fE,zY];rw [zB,jf.v9];by_cases e2:oJ n f r c=oJ n f 0 0
   ·rw [decide_eq_true e2,Zah,zE,zD,jf.oK,qc (by omega)];refine hR2 (m2-1) _ _ _ _ _ _ (by omega) ⟨c+1,by congr 1,by omega,fun j hj => ?_,rfl,rfl⟩;by_cases ej:j=c
    ·rw [ej];exact ⟨e1,e2⟩
    ·exact zt9 j (by omega)
   ·rw [decide_eq_false e2,Zak,zG,zA,jf.sZ];simp only [zF,jJ,zL];rw [jf.ret];exact no fun q=>e2 q.2
  ·rw [decide_eq_false e1,Zak];simp only [jM,j7,show gOk (.bool true) false=false from rfl,cond_false,zo7,zV];rw [zB,jf.v9,zG,zA,jf.sZ];simp only [zF,jJ,zL];rw [jf.ret];exact no fun q=>e1 q.1
 ·rw [decide_eq_false (by omega),zE,zZ,yG,jf.zae,qc (by omega)];refine hR (m-1) _ _ _ _ _ _ _ _ (by omega) ⟨r+1,by congr 1,by omega,fun j hj => ?_,rfl,rfl⟩;by_cases ej:j=r
  ·rw [ej];exact fun c' hc'=>zt9 c' (by omega)
  ·exact hall j (by omega)
def tK (n:Nat) (f:List Int) (r c:Nat):List Int:=uO n f r++((f.drop ((r+1)*n+1)).take c)
theorem zlb {n:Nat} {f:List Int} {r c:Nat} (h:(r+1)*n+(c+1)<f.length):tK n f r (c+1)=tK n f r c++[f.getD ((r+1)*n+(c+1)) 0]:=by
 unfold tK;rw [Zax,List.getElem?_drop,show (r+1)*n+1+c=(r+1)*n+(c+1) by omega,uA h,Option.toList_some,Zar]
theorem zpr {n:Nat} {f:List Int} {r:Nat}:tK n f r (n-2)=tK n f (r+1) 0:=by
 unfold tK;rw [xX,List.take_zero,Zbd]
theorem zps {n:Nat} {f:List Int} (hf:f.length=n*n) {r c:Nat} (hn:n<=8) (hr:r<=n-2) (hc:c<=n):(tK n f r c).length<=1000:=by
 unfold tK;by_cases h2:2<=n
 ·rw [Zaf,xA hf h2 r hr,Zaq];have:r*(n-2)<=8*8:=Zav (by omega) (by omega);omega
 ·obtain rfl:r=0:=by omega
  rw [Zaf,Zaq,show uO n f 0=[] from rfl,List.length_nil];omega
theorem zpt {n:Nat} {f:List Int} (hn:3<=n/\n<=8) (hf:ql n f):Pure Tryz.prog B 232 [xM n f] (· = xM (n-2) (u7 n f)):=by
 refine zS fun h nx K H0 hK=>zM zP yL 1000 fun hf' => ?_;have nn:n*n<=8*8:=Zav hn.2 hn.2;have gl:=hf.len;rw [jo.go,jo.t31,zA,jo.gq];refine H0.box (l:=[I (n:Int),I (n:Int),encI f]) rfl fun bx h1 nx1 H1 => ?_;refine H1.alloc fun p h2 nx2 H2 => ?_;rw [zA,jo.jv,sFx,H2.load (k:=1) (i:=0) rfl rfl,fF (by omega),zA,jo.uq];rw [show ∀ K:AV->OP,yV [(I 0),(I 0),.zf] [(0,1,I ((n:Int)-2)),(1,1,I ((n:Int)-2))] K=K (.agg [I ((n:Int)-2),I ((n:Int)-2),.zf]) from fun K=>nr rfl];refine H2.alloc fun q h3 nx3 H3 => ?_;refine H3.qf (l2:=[I ((n:Int)-2),I ((n:Int)-2),.zf]) (k:=0) rfl rfl rfl fun h4 H4 => ?_;rw [zA,zA,jo.vk,zI];refine jo.zlm (fun m x5 h' nx'=>∃ (r:Nat) (o:Option Pa),x5=I ((r+1:Nat):Int)/\m+r=n-2/\Hp h h' nx' [.gro o 1 (tK n f r 0).length ((tK n f r 0).map I),.arr q [I ((n:Int)-2),I ((n:Int)-2),cZ o 1 (tK n f r 0).length],.arr p [I 0,I 0,.zf],.arr bx [I (n:Int),I (n:Int),encI f]]) (m:=n-2) (by omega) ⟨0,none,rfl,by omega,H4.zad 1⟩ ?_;rintro m z5 z6 z7 z8 h5 nx5 R ⟨r,o,rfl,hm,H5⟩ hR;rw [jo.t22,zA,zA,jo.cu,oC,zB,jo.v7];by_cases cr:r<n-2
 case neg =>
  obtain rfl:r=n-2:=by omega
  rw [decide_eq_false (by omega),zE,zZ,yG,zA,jo.zcu,H5.zi (k:=1) (n:=3) rfl rfl];refine H5.qf (l2:=[I ((n:Int)-2),I ((n:Int)-2),cZ o 1 (tK n f (n-2) 0).length]) (k:=2) rfl rfl rfl fun h6 H6 => ?_;simp only [zF,zL];rw [jo.ret,H6.zi (k:=2) (n:=3) rfl rfl];have e0:tK n f (n-2) 0=u7 n f:=by unfold tK u7;rw [List.take_zero,Zbd]
  have hF:af h h6 (cZ o 1 (tK n f (n-2) 0).length) (encI (tK n f (n-2) 0)):=H6.ah (k:=0) rfl zic;have e2:(n:Int)-2=((n-2:Nat):Int):=by omega
  rw [e2];refine hK _ _ _ _ (AV.agg [I ((n-2:Nat):Int),I ((n-2:Nat):Int),encI (tK n f (n-2) 0)]) H6 (Frz.agg _ _ rfl rfl fun j v v' h1 h2 => ?_) (by rw [e0])
  match j,h1,h2 with
  | 0,h1,h2=>cases h1;cases h2;exact zK rfl
  | 1,h1,h2=>cases h1;cases h2;exact zK rfl
  | 2,h1,h2=>cases h1;cases h2;exact hF
  | j+3,h1,h2=>simp at h1
 rw [decide_eq_true (by omega),zG,zD,zA,zI,zA,jo.vz,zI];refine jo.zaz (fun m x6 h' nx'=>∃ (c:Nat) (o:Option Pa),x6=I ((c+1:Nat):Int)/\m+c=n-2/\Hp h h' nx' [.gro o 1 (tK n f r c).length ((tK n f r c).map I),.arr q [I ((n:Int)-2),I ((n:Int)-2),cZ o 1 (tK n f r c).length],.arr p [I 0,I 0,.zf],.arr bx [I (n:Int),I (n:Int),encI f]]) (m:=n-2) (by omega) ⟨0,o,rfl,by omega,H5⟩ ?_;rintro m2 y6 y8 h6 nx6 R2 ⟨c,o,rfl,hm2,H6⟩ hR2;rw [jo.t15,zA,zA,jo.dw,oC,zB,jo.v8];by_cases cc:c<n-2
 ·have hlt:=qW (n:=n) (d:=r+1) (e:=c+1) (by omega) (by omega);have il:=zps hf.len (n:=n) (r:=r) (c:=c) hn.2 (by omega) (by omega);have es:=zlb (n:=n) (f:=f) (r:=r) (c:=c) (by omega);rw [decide_eq_true (by omega),zG,zD,zA,zI,jo.xu];have lq:∀ op:AV->OP,zC (.ptr q (0+2)) h6 op=op (cZ o 1 (tK n f r c).length):=fun op=>H6.load (k:=1) (i:=0+2) rfl rfl;have l2:∀ op:AV->OP,zC (.ptr bx (0+2)) h6 op=op (encI f):=fun op=>H6.load (k:=3) (i:=0+2) rfl rfl;have l0:∀ op:AV->OP,zC (.ptr bx 0) h6 op=op (I (n:Int)):=fun op=>H6.load (k:=3) (i:=0) rfl rfl;have l00:∀ op:AV->OP,zC (.ptr bx (0+0)) h6 op=op (I (n:Int)):=fun op=>H6.load (k:=3) (i:=0+0) rfl rfl;simp only [sFx,lq,l2,l0,l00];rw [zcp hn.2 (show r+1<n by omega),pO (by omega),ixN hf (show r+1<n by omega) (show c+1<n by omega),ldN hf (show r+1<n by omega) (show c+1<n by omega)];obtain ⟨z,hz⟩:∃ z,z=f.getD ((r+1)*n+(c+1)) 0:=⟨_,rfl⟩;rw [<- hz] at es ⊢;refine H6.yg (l:=[I z]) rfl fun tb h7 nx7 H7 => ?_;have lq':∀ op:AV->OP,zC (.ptr q (0+2)) h7 op=op (cZ o 1 (tK n f r c).length):=fun op=>H7.load (k:=2) (i:=0+2) rfl rfl;simp only [lq',zN];refine H7.appN (k:=1) (o:=o) (c:=1) (new:=[I z]) rfl (xk.rd (l:=[I z]) (n:=1) (H7.own _ (Zal ..)) rfl) rfl rfl (by decide) (by decide) (by omega) fun o' h8 nx8 _ H8 => ?_;refine H8.store (k:=2) rfl (by simp) (wV _ _ _) fun h9 H9 => ?_;rw [jo.fD,qc (by omega)];refine hR2 (m2-1) _ _ _ _ (by omega) ⟨c+1,o',by congr 1,by omega,?_⟩;rw [es,Zaf,Zaj];exact H9.drop
 ·obtain rfl:c=n-2:=by omega
  rw [decide_eq_false (by omega),zE,zZ,yG,jo.rY,qc (by omega)];rw [zpr] at H6;exact hR (m-1) _ _ _ _ _ _ (by omega) ⟨r+1,o,by congr 1,by omega,H6⟩
theorem zr7 {n:Nat} {f:List Int} (hn:1<=n/\n<=8) (hf:ql n f) (hm1:mg 1 n f=true):Pure Tryz.prog B 148 [xM n f] (· = .bool (bord n f)):=by
 refine zS fun h nx K H0 hK=>zM zP yL 100 fun hf' => ?_;rw [uw.go,uw.t24,zA,uw.gq];refine H0.box (l:=[I (n:Int),I (n:Int),encI f]) rfl fun bx h1 nx1 H1 => ?_;rw [zA,zA,uw.jv];simp only [sFx];rw [H1.load (k:=0) (i:=0) rfl rfl,qo,zB,uw.v3];by_cases c5:n<5
 ·rw [decide_eq_true (by omega),zG,zA,uw.uq];simp only [zF,zL];rw [uw.ret];exact hK _ _ _ _ _ H1 (zK rfl) (by rw [bord,decide_eq_false (by omega)];rfl)
 have eb:bord n f=brd n n f:=by rw [bord,decide_eq_true (by omega)];rfl
 rw [decide_eq_false (by omega),zE,zD,zA,zI];refine uw.zaf (fun k h' nx'=>∃ (m:Nat) (g:List Int),m<=n/\1<=m/\ql m g/\mg 1 m g=true/\brd n n f=brd k m g/\m<=k/\Hp h h' nx' [.arr bx [I (m:Int),I (m:Int),encI g]]) (m:=n) (by omega) ⟨n,f,Zag _,by omega,hf,hm1,rfl,Zag _,H1⟩ ?_;rintro k z2 z4 z5 h2 nx2 R ⟨m,g,hm,h1m,hg,hmg,hb,hk,H2⟩ hR;rw [uw.t17,zA,zA,uw.pq];simp only [sFx];rw [H2.load (k:=0) (i:=0) rfl rfl,eH,zB,uw.v4];obtain ⟨k,rfl⟩:∃ k',k=k'+1:=⟨k-1,by omega⟩;by_cases c3:5<=m
 case neg =>
  rw [decide_eq_false (by omega),zE,zZ,yG,zA,uw.rY];simp only [zF,zL];rw [uw.ret];refine hK _ _ _ _ _ H2 (zK rfl) ?_;rw [eb,hb,brd];by_cases c:m<3
  ·rw [if_pos c]
  ·rw [if_neg c,hmg,zdk (by omega)];rfl
 rw [decide_eq_true (by omega),zG,zD,zI,zA,uw.fC,H2.zi (k:=0) (n:=3) rfl rfl];refine zpt (by omega) hg _ _ _ _ ?_;rintro _ rfl _;refine H2.qf (l2:=[I ((m-2:Nat):Int),I ((m-2:Nat):Int),encI (u7 m g)]) (k:=0) rfl rfl rfl fun h3 H3 => ?_;rw [zA,uw.dh,H3.zi (k:=0) (n:=3) rfl rfl];have hgi:=hg.inner (show 2<=m by omega);refine u9 (k:=1) (by omega) (by omega) hgi _ _ _ _ ?_;rintro _ rfl _;rw [brd,if_neg (by omega),hmg,Bool.true_and] at hb;rw [j4,zB,uw.v5];cases c:mg 1 (m-2) (u7 m g) with
 | false =>
  rw [Zak,zG,zA,uw.xu];simp only [zF,jJ,zL];rw [uw.ret];refine hK _ _ _ _ _ H3 (zK rfl) ?_;obtain ⟨k,rfl⟩:∃ k',k=k'+1:=⟨k-1,by omega⟩;rw [eb,hb,brd,if_neg (by omega),c];rfl
 | true =>
  rw [Zah,zE,zD];exact hR k _ _ _ _ _ (by omega) ⟨m-2,u7 m g,by omega,by omega,hgi,c,hb,by omega,H3⟩
theorem mO {h0 h:T Blk} {nx:Pa} {o:Option Pa} {L:List (List UInt8)} {x:List UInt8} {b:Bool} {M:List Ob} {KK:AV->T Blk->Pa->OP} (H:Hp h0 h nx (.gro o 1 L.length (L.map .str)::M)) (hl:L.length<=1000)
  (hK:∀ o' h' nx' L',L'=L++(if b then [x] else [])->Hp h0 h' nx' (.gro o' 1 L'.length (L'.map .str)::M)->KK (cZ o' 1 L'.length) h' nx'=.ok True) :
  yH (.bool b) (yU 1 1 [(.str [])] [(0,1,.str x)] h nx fun v1 h2 n3=>rD 1 16 (cZ o 1 L.length) v1 h2 n3 fun v4 h5 n6=>KK v4 h5 n6) (KK (cZ o 1 L.length) h nx)=.ok True:=by
 cases b with
 | false=>rw [zE];exact hK o h nx L (by simp) H
 | true =>
  rw [zG];refine H.yg (l:=[.str x]) rfl fun tb h6 nx6 H6 => ?_;refine H6.appN (k:=1) (o:=o) (c:=1) (new:=[.str x]) rfl (xk.rd (l:=[.str x]) (n:=1) (H6.own _ (Zal ..)) rfl) rfl rfl (by decide) (by decide) (by omega) fun o' h7 nx7 _ H7 => ?_;have e:(L++[x]).length=L.length+1:=by rw [Zaf];rfl
  have:=hK o' h7 nx7 (L++[x]) (by simp) (by rw [e,Zaj];exact H7.drop)
  rwa [e] at this
theorem g19 {h:T Blk} {nx:Pa} {x1:AV} {m v:Bool} {KK:AV->T Blk->Pa->OP} {g:Nat} (hf:m=false->v=false)
  (ht:m=true->∀ KK':AV->T Blk->Pa->OP,KK' (.bool v) h nx=.ok True->(zH 2 x1 fun v1=>zC v1 h fun v2=>(CS Tryz.prog B).fn g (.of g) [v2] h nx fun v3 h4 n5=>KK' v3 h4 n5)=.ok True)
  (hK:KK (.bool v) h nx=.ok True) :
  (sG (.bool m) true (fun k=>zH 2 x1 k) fun v1=>sG (.bool m) true (fun k=>zC v1 h k) fun v2=>sGW (.bool m) true (fun k=>(CS Tryz.prog B).fn g (.of g) [v2] h nx k) h nx fun v3 h4 n5=>yE (.bool m) v3 (.bool false) fun v6=>KK v6 h4 n5)=.ok True:=by
 cases m with
 | false=>simp only [jL,kG,zY];rw [hf rfl] at hK;exact hK
 | true=>simp only [yX,gB,zV];exact ht rfl (fun v3 h4 n5=>KK v3 h4 n5) hK
theorem g27 {h:T Blk} {nx:Pa} {x1:AV} {m v:Bool} {KK:AV->T Blk->Pa->OP} {g:Nat} (hf:m=false->v=false)
  (ht:m=true->∀ KK':AV->T Blk->Pa->OP,KK' (.bool v) h nx=.ok True->(zO 3 x1 h fun v1=>(CS Tryz.prog B).fn g (.of g) [v1] h nx fun v3 h4 n5=>KK' v3 h4 n5)=.ok True)
  (hK:KK (.bool v) h nx=.ok True) :
  (sG (.bool m) true (fun k=>zO 3 x1 h k) fun v1=>sGW (.bool m) true (fun k=>(CS Tryz.prog B).fn g (.of g) [v1] h nx k) h nx fun v2 h3 n4=>yE (.bool m) v2 (.bool false) fun v5=>KK v5 h3 n4)=.ok True:=by
 cases m with
 | false=>simp only [jL,kG,zY];rw [hf rfl] at hK;exact hK
 | true=>simp only [yX,gB,zV];exact ht rfl (fun v3 h4 n5=>KK v3 h4 n5) hK
theorem zpu {n:Nat} {f:List Int}:asc n f=(mg 1 n f&&ascR f):=rfl
theorem zpv {n:Nat} {f:List Int} (hn:1<=n) (hf:ql n f):mper n f=(mg 2 n f&&perR n f):=by
 have e:(decide (∀ i,i<f.length->blkN n f i=blkN n f 0)&&decide (∀ i,i<f.length->halN n f i=halN n f 0))=decide (∀ r,r<n->∀ c,c<n->oI n f r c=oI n f 0 0/\oJ n f r c=oJ n f 0 0):=by
  rw [<- Bool.decide_and];refine decide_eq_decide.2 ⟨fun ⟨h1,h2⟩ r hr c hc => ?_,fun h=>⟨fun i hi => ?_,fun i hi => ?_⟩⟩
  ·have hlt:=qW hr hc;have b1:=h1 (r*n+c) (by rw [hf.len];exact hlt);have b2:=h2 (r*n+c) (by rw [hf.len];exact hlt);unfold blkN at b1;unfold halN at b2;have ed:(r*n+c) / n=r:=by rw [Zbx,Nat.mul_add_div (by omega),Nat.div_eq_of_lt hc,Zcb]
   have em:(r*n+c)%n=c:=by rw [Zbx,Nat.mul_add_mod,Zau hc]
   rw [ed,em,Nat.zero_div,Nat.zero_mod] at b1 b2;exact ⟨b1,b2⟩
  ·have hd:i / n<n:=Nat.div_lt_of_lt_mul (by rw [<- hf.len];exact hi);have:=(h (i / n) hd (i%n) (Zbb _ (by omega))).1;unfold blkN;rw [Nat.zero_div,Nat.zero_mod];exact this
  ·have hd:i / n<n:=Nat.div_lt_of_lt_mul (by rw [<- hf.len];exact hi);have:=(h (i / n) hd (i%n) (Zbb _ (by omega))).2;unfold halN;rw [Nat.zero_div,Nat.zero_mod];exact this
 unfold mper perR;rw [e];cases (!decide (n%2=1)) <;> cases mg 2 n f <;> rfl
theorem zr8 {n:Nat} {f:List Int} (hm:mg 1 n f=false):bord n f=false:=by
 unfold bord;by_cases c:5<=n
 ·obtain ⟨k,rfl⟩:∃ k,n=k+1:=⟨n-1,by omega⟩;rw [brd,if_neg (by omega),hm];simp
 ·rw [decide_eq_false c];rfl
theorem kf8 (a0 a1 a2 a3 a4 a5 a6 a7:Bool) (x0 x1 x2 x3 x4 x5 x6 x7:List UInt8):kf [x0,x1,x2,x3,x4,x5,x6,x7] [a0,a1,a2,a3,a4,a5,a6,a7]=[]++(if a0 then [x0] else [])++(if a1 then [x1] else [])++(if a2 then [x2] else [])++(if a3 then [x3] else [])++(if a4 then [x4] else [])++(if a5 then [x5] else [])++(if a6 then [x6] else [])++(if a7 then [x7] else []):=by
 have k1:∀ (l:List (List UInt8)) (bs:List Bool) (x:List UInt8) (b:Bool),kf (x::l) (b::bs)=(if b then [x] else [])++kf l bs:=fun l bs x b=>by cases b <;> rfl
 rw [k1,k1,k1,k1,k1,k1,k1,k1,show kf [] []=[] from rfl];simp only [Zar,Zbg,Zbd]
theorem ifl {b:Bool} {x:List UInt8}:(if b then [x] else []).length<=1:=by cases b <;> simp
theorem zcq {n:Nat} {f:List Int} (hn:1<=n/\n<=8) (hf:ql n f):Pure Tryz.prog B 62 [xM n f] (· = zjt (kinR n f)):=by
 refine zS fun h nx K H0 hK=>zM zP yL 1000 fun hf' => ?_;have hl:=hf.le hn.2;rw [F62.go,F62.t47,zA,F62.gq];refine H0.box (l:=[I (n:Int),I (n:Int),encI f]) rfl fun bx h1 nx1 H1 => ?_;rw [zA,F62.jv,zA,F62.uq,H1.zi (k:=0) (n:=3) rfl rfl];refine u9 (k:=1) (by omega) hn hf _ _ _ _ ?_;rintro _ rfl _;rw [zA,zA,F62.vk,sFx,H1.load (k:=0) (i:=0+2) rfl rfl];refine zgs (by omega) _ _ _ _ ?_;rintro _ rfl _;have H1:=H1.zad 1;rw [zB,F62.v5,F62.cu,zD];refine mO (L:=[]) H1 (by simp) fun o2 h2 nx2 L2 e2 H2 => ?_;rw [zA,zA,F62.vz,H2.zi (k:=1) (n:=3) rfl rfl];refine u9 (k:=0) (by omega) hn hf _ _ _ _ ?_;rintro _ rfl _;have n2:L2.length<=1:=by rw [e2,Zbg];exact ifl
 rw [zB,F62.v6,F62.dw,zD];refine mO H2 (by omega) fun o3 h3 nx3 L3 e3 H3 => ?_;have n3:L3.length<=2:=by rw [e3,Zaf];exact Nat.add_le_add n2 ifl
 rw [zA,zA,F62.xu,zB,F62.v7,F62.bT,zD];refine mO H3 (by omega) fun o4 h4 nx4 L4 e4 H4 => ?_;have n4:L4.length<=3:=by rw [e4,Zaf];exact Nat.add_le_add n3 ifl
 rw [zA,zA,F62.rJ,H4.zi (k:=1) (n:=3) rfl rfl];refine u9 (k:=2) (by omega) hn hf _ _ _ _ ?_;rintro _ rfl _;rw [zB,F62.v8,F62.sZ,zD];refine mO H4 (by omega) fun o5 h5 nx5 L5 e5 H5 => ?_;have n5:L5.length<=4:=by rw [e5,Zaf];exact Nat.add_le_add n4 ifl
 rw [zA,zA,F62.sK];refine g19 (m:=mg 1 n f) (v:=asc n f) (fun q=>by rw [zpu,q];rfl) (fun q KK' hq => ?_) ?_
 ·rw [sFx,H5.load (k:=1) (i:=0+2) rfl rfl];refine zwv (by omega) hf.bd _ _ _ _ ?_;rintro _ rfl _;rw [zpu,q,Bool.true_and] at hq;exact hq
 rw [zB,F62.v9,F62.rY,zD];refine mO H5 (by omega) fun o6 h6 nx6 L6 e6 H6 => ?_;have n6:L6.length<=5:=by rw [e6,Zaf];exact Nat.add_le_add n5 ifl
 rw [zA,zA,F62.zav,H6.zi (k:=1) (n:=3) rfl rfl];refine u9 (k:=2) (by omega) hn hf _ _ _ _ ?_;rintro _ rfl _;refine g27 (m:=mg 2 n f) (v:=mper n f) (fun q=>by rw [zpv hn.1 hf,q];rfl) (fun q KK' hq => ?_) ?_
 ·rw [H6.zi (k:=1) (n:=3) rfl rfl];refine zww hn hf _ _ _ _ ?_;rintro _ rfl _;rw [zpv hn.1 hf,q,Bool.true_and] at hq;exact hq
 rw [zB,F62.v10,F62.aj,zD];refine mO H6 (by omega) fun o7 h7 nx7 L7 e7 H7 => ?_;have n7:L7.length<=6:=by rw [e7,Zaf];exact Nat.add_le_add n6 ifl
 rw [zA,zA,F62.zcv];refine g27 (m:=mg 1 n f) (v:=bord n f) zr8 (fun q KK' hq => ?_) ?_
 ·rw [H7.zi (k:=1) (n:=3) rfl rfl];refine zr7 hn hf q _ _ _ _ ?_;rintro _ rfl _;exact hq
 rw [zB,F62.v11,F62.zae,zD];refine mO H7 (by omega) fun o8 h8 nx8 L8 e8 H8 => ?_;have n8:L8.length<=7:=by rw [e8,Zaf];exact Nat.add_le_add n7 ifl
 have fin:∀ {h9:T Blk} {nx9:Pa} {L9:List (List UInt8)} {o9:Option Pa},L9=L8++(if bim n f then [kBim] else [])->Hp h h9 nx9 [.gro o9 1 L9.length (L9.map .str),.arr bx [I (n:Int),I (n:Int),encI f]]->K (cZ o9 1 L9.length) h9 nx9=.ok True:=by
  intro h9 nx9 L9 o9 e9 H9;refine hK _ _ _ _ _ H9 (H9.ah (k:=0) rfl (zt8 _)) ?_;have:L9=kinR n f:=by
   unfold kinR knm prs;rw [kf8,e9,e8,e7,e6,e5,e4,e3,e2];rfl
  rw [this]
 rw [zA,zA,F62.zlk];cases hm:mg 1 n f with
 | false =>
  have eb:bim n f=false:=by rw [bim,hm];rfl
  simp only [show gOk (.bool false) true=false from rfl,cond_false,jL,j7,kG,zY];rw [zB,F62.v12,zE,zD,zA,F62.za0];simp only [zF,zL];rw [F62.ret];exact fin (by rw [eb];simp) H8
 | true =>
  have l0:∀ op:AV->OP,zC (.ptr bx (0+0)) h8 op=op (I (n:Int)):=fun op=>H8.load (k:=1) (i:=0+0) rfl rfl;have l2:∀ op:AV->OP,zC (.ptr bx (0+2)) h8 op=op (encI f):=fun op=>H8.load (k:=1) (i:=0+2) rfl rfl;simp only [show gOk (.bool true) true=true from rfl,cond_true,yX,gB,zV,sFx,l0,l2];refine pW (p:=2) (by omega) (by omega) hf.bd _ _ _ _ ?_;rintro _ rfl _;simp only [l0,zN];refine zco (k:=1) (by omega) hn (hf.fit (by omega)) _ _ _ _ ?_;rintro _ rfl _;have eb:bim n f=mgz 1 n (pwF 2 f):=by rw [bim,hm];rfl
  rw [zB,F62.v12,F62.zxb,zD,<- eb];refine mO H8 (by omega) fun o9 h9 nx9 L9 e9 H9 => ?_;rw [zA,F62.za0];simp only [zF,zL];rw [F62.ret];exact fin e9 H9
theorem zgx {r c:Int} {f:List Int} (hl:f.length<=300) (he:jK r c f≠0):Pure Tryz.prog B 51 [.agg [I r,I c,encI f]] (· = .tup [.zf,I (jK r c f)]):=by
 refine zS fun h nx K H0 hK=>zM zP jh 100 fun hf' => ?_;rw [F51.go];refine H0.box (l:=[I r,I c,encI f]) rfl fun bx h1 nx1 H1 => ?_;rw [H1.zi (k:=0) (n:=3) rfl rfl];refine xD hl _ _ _ _ ?_;rintro _ rfl _;simp only [fE,he,decide_false,Zak,zG];exact hK _ _ _ _ _ H1 (gD (zK rfl) (zK rfl)) rfl
theorem zgy {r c:Int} {f:List Int} (hl:f.length<=300) (he:jK r c f≠0):Pure Tryz.prog B 61 [.agg [I r,I c,encI f]] (· = .tup [I 0,I (jK r c f)]):=by
 refine zS fun h nx K H0 hK=>zM zP yL 100 fun hf' => ?_;rw [F61.go,F61.t30,zA,F61.gq];refine H0.box (l:=[I r,I c,encI f]) rfl fun bx h1 nx1 H1 => ?_;rw [zA,zA,F61.jv,H1.zi (k:=0) (n:=3) rfl rfl];refine xD hl _ _ _ _ ?_;rintro _ rfl _;rw [zA,F61.uq,fE,decide_eq_false he,Zak,zB,F61.v7,zG,zA,F61.vk];simp only [zF,zL];rw [F61.ret];exact hK _ _ _ _ _ H1 (gD (zK rfl) (zK rfl)) rfl
def cntP (q:Nat->Bool):Nat->Nat->Nat
 | 0,p=>p
 | k+1,p=>if q (p+1) then cntP q k (p+1) else p
theorem zr9 {n:Nat} {f:List Int} (hn:1<=n/\n<=8) (hf:ql n f) (he:jK n n f=0):Pure Tryz.prog B 61 [xM n f] (· = if mg 1 n f then .tup [I (cntP (fun p=>aI p n f) 3 1:Nat),I 0] else .tup [I 0,I 16]):=by
 refine zS fun h nx K H0 hK=>zM zP yL 100 fun hf' => ?_;have hl:=hf.le hn.2;rw [F61.go,F61.t30,zA,F61.gq];refine H0.box (l:=[I (n:Int),I (n:Int),encI f]) rfl fun bx h1 nx1 H1 => ?_;rw [zA,zA,F61.jv,H1.zi (k:=0) (n:=3) rfl rfl];refine xD (by omega) _ _ _ _ ?_;rintro _ rfl _;rw [he,zA,F61.uq,fE,decide_eq_true rfl,Zah,zB,F61.v7,zE,zD,zA,F61.dw];have l00:∀ op:AV->OP,zC (.ptr bx (0+0)) h1 op=op (I (n:Int)):=fun op=>H1.load (k:=0) (i:=0+0) rfl rfl;have l0:∀ op:AV->OP,zC (.ptr bx 0) h1 op=op (I (n:Int)):=fun op=>H1.load (k:=0) (i:=0) rfl rfl;have l2:∀ op:AV->OP,zC (.ptr bx (0+2)) h1 op=op (encI f):=fun op=>H1.load (k:=0) (i:=0+2) rfl rfl;simp only [sFx,l0,l00,l2];rw [show ∀ K:AV->OP,yV [(I 0),.zf] [(0,1,I (n:Int)),(1,1,encI f)] K=K (.agg [I (n:Int),encI f]) from fun K=>zgt rfl];refine H1.alloc fun qb h2 nx2 H2 => ?_;refine H2.qf (l2:=[I (n:Int),encI f]) (k:=0) rfl rfl rfl fun h3 H3 => ?_;rw [zA,zA,F61.fC,H3.zi (k:=0) (n:=2) rfl rfl];refine mK (k:=1) (zie hn.1 hn.2) (by omega) hf _ _ _ _ ?_;rintro _ rfl _;rw [j4,zB,F61.v8];cases hm:mg 1 n f with
 | false =>
  rw [Zak,zG,zA,F61.dh];simp only [zF,zL];rw [F61.ret];exact hK _ _ _ _ _ H3 (gD (zK rfl) (zK rfl)) (by rw [hm];rfl)
 | true =>
  rw [Zah,zE,zD,zA,F61.fG,zA,zI];refine F61.zlj (fun m x6 h' nx'=>∃ p:Nat,x6=I (p:Int)/\m+p=4/\cntP (fun p=>aI p n f) 3 1=cntP (fun p=>aI p n f) m p/\h'=h3/\nx'=nx2) (m:=3) (by omega) ⟨1,rfl,rfl,rfl,rfl,rfl⟩ ?_;rintro m z6 z9 h4 nx4 R ⟨p,rfl,hmp,hc,rfl,rfl⟩ hR;rw [F61.t20,zA,zA,F61.rJ,F61.ou,F61.aW,qo];have done:m=0\/aI (p+1) n f=false->K (.tup [I (p:Int),I 0]) h4 nx4=.ok True:=fun hq=>by
   refine hK _ _ _ _ _ H3 (gD (zK rfl) (zK rfl)) ?_;rw [hm,if_pos rfl,hc];rcases hq with rfl | hq
   ·rfl
   ·cases m with
    | zero=>rfl
    | succ m=>rw [cntP,if_neg (by rw [hq];decide)]
  by_cases c:p<4
  ·rw [decide_eq_true (by omega)];simp only [yX,gB];rw [H3.zi (k:=0) (n:=2) rfl rfl,zjv (by omega)];refine zjq (zie hn.1 hn.2) hf (by omega) _ _ _ _ ?_;rintro _ rfl _;rw [F61.r8_1,F61.tX,zV,zB,F61.v9];obtain ⟨m,rfl⟩:∃ m',m=m'+1:=⟨m-1,by omega⟩;cases hq:aI (p+1) n f with
   | true =>
    rw [zG,zD,zI,F61.aT,qc (by omega)];exact hR m _ _ _ _ (by omega) ⟨p+1,by congr 1,by omega,by rw [hc,cntP,if_pos hq],rfl,rfl⟩
   | false =>
    rw [zE,zZ,yG,zA,F61.zav];simp only [zF,zL];rw [F61.ret];exact done (.inr hq)
  ·rw [decide_eq_false (by omega)];simp only [jL,j7,kG];rw [F61.r8_1,F61.tX,zY,zB,F61.v9,zE,zZ,yG,zA,F61.zav];simp only [zF,zL];rw [F61.ret];exact done (.inl (by omega))
theorem zsa {n:Nat} {f:List Int} (hn:1<=n/\n<=8) (hf:ql n f):Pure Tryz.prog B 64 [xM n f] (· = I (cntP (fun p=>aI p n f) 4 0:Nat)):=by
 refine zS fun h nx K H0 hK=>zM zP yL 100 fun hf' => ?_;have hl:=hf.le hn.2;rw [F64.go,F64.t14,zA,F64.gq];refine H0.box (l:=[I (n:Int),I (n:Int),encI f]) rfl fun bx h1 nx1 H1 => ?_;rw [zA,F64.jv,zA,zI];refine F64.t8_L (fun m x3 h' nx'=>∃ p:Nat,x3=I (p:Int)/\m+p=4/\cntP (fun p=>aI p n f) 4 0=cntP (fun p=>aI p n f) m p/\h'=h1/\nx'=nx1) (m:=4) (by omega) ⟨0,rfl,rfl,rfl,rfl,rfl⟩ ?_;rintro m z3 z4 h4 nx4 R ⟨p,rfl,hmp,hc,rfl,rfl⟩ hR;have l00:∀ op:AV->OP,zC (.ptr bx (0+0)) h4 op=op (I (n:Int)):=fun op=>H1.load (k:=0) (i:=0+0) rfl rfl;have l2:∀ op:AV->OP,zC (.ptr bx (0+2)) h4 op=op (encI f):=fun op=>H1.load (k:=0) (i:=0+2) rfl rfl;have done:m=0\/aI (p+1) n f=false->K (I (p:Int)) h4 nx4=.ok True:=fun hq=>by
  refine hK _ _ _ _ _ H1 (zK rfl) ?_;rw [hc];rcases hq with rfl | hq
  ·rfl
  ·cases m with
   | zero=>rfl
   | succ m=>rw [cntP,if_neg (by rw [hq];decide)]
 rw [F64.t7,zA,zA,F64.uq,qo];by_cases c:p<4
 ·rw [decide_eq_true (by omega)];have ad:∀ K:AV->OP,zh .add .int (I (p:Int)) (I 1) K=K (I ((p+1:Nat):Int)):=fun K=>zjv (by omega);simp only [show gOk (.bool true) true=true from rfl,cond_true,yX,gB,zV,sFx,l00,l2,ad];refine pW (p:=p+1) (by omega) (by omega) hf.bd _ _ _ _ ?_;rintro _ rfl _;simp only [l00,zN];refine zco (k:=1) (by omega) hn (hf.fit (by omega)) _ _ _ _ ?_;rintro _ rfl _;rw [show mgz 1 n (pwF (p+1) f)=aI (p+1) n f from rfl,zB,F64.v4];obtain ⟨m,rfl⟩:∃ m',m=m'+1:=⟨m-1,by omega⟩;cases hq:aI (p+1) n f with
  | true =>
   rw [zG,zD,zI,F64.fZ,qc (by omega)];exact hR m _ _ _ _ (by omega) ⟨p+1,by congr 1,by omega,by rw [hc,cntP,if_pos hq],rfl,rfl⟩
  | false =>
   rw [zE,zZ,yG,zA,F64.dh];simp only [zF,zL];rw [F64.ret];exact done (.inr hq)
 ·rw [decide_eq_false (by omega)];simp only [show gOk (.bool false) true=false from rfl,cond_false,jL,j7,kG,zY];rw [zB,F64.v4,zE,zZ,yG,zA,F64.dh];simp only [zF,zL];rw [F64.ret];exact done (.inl (by omega))
theorem law13 {r c:Int} {f:List Int} (hj:∀ B,JOk Tryz.prog B xY) (haw:∀ {B},Pure Tryz.prog B 17 [] (· = .bool true)):Pure Tryz.prog B 13 [.agg [I r,I c,encI f]] (· = .bool true):=by
  refine zS fun h nx K H0 hK=>zM zP yL 1000 fun hf => ?_;have awk:∀ (h:T Blk) (nx:Pa) (Z:Kw Prop),Z (.bool true) h nx=.ok True->(CS Tryz.prog B).fn 17 (.of 17) [] h nx Z=.ok True:=fun h nx Z hZ=>haw _ _ _ _ fun v hv _=>by rw [hv];exact hZ
  have ret:∀ {h1 nx1 L},Hp h h1 nx1 L->K (.bool true) h1 nx1=.ok True:=fun H=>hK _ _ _ _ _ H (zK rfl) rfl;rw [F13.go,F13.t33,zA,F13.gq];refine H0.box (l:=[I r,I c,encI f]) rfl fun bx h1 nx1 H1 => ?_;have l00:∀ op:AV->OP,zC (.ptr bx (0+0)) h1 op=op (I r):=fun op=>H1.load (k:=0) (i:=0+0) rfl rfl;have l0:∀ op:AV->OP,zC (.ptr bx 0) h1 op=op (I r):=fun op=>H1.load (k:=0) (i:=0) rfl rfl;have l2:∀ op:AV->OP,zC (.ptr bx (0+2)) h1 op=op (encI f):=fun op=>H1.load (k:=0) (i:=0+2) rfl rfl;have l3:∀ op:AV->OP,zO 3 (.ptr bx 0) h1 op=op (.agg [I r,I c,encI f]):=fun op=>H1.zi (k:=0) (n:=3) rfl rfl;rw [zA,zA,F13.jv,F13.aA,F13.aB,sFx,l2,yF,bZ];by_cases c1:300<f.length
  · rw [decide_eq_true (by omega)];simp only [jM,j7,zV,F13.rU,F13.bY];rw [zB,F13.v8,zG,zA,F13.uq];refine awk _ _ _ ?_;simp only [zF,zL];rw [F13.ret];exact ret H1
  rw [decide_eq_false (by omega)];by_cases c2:8<r/\r<=16
  · simp only [jE,sFx,l0,l00,bZ,decide_eq_true c2.1,F13.rU,F13.bY,yX,oC,decide_eq_true c2.2,zV,zY];rw [zB,F13.v8,zG,zA,F13.uq];refine awk _ _ _ ?_;simp only [zF,zL];rw [F13.ret];exact ret H1
  by_cases c3:8<r
  · have c4:¬ r<=16:=fun q=>c2 ⟨c3,q⟩;simp only [jE,sFx,l0,l00,bZ,decide_eq_true c3,F13.rU,F13.bY,yX,oC,decide_eq_false c4,zV,zY];have he:jK r c f≠0:=by
      unfold jK;by_cases q:r≠c\/r<0\/1000<r\/(f.length:Int)≠r*r
      · rw [if_pos q];decide
      · rw [if_neg q,if_pos (by omega)];decide
    rw [zB,F13.v8,zE,zD];rw [zA,F13.pq,l3];refine zgx (by omega) he _ _ _ _ ?_;rintro _ rfl _;rw [jC,jB,zA,F13.vz,l3];refine zgy (by omega) he _ _ _ _ ?_;rintro _ rfl _;rw [jC,jB,zA,F13.dw,l3];refine mT _ _ _ _ ?_;rintro _ rfl _;rw [zA,zA,F13.fC,fE,decide_eq_false he,Zak,zB,F13.v9,zG,zA,F13.dh,F13.r7_0,F13.zam,gY,fA,decide_eq_true rfl];simp only [yX,fA,decide_true,zV,F13.r7_1,F13.zan,F13.r7_2,F13.zao,gB];refine awk _ _ _ ?_;simp only [F13.r7_3,F13.zlr,zV,zF,zL];rw [F13.ret];exact ret H1
  · simp only [jE,sFx,l0,l00,bZ,decide_eq_false c3,F13.rU,F13.bY,jL,j7,zY];rw [zB,F13.v8,zE,zD];by_cases he:jK r c f=0
    case neg =>
      rw [zA,F13.pq,l3];refine zgx (by omega) he _ _ _ _ ?_;rintro _ rfl _;rw [jC,jB,zA,F13.vz,l3];refine zgy (by omega) he _ _ _ _ ?_;rintro _ rfl _;rw [jC,jB,zA,F13.dw,l3];refine mT _ _ _ _ ?_;rintro _ rfl _;rw [zA,zA,F13.fC,fE,decide_eq_false he,Zak,zB,F13.v9,zG,zA,F13.dh,F13.r7_0,F13.zam,gY,fA,decide_eq_true rfl];simp only [yX,fA,decide_true,zV,F13.r7_1,F13.zan,F13.r7_2,F13.zao,gB];refine awk _ _ _ ?_;simp only [F13.r7_3,F13.zlr,zV,zF,zL];rw [F13.ret];exact ret H1
    obtain ⟨rfl,hr1,hlen,hfar⟩:r=c/\1<=r/\(f.length:Int)=r*r/\f.any aQ=false:=by
      have he:=he;unfold jK at he;by_cases q1:r≠c\/r<0\/1000<r\/(f.length:Int)≠r*r
      · rw [if_pos q1] at he;cases he
      · rw [if_neg q1] at he;by_cases q2:r<1\/16<r
        · rw [if_pos q2] at he;cases he
        · rw [if_neg q2] at he;cases q3:f.any aQ with
          | true=>rw [q3] at he;cases he
          | false=>exact ⟨by omega,by omega,by omega,rfl⟩
    obtain ⟨n,rfl⟩:∃ n:Nat,r=(n:Int):=⟨r.toNat,by omega⟩;have hn:1<=n/\n<=8:=by omega
    have hfo:ql n f:=by
      refine ⟨by have:((f.length:Nat):Int)=((n*n:Nat):Int):=by rw [hlen];simp
                 omega,fun x hx => ?_⟩
      have:=List.any_eq_false.1 hfar x hx;simp only [aQ,Zcg,decide_eq_true_eq] at this;omega
    have hkl:=zii knm (prs n f);rw [zA,F13.pq,l3];refine zr6 hj (fun m h1 h2=>zie h1 (by omega)) (by omega) (by omega) he _ _ _ _ ?_;rintro _ rfl _;rw [jC,jB,zA,F13.vz,l3,Int.toNat_natCast];refine zr9 hn hfo he _ _ _ _ ?_;rintro _ rfl _;have l3:∀ op:AV->OP,zO 3 (.ptr bx 0) h1 op=op (xM n f):=l3;cases hm:mg 1 n f with
    | false =>
      rw [if_neg (by decide),jC,jB,zA,F13.dw,l3];refine mT _ _ _ _ ?_;rintro _ rfl _;rw [he,zA,zA,F13.fC,fE,decide_eq_true rfl,Zah,zB,F13.v9,zE,zD,zA,zA,F13.fG,F13.ou,F13.aW,fE,decide_eq_true rfl,Zah];simp only [jE,l3,pS];refine zcq hn hfo _ _ _ _ ?_;rintro _ rfl _;rw [F13.r8_1,F13.tX,pS];refine zju (by unfold kinR;exact Zbk hkl (by decide)) _ _ _ _ ?_;rintro _ rfl _;rw [F13.r8_2,F13.zdm,jE,decide_eq_true rfl,j4,zY,Zah,zB,F13.v10,zE,zD,zA,zA,F13.sK,l3];refine u9 (k:=1) (by omega) hn hfo _ _ _ _ ?_;rintro _ rfl _;rw [hm,j4,Zak,zB,F13.v11,zG,zA,F13.rY,fA,decide_eq_true rfl];simp only [yX,fA,decide_true,zV,gB];refine awk _ _ _ ?_;simp only [zV,zF,zL];rw [F13.ret];exact ret H1
    | true =>
      rw [if_pos rfl,jC,jB,zA,F13.dw,l3];refine mT _ _ _ _ ?_;rintro _ rfl _;rw [he,zA,zA,F13.fC,fE,decide_eq_true rfl,Zah,zB,F13.v9,zE,zD,zA,zA,F13.fG,F13.ou,F13.aW,fE,decide_eq_true rfl,Zah];simp only [jE,l3,pS];refine zcq hn hfo _ _ _ _ ?_;rintro _ rfl _;rw [F13.r8_1,F13.tX,pS];refine zju (by unfold kinR;exact Zbk hkl (by decide)) _ _ _ _ ?_;rintro _ rfl _;rw [F13.r8_2,F13.zdm,jE,decide_eq_true rfl,j4,zY,Zah,zB,F13.v10,zE,zD,zA,zA,F13.sK,l3];refine u9 (k:=1) (by omega) hn hfo _ _ _ _ ?_;rintro _ rfl _;rw [hm,j4,Zah,zB,F13.v11,zE,zD,zA,F13.aj,F13.zls,F13.zpw,fA,decide_eq_true rfl];simp only [yX,l3,gB];refine zsa hn hfo _ _ _ _ ?_;rintro _ rfl _;have e1:aI 1 n f=true:=by
        have:mgz 1 n (pwF 1 f)=aI 1 n f:=rfl;rw [<- this,zev,zpi,hm]
      have e4:cntP (fun p=>aI p n f) 4 0=cntP (fun p=>aI p n f) 3 1:=by
        rw [cntP,if_pos e1]
      rw [e4,F13.ztd,F13.zpx];simp only [yX,fA,decide_true,zV,gB];refine awk _ _ _ ?_;simp only [F13.ztc,F13.zpy,zV,zF,zL];rw [F13.ret];exact ret H1
end Go.Ev
