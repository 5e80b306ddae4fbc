import Derived.Test.YtfgpjkchdelphaaGreatDoorWordsb
import Derived.Test.YtfgpjkchdelphaaGreatDoorCodeb
import Derived.Test.YtfgpjkchdelphaaGreatDoorWordsa
import Derived.Test.YtfgpjkchdelphaaGreatDoorCodea
import Derived.Test.YtfgpjkchdelphaaGreatDoorEvD
import Derived.IntWalk
set_option linter.unusedSimpArgs false
set_option linter.unusedVariables false
namespace Go.Ev
open Go Go.Proofs
variable {B:Nat}
set_option maxRecDepth 100000
def aC (b:List Rat) (l:List Int) (j:Nat):Rat:=(l.take j).foldl (λs c=>s+at' b c.toNat) 0
theorem xM {b:List Rat} {l:List Int} {j:Nat} (h:j<l.length):aC b l (j+1)=aC b l j+at' b l[j].toNat:=by
 unfold aC;rw [Zar,List.getElem?_eq_getElem h,Zcq,Zgl];rfl
theorem zlg {b:List Rat} {n:Nat} {l:List Int} (hb:b.length=n) (hl:AscL n l):∀ j,j<=l.length->aC b l j=dot (tV n (l.take j)) b
 | 0,_=>by
  have:dot (tV n []) b=0:=mR _ _ (pH n);rw [Zdj,this];rfl
 | j+1,hj=>by
  have hx:l[j]? = some l[j]:=List.getElem?_eq_getElem (by omega);rw [xM (by omega),zlg hb hl j (by omega),Zar,hx,Zcq];refine (ze9 hb (hl.2.2 _ (Zas (by omega))) (λhm => ?_) λx hx=>(hl.2.2 _ (Zcl hx)).1).symm;obtain ⟨i,hi,he⟩:=Zez hm;rw [Zan] at hi;rw [List.getElem_take] at he;have:=List.pairwise_iff_getElem.1 hl.2.1 i j (by omega) (by omega) (by omega);omega
theorem zds {n d:Int} {k:Nat} (hd:0<d) (hn:Z9 k n) (hdk:Z9 k d):Q9 k (Rat.divInt n d):=by
 obtain ⟨d1,d2⟩:=kT (n:=n) (d:=d) hd;refine ⟨?_,?_⟩
 .unfold Z9;rw [d1,Zdh (Zed ..)];exact Zdr (Zbz _ _) hn
 .unfold Z9;rw [d2,Zdh (Zen ..)];exact Zdr (Zbz _ _) hdk
theorem Q9.mono {k m:Nat} {q:Rat} (h:Q9 k q) (hkm:k<=m):Q9 m q:=⟨h.1.mono hkm,h.2.mono hkm⟩
theorem Q9.add {a b:Nat} {p q:Rat} (hp:Q9 a p) (hq:Q9 b q):Q9 (a+b+1) (p+q):=by
 rw [<- cE];have h2:0<(p.den:Int)*(q.den:Int):=Int.mul_pos (Int.natCast_pos.2 p.den_pos) (Int.natCast_pos.2 q.den_pos);have z1:=hp.1.mul hq.2;have z2:=hq.1.mul hp.2;rw [Zcz b a] at z2;exact zds h2 (z1.add z2) ((hp.2.mul hq.2).mono (by omega))
theorem Q9.mul {a b:Nat} {p q:Rat} (hp:Q9 a p) (hq:Q9 b q):Q9 (a+b) (p*q):=by
 rw [<- cD];have h2:0<(p.den:Int)*(q.den:Int):=Int.mul_pos (Int.natCast_pos.2 p.den_pos) (Int.natCast_pos.2 q.den_pos);exact zds h2 (hp.1.mul hq.1) (hp.2.mul hq.2)
theorem Q9.zero:Q9 1 0:=⟨by show (0:Int).natAbs<_;decide,by show ((1:Nat):Int).natAbs<_;decide⟩
theorem zff:T9 0=.str [48]:=by rw [T9,zdk.2 rfl]
abbrev eR (f:List Rat):AV:=.lst 1 f.length (f.map T9)
theorem wY {f:List Rat} {i:Nat} (h:i<f.length):(f.map T9)[i]? = some (T9 (at' f i)):=by rw [List.getElem?_map,kN h];rfl
theorem zjv {f:List Rat} {l:List Int} {m:Nat} (hf:∀ j,Q9 m (at' f j)):∀ j,j<=l.length->Q9 (j*(m+1)+1) (aC f l j)
 | 0,_=>by rw [Nat.zero_mul];exact Q9.zero
 | j+1,hj=>by
  rw [xM (by omega)];refine ((zjv hf j (by omega)).add (hf _)).mono ?_;rw [Zav];omega
theorem zlh {h0 h:T Blk} {nx p:Pa} {L:List Ob} {n:Nat} {K:Kw Prop} (H:Hp h0 h nx L) (hn:n<=1000) (hK:∀ o h' nx',Hp h0 h' nx' (.gro o 1 n ((List.replicate n (0:Rat)).map T9)::L)->K (xg o 1 n) h' nx'=.ok True):(CS Tryz.prog B).fn 36 p [I (n:Int)] h nx K=.ok True:=by
 refine zN zQ yD 2000 λhf => ?_;rw [F36.go,F36.t18,zA,F36.zy,zA,F36.zx,zA,zA,F36.je,zK];refine F36.zfx (λm x2 x3 h' nx'=>∃ (i:Nat) (o:Option Pa),x2=xg o 1 i/\x3=I (i:Int)/\m+i=n/\Hp h0 h' nx' (.gro o 1 i ((List.replicate i (0:Rat)).map T9)::L)) (m:=n) (by omega) ⟨0,none,rfl,rfl,rfl,H.oK 1⟩ ?_;rintro m z2 z3 z4 h3 nx3 R ⟨i,o,rfl,rfl,hm,H3⟩ hR;rw [F36.t10,zA,zA,F36.pq,ji,zB,F36.v4];by_cases ci:i<n
 .rw [Zab (by omega),zD,zG,zA,zK,F36.qi];refine H3.zdg (v:=.str [48]) (by omega) (by decide) rfl rfl λo' h7 nx7 H7 => ?_;rw [F36.fH,jc (by omega)];refine hR (m-1) _ _ _ _ _ (by omega) ⟨i+1,o',rfl,by congr 1,by omega,?_⟩;rw [List.replicate_succ',Zbb,List.map_singleton,zff];exact H7
 .obtain rfl:i=n:=by omega
  rw [Zaa (by omega),zC,zZ,yE,zA,F36.sD];simp only [zI,zO];rw [F36.ret];exact hK o _ _ H3
theorem zvj {n:Nat} {lines:List (List Int)} {l:List Int} {f:List Rat} {m:Nat} (hl0:lines[0]? = some l) (hl:l.length<=100) (hf:f.length=n) (hr:∀ c∈l,0<=c/\c<(n:Int)) (hQ:∀ j,Q9 m (at' f j)) (hm:l.length*(m+1)+1<=10000):Pure Tryz.prog B 44 [.agg [I (n:Int),wu lines],eR f] (· = T9 (aC f l l.length)):=by
 refine zX λh nx K H0 hK=>zN zQ yD 200 λhf' => ?_;have hlm:(lines.map Go.Ev.encI)[0]? = some (Go.Ev.encI l):=by rw [List.getElem?_map,hl0];rfl
 have hln:0<lines.length:=(List.getElem?_eq_some_iff.1 hl0).1;rw [F44.go,F44.t18,zA,F44.zy];refine H0.box (l:=[I (n:Int),wu lines]) rfl λbx h1 nx1 H1 => ?_;rw [zA,F44.zx,zA,zA,F44.je,zK];refine F44.zfx (λk x4 x5 h' nx'=>∃ i:Nat,x4=T9 (aC f l i)/\x5=I (i:Int)/\k+i=l.length/\h'=h1/\nx'=nx1) (m:=l.length) (by omega) ⟨0,zff.symm,rfl,rfl,rfl,rfl⟩ ?_;rintro k z4 z5 z6 h3 nx3 R ⟨i,rfl,rfl,hk,rfl,rfl⟩ hR;rw [F44.t10,zA,zA,F44.pq,sFx,H1.load (k:=0) (i:=0+1) rfl rfl,fE (j:=0) (i:=0) rfl hln,ldL hlm,yA,ji,zB,F44.v6];by_cases c:i<l.length
 .have hx:=List.getElem?_eq_getElem c;have hb:=hr _ (Zas c)
  have q1:Q9 10000 (aC f l i):=(zjv hQ i (by omega)).mono (by
   have:=Zao (m+1) (show i<=l.length by omega);omega)
  have q2:Q9 10000 (at' f l[i].toNat):=(hQ _).mono (by
   have:=Zao (m+1) (show 1<=l.length by omega);omega)
  rw [Zab (by omega),zD,zG,zA,zK,F44.qi,F44.aZ,F44.eu,sFx,H1.load (k:=0) (i:=0+1) rfl rfl,fE (j:=0) (i:=0) rfl hln,ldL hlm,fE (i:=i) rfl c,F44.oU,F44.aj,ldL (tO hx),fE (i:=l[i].toNat) (by omega) (by omega),ldL (wY (by omega))];refine ze1 (k:=10000) (Zag _) q1 q2 _ _ _ _ ?_;rintro _ rfl _;rw [F44.r4_2,F44.oN,F44.fH,jc (by omega)];exact hR (k-1) _ _ _ _ _ (by omega) ⟨i+1,by rw [xM c],by congr 1,by omega,rfl,rfl⟩
 .obtain rfl:i=l.length:=by omega
  rw [Zaa (by omega),zC,zZ,yE,zA,F44.sD];simp only [zI,zO];rw [F44.ret];exact hK _ _ _ _ _ H1 (zT rfl) rfl
def zli (c:UInt8):Nat:=c.toNat-48
theorem zmw {x:Nat} (h:x<10):zli (dch x)=x:=by unfold zli;rw [ze0 h];omega
theorem zhy (n w:Nat):bv 10 ((uw n w).map zli).reverse=n:=by
 have e:((uw n w).map zli).reverse=sw n w:=by
  unfold uw;rw [List.map_map,<- List.map_reverse,Zfw]
  conv=>rhs;rw [<- List.map_id (sw n w)]
  exact Zex λx hx=>zmw (wO n w x hx)
 rw [e,mE]
theorem zhz {n m w:Nat} (h:uw n w=uw m w):n=m:=by rw [<- zhy n w,h,zhy]
theorem zh0 {a b:Int} (h:cZ a=cZ b):a=b:=by
 have key:∀ {a b:Int},a<0->¬ b<0->cZ a≠cZ b:=λ{a b} h1 h2 e=>by
  unfold cZ at e;rw [if_pos h1,if_neg h2,Zbq] at e;have hm:(45:UInt8)∈uw b.natAbs 1:=by rw [<- e];simp
  exact (xL hm).2 rfl
 by_cases h1:a<0
 .by_cases h2:b<0
  .unfold cZ at h;rw [if_pos h1,if_pos h2] at h;have:=zhz (List.append_cancel_left h);omega
  .exact absurd h (key h1 h2)
 .by_cases h2:b<0
  .exact absurd h.symm (key h2 h1)
  .unfold cZ at h;rw [if_neg h1,if_neg h2,Zbq,Zbq] at h;have:=zhz h;omega
theorem qdh {a b c d:List UInt8} (ha:∀ x∈a,x≠47) (hb:∀ x∈b,x≠47) (hc:c=[]\/∃ l,c=47::l) (hd:d=[]\/∃ l,d=47::l) (h:a++c=b++d):a=b/\c=d:=by
 have tw:∀ {a c:List UInt8},(∀ x∈a,x≠47)->(c=[]\/∃ l,c=47::l)->(a++c).takeWhile (· != 47)=a:=λ{a c} ha hc=>by
  rw [List.takeWhile_append_of_pos λx hx=>by simpa using ha x hx];rcases hc with rfl | ⟨l,rfl⟩ <;> simp
 have e:=congrArg (List.takeWhile (· != 47)) h;rw [tw ha hc,tw hb hd] at e;subst e;exact ⟨rfl,List.append_cancel_left h⟩
theorem zh1 {p q:Rat} (h:uz p=uz q):p=q:=by
 unfold uz at h;have sh:∀ q:Rat,(if q.den=1 then [] else 47::cZ (q.den:Int))=[]\/∃ l,(if q.den=1 then [] else 47::cZ (q.den:Int))=47::l:=λq=>by
  split
  .exact .inl rfl
  .exact .inr ⟨_,rfl⟩
 obtain ⟨h1,h2⟩:=qdh (λx hx=>dR hx) (λx hx=>dR hx) (sh p) (sh q) h;refine Rat.ext (zh0 h1) ?_;split at h2 <;> split at h2
 .omega
 .cases h2
 .cases h2
 .have:=zh0 (List.cons.inj h2).2;omega
theorem zzx {a b:List UInt8} {K:AV->OP}:za .neq .str (.str a) (.str b) K=K (.bool (!decide (a=b))):=by
 have e:za .neq .str (.str a) (.str b) K=K (.bool (!gM a b)):=nr rfl;rw [e];by_cases c:a=b
 .rw [Zab c,fq.2 c]
 .rw [Zaa c];cases q:gM a b with
  | true=>exact absurd (fq.1 q) c
  | false=>rfl
theorem neT9 {p q:Rat} {K:AV->OP}:za .neq .str (T9 p) (T9 q) K=K (.bool (!decide (p=q))):=by
 rw [T9,T9,zzx]
 congr 3
 exact decide_eq_decide.2 ⟨zh1,λe=>by rw [e]⟩
def CstQ (f:List Rat) (lines:List (List Int)):Prop:=∀ l∈lines,aC f l l.length=aC f (lines.getD 0 []) (lines.getD 0 []).length
instance (f:List Rat) (lines:List (List Int)):Decidable (CstQ f lines):=by unfold CstQ;infer_instance
theorem zh2 {n:Nat} {lines:List (List Int)} {f:List Rat} {m:Nat} (hf:f.length=n) (hll:∀ l∈lines,l.length<=16) (hls:lines.length<=100) (hr:∀ l∈lines,∀ c∈l,0<=c/\c<(n:Int)) (hQ:∀ j,Q9 m (at' f j)) (hm:16*(m+1)+1<=10000):Pure Tryz.prog B 38 [.agg [I (n:Int),wu lines],eR f] (· = .bool (decide (CstQ f lines))):=by
 refine zX λh nx K H0 hK=>zN zQ yD 200 λhf' => ?_;rw [F38.go,F38.t39,zA,F38.zy];refine H0.box (l:=[I (n:Int),wu lines]) rfl λbx h1 nx1 H1 => ?_;rw [zA,zA,F38.zx,sFx,H1.load (k:=0) (i:=0+1) rfl rfl,yA,zK];refine F38.qay (λk x8 h' nx'=>∃ i:Nat,x8=I (i:Int)/\k+i=lines.length/\(∀ l∈lines.take i,aC f l l.length=aC f (lines.getD 0 []) (lines.getD 0 []).length)/\h'=h1/\nx'=nx1) (m:=lines.length) (by omega) ⟨0,rfl,rfl,by simp,rfl,rfl⟩ ?_;rintro k z3 z4 z5 z6 z8 z9 z10 z11 z12 z13 z14 h3 nx3 R ⟨i,rfl,hk,hall,rfl,rfl⟩ hR;rw [F38.t32,zA,F38.je,ji,zA,zB,F38.v9];by_cases ci:i<lines.length
 .have hx:=List.getElem?_eq_getElem ci;have hmem:=Zas ci;obtain ⟨l,hl⟩:∃ l,l=lines[i]:=⟨_,rfl⟩;rw [<- hl] at hx hmem;have hlm:(lines.map Go.Ev.encI)[i]? = some (Go.Ev.encI l):=by rw [List.getElem?_map,hx];rfl
  have hln:=hll l hmem;rw [Zab (by omega),zD,zG,zA,zK,zA,F38.fJ,zA,F38.fG,zA,zA,F38.qi,sFx,H1.load (k:=0) (i:=0+1) rfl rfl,fE (i:=i) rfl ci,ldL hlm,yA,zK];refine F38.qax (λk x5 x12 h' nx'=>∃ j:Nat,x5=T9 (aC f l j)/\x12=I (j:Int)/\k+j=l.length/\h'=h3/\nx'=nx3) (m:=l.length) (by omega) ⟨0,zff.symm,rfl,rfl,rfl,rfl⟩ ?_;rintro k2 y5 y6 y12 y13 h5 nx5 R2 ⟨j,rfl,rfl,hk2,rfl,rfl⟩ hR2;rw [F38.t16,zA,F38.fC,ji,zA,zB,F38.v13];by_cases c:j<l.length
  .have hy:=List.getElem?_eq_getElem c;have hb:=hr _ hmem _ (Zas c)
   have q1:Q9 10000 (aC f l j):=(zjv hQ j (by omega)).mono (by
    have:=Zao (m+1) (show j<=16 by omega);omega)
   have q2:Q9 10000 (at' f l[j].toNat):=(hQ _).mono (by omega);rw [Zab (by omega),zD,zG,zA,zK,zA,F38.fK,fE (i:=j) rfl c,ldL (tO hy),F38.fT,fE (i:=l[j].toNat) (by omega) (by omega),ldL (wY (by omega))];refine ze1 (k:=10000) (Zag _) q1 q2 _ _ _ _ ?_;rintro _ rfl _;rw [F38.fU,jc (by omega)];exact hR2 (k2-1) _ _ _ _ _ _ (by omega) ⟨j+1,by rw [xM c],by congr 1,by omega,rfl,rfl⟩
  .obtain rfl:j=l.length:=by omega
   have h0m:lines.getD 0 []∈lines:=jQ (by omega);have h0l:=hll _ h0m;rw [Zaa (by omega),zC,zZ,yE,zA,F38.ah,H1.zw (k:=0) (n:=2) rfl rfl]
   refine zvj (kM (by omega)) (by omega) hf (hr _ h0m) hQ (by
    have:=Zao (m+1) h0l;omega) _ _ _ _ ?_
   rintro _ rfl _;rw [neT9,zB,F38.v14];by_cases e:aC f l l.length=aC f (lines.getD 0 []) (lines.getD 0 []).length
   .rw [Zab e,Zak,zC,zG,F38.zn1,jc (by omega)];refine hR (k-1) _ _ _ _ _ _ _ _ _ _ _ _ _ (by omega) ⟨i+1,by congr 1,by omega,λx hxm => ?_,rfl,rfl⟩;rw [Zar,hx,Zcq] at hxm;rcases List.mem_append.1 hxm with q | q
    .exact hall x q
    .rw [List.mem_singleton.1 q];exact e
   .rw [Zaa e,Zam,zD,zA,F38.zm3];simp only [zI,xA,zO];rw [F38.ret];exact hK _ _ _ _ _ H1 (zT rfl) (by rw [Zaa λq=>e (q l hmem)])
 .rw [Zaa (by omega),zC,zZ,yE,zA,F38.zfu];simp only [zI,zO];rw [F38.ret];rw [Zaf (by omega)] at hall;exact hK _ _ _ _ _ H1 (zT rfl) (by rw [Zab (show CstQ f lines from hall)])
theorem qdi {f:List Rat} (hl:f.length<=1000) (hs:∀ x∈f,Sml x):Pure Tryz.prog B 37 [eR f] (· = I 0):=by
 refine zX λh nx K H0 hK=>zN zQ yD 2000 λhf' => ?_;rw [F37.go,F37.t22,zA,F37.zy,zA,zA,F37.zx,zK];refine F37.aL (λk x2 h' nx'=>∃ i:Nat,x2=I (i:Int)/\k+i=f.length/\h'=h/\nx'=nx) (m:=f.length) (by omega) ⟨0,rfl,rfl,rfl,rfl⟩ ?_;rintro k z1 z2 z3 z4 z5 h3 nx3 R ⟨i,rfl,hk,rfl,rfl⟩ hR;rw [F37.t15,zA,zA,F37.je,yA,ji,zB,F37.v4];by_cases ci:i<f.length
 .rw [Zab (by omega),zD,zG,zA,zK,zA,F37.fG,fE (i:=i) rfl ci,ldL (wY ci)];refine zsg (hs _ (Zad (kN ci))) _ _ _ _ ?_;rintro _ rfl _;rw [zA,F37.qi,fD,Zab rfl,Zak,zB,F37.v5,zC,zG,F37.fU,jc (by omega)];exact hR (k-1) _ _ _ _ _ _ _ (by omega) ⟨i+1,by congr 1,by omega,rfl,rfl⟩
 .rw [Zaa (by omega),zC,zZ,yE,zA,F37.sV];simp only [zI,zO];rw [F37.ret];exact hK _ _ _ _ _ H0 (zT rfl) rfl
theorem zjw {v:AV} {z:Int} (hv:xh v z):Pure Tryz.prog B 249 [v] (· = .tup [.bool (decide (z<0)),encW (if z=0 then [] else [z.natAbs])]):=by
 obtain ⟨s,w,rfl,rfl,rfl,hv⟩:=hv;unfold rV at hv;refine zX λh nx K H0 hK=>zN zQ yD 100 λhf => ?_;rw [qz.go,qz.t15,zA,qz.zy];refine H0.box (l:=[I z,.ze]) rfl λpa h1 nx1 H1 => ?_;rw [zA,zK,zA,qz.zx,sFx,H1.load (k:=0) (i:=0+1) rfl rfl,zrx,zB,qz.v4,zC,zA,qz.fJ,sFx,H1.load (k:=0) (i:=0+0) rfl rfl,dh,zB,qz.v5];by_cases c:z=0
 .rw [Zab c,zD,zA,qz.fG];simp only [zI,xA,zO];rw [qz.ret];refine hK _ _ _ _ _ H1 (gJ (zT rfl) (.zc1 1)) ?_;subst c;rfl
 rw [Zaa c,zC,zG];rw [zA,qz.rP,sFx,H1.load (k:=0) (i:=0+0) rfl rfl,ji,sFx,H1.load (k:=0) (i:=0+0) rfl rfl];refine zeu (by omega) _ _ _ _ ?_;rintro _ rfl _;simp only [ji,zF,sFx,H1.load (k:=0) (i:=0+0) rfl rfl];refine H1.mq (l:=[U z.natAbs]) rfl λtb h2 nx2 H2 => ?_;simp only [ji,zF,sFx,H2.load (k:=1) (i:=0+0) rfl rfl];simp only [zI,xA,zO];rw [qz.ret];refine hK _ _ _ _ _ H2 (gJ (zT rfl) (H2.zja (k:=0) (cap:=some 1) (n:=1) (e:=1) rfl (Zag _) rfl (λv hv=>by rw [List.mem_singleton.1 hv];rfl))) ?_;rw [if_neg c];rfl
theorem zmx {v:AV} {z:Int} (hv:xh v z):Pure Tryz.prog B 285 [v] (λv=>∃ n:Nat,v=I (n:Int)/\n<=64):=by
 have hv0:=hv;obtain ⟨s,w,rfl,rfl,rfl,hv⟩:=hv;unfold rV at hv;refine zX λh nx K H0 hK=>zN zQ yD 100 λhf => ?_;rw [uj.go,uj.t11,zA,uj.zy];refine H0.box (l:=[I z,.ze]) rfl λpa h1 nx1 H1 => ?_;rw [zA,uj.zx,H1.zw (k:=0) (n:=2) rfl rfl];refine zjw hv0 _ _ _ _ ?_;rintro _ rfl _;rw [jE,jD,zA,zA,uj.je,uLen,dh,zB,uj.v4];by_cases c:z=0
 .rw [if_pos c,Zab (by rfl),zD,zA,uj.pq];simp only [zI,zO];rw [uj.ret];exact hK _ _ _ _ _ H1 (zT rfl) ⟨0,rfl,by omega⟩
 .rw [if_neg c,Zaa (by simp),zC,zG,zA,uj.fC,uj.aZ,uj.eu,uLen,kz (by simp),fO (by simp),uLen,kz (by simp),uj.oU,uj.aj,uIx (i:=0) (by simp) (by simp),uLd (x:=z.natAbs) rfl];refine zrl (by omega) _ _ _ _ ?_;rintro _ ⟨n,rfl,hn⟩ _;have hn64:n<=64:=hn.1;rw [uj.r4_2,uj.oN,jc (by simp;omega)];simp only [zI,zO];rw [uj.ret];exact hK _ _ _ _ _ H1 (zT rfl) ⟨n,by congr 1;simp,hn64⟩
theorem zfg (op:KW3->OP) (h:T Blk) (nx:Pa) (k:KW3):sGW (.bool false) false op h nx k=op k:=nr rfl
theorem zdu {v:AV} {z:Int} (hv:xh v z):Pure Tryz.prog B 246 [v] (· = .bool false):=by
 have hv0:=hv;obtain ⟨s,w,rfl,hv⟩:=hv;refine zX λh nx K H0 hK=>zN zQ yD 100 λhf => ?_;rw [qc.go,qc.t3,zA,qc.zy];refine H0.box (l:=[s,w]) rfl λpa h1 nx1 H1 => ?_;rw [zA,qc.zx,qc.si,qc.sj,H1.zw (k:=0) (n:=2) rfl rfl];refine zmx hv0 _ _ _ _ ?_;rintro _ ⟨n,rfl,hn⟩ _;rw [qc.sQ,qc.fZ,xq,Zaa (by omega)];simp only [jA];rw [uGWf,qc.r1_2,qc.eH,uGWf,qc.r1_3,qc.zam];simp only [jA,zY];simp only [zI,zO];rw [qc.ret];exact hK _ _ _ _ _ H1 (zT rfl) rfl
theorem zjx {v:AV} {q:Rat} (hv:jL v q):Pure Tryz.prog B 180 [v] (· = .bool false):=by
 obtain ⟨s,w,s',w',rfl,h1,h2⟩:=hv;refine zX λh nx K H0 hK=>zN zQ yD 100 λhf => ?_;rw [rH.go,rH.t3,zA,rH.zy];refine H0.box (l:=[s,w,s',w']) rfl λpa h1' nx1 H1 => ?_;rw [zA,rH.zx,sFx,H1.qd (k:=0) (l2:=[s,w]) rfl (by simp) rfl];refine zdu ⟨_,_,rfl,h1⟩ _ _ _ _ ?_;rintro _ rfl _;simp only [yI];rw [sFx];rw [H1.qd (k:=0) (l2:=[s',w']) rfl (by simp) rfl,zfg];refine zdu ⟨_,_,rfl,h2⟩ _ _ _ _ ?_;rintro _ rfl _;simp only [zY];simp only [zI,zO];rw [rH.ret];exact hK _ _ _ _ _ H1 (zT rfl) rfl
theorem zvk {n:Nat} {c:List AV} {q:List Rat} (hc:sM c q) (hn:q.length=n) (hn1:n<=1000) (hs:∀ x∈q,Sml x):Pure Tryz.prog B 108 [.lst 4 n c,.fn 180 (.of 180) []] (· = I (-1)):=by
 refine zX λh nx K H0 hK=>zN zQ yD 2000 λhf => ?_;rw [uh.go,uh.t22,zA,uh.zy,zA,zA,uh.zx,yA,zK];refine uh.aL (λm x5 h' nx'=>∃ k:Nat,x5=I (k:Int)/\m+k=n/\Hp h h' nx' []) (m:=n) (by omega) ⟨0,rfl,rfl,H0⟩ ?_;rintro m z2 z3 z5 z6 z7 h3 nx3 R ⟨k,rfl,hm,H3⟩ hR;rw [uh.t15,zA,uh.je,ji,zA,zB,uh.v6];by_cases ck:k<n
 .obtain ⟨cs,e1,e2,_,fv⟩:=hc.get (kN (q:=q) (j:=k) (by omega));rw [Zab (by omega),zD,zG,zA,zK,zA,uh.fJ,zA,uh.fG,zxl (j:=k) rfl ck,zsc (by rw [Zcb];omega),e1,pY];refine zjx fv _ _ _ _ ?_;rintro _ rfl _;rw [zB,uh.v7,zC,zG,uh.rP,jc (by omega)];exact hR (m-1) _ _ _ _ _ _ _ (by omega) ⟨k+1,by congr 1,by omega,H3⟩
 .rw [Zaa (by omega),zC,zZ,yE,zA,uh.sV];simp only [zI,zO];rw [uh.ret];exact hK _ _ _ _ _ H3 (zT rfl) rfl
theorem zvl {n:Nat} {c:List AV} {q:List Rat} (hc:sM c q) (hn:q.length=n) (hn1:n<=1000) (hs:∀ x∈q,Sml x):Pure Tryz.prog B 179 [.lst 4 n c,.fn 180 (.of 180) []] (· = .bool false):=by
 intro p h nx K hK;refine zN zQ yD 10 λhf => ?_;rw [rJ.go,rJ.t3,zA,rJ.zy,zA,rJ.zx];refine zvk hc hn hn1 hs _ _ _ _ ?_;rintro _ rfl hf2;rw [fe,Zaa (by decide)];simp only [zI,zO];rw [rJ.ret];exact hK _ rfl hf2
abbrev zdv (n:Nat) (Bs:List (List Rat)):List AV:=Bs.map λb=>.lst 1 n (vD b)
theorem zvm {n:Nat} {cb:List (List AV)} {Bs:List (List Rat)} (hl:cb.length=Bs.length) (hr:∀ a,a<Bs.length->sM (cb.getD a []) (Bs.getD a [])) (hn:∀ b∈Bs,b.length=n) (hn1:n<=1000) (hB:Bs.length<=1000) (hs:∀ b∈Bs,∀ x∈b,Sml x):Pure Tryz.prog B 92 [.lst 1 Bs.length (cb.map λc=>.lst 4 n c)] (· = .tup [.lst 1 Bs.length (zdv n Bs),I 0]):=by
 refine zX λh nx K H0 hK=>zN zQ yD 2000 λhf => ?_;have H0:=H0.zaa 1;rw [F92.go,F92.t26,zA,F92.zy,zA,F92.zx,zA,zA,F92.je,yA,zK];refine F92.qaz (λm x3 x7 h' nx'=>∃ (k:Nat) (o:Option Pa),x3=xg o 1 k/\x7=I (k:Int)/\m+k=Bs.length/\Hp h h' nx' [.gro o 1 k ((zdv n Bs).take k)]) (m:=Bs.length) (by omega) ⟨0,none,rfl,rfl,rfl,H0⟩ ?_;rintro m z1 z2 z3 z4 z7 z8 z9 h3 nx3 R ⟨k,o,rfl,rfl,hm,H3⟩ hR;rw [F92.t18,zA,F92.pq,ji,zA,zB,F92.v8];by_cases ck:k<Bs.length
 .have hb:=jQ (d:=[]) ck;have hca:cb[k]? = some (cb.getD k []):=kM (by omega);have hba:Bs[k]? = some (Bs.getD k []):=kM ck;have hx:(zdv n Bs)[k]? = some (.lst 1 n (vD (Bs.getD k []))):=by rw [List.getElem?_map,hba];rfl
  rw [Zab (by omega),zD,zG,zA,zK,zA,F92.fG,fE (i:=k) rfl ck,ldL (show (cb.map λc=>AV.lst 4 n c)[k]? = some (.lst 4 n (cb.getD k [])) by rw [List.getElem?_map,hca];rfl),zA,zA,F92.qi];refine zvl (hr k ck) (hn _ hb) hn1 (hs _ hb) _ _ _ _ ?_;rintro _ rfl _;rw [zB,F92.v9,zC,zG,F92.di];refine zsd (hr k ck) (hn _ hb) hn1 (hs _ hb) _ _ _ _ ?_;rintro _ rfl _;refine H3.mq (l:=[.lst 1 n (vD (Bs.getD k []))]) rfl λtb h4 nx4 H4 => ?_;refine H4.appN (k:=1) (o:=o) (c:=1) (new:=[.lst 1 n (vD (Bs.getD k []))]) rfl (qj.rd (l:=[.lst 1 n (vD (Bs.getD k []))]) (n:=1) (H4.own _ (Zaj ..)) rfl) rfl rfl (by decide) (by decide) (by omega) λo' h5 nx5 _ H5 => ?_;have H6:Hp h h5 nx5 [.gro o' 1 (k+1) ((zdv n Bs).take k++[.lst 1 n (vD (Bs.getD k []))])]:=H5.drop;rw [F92.oC,jc (by omega)];refine hR (m-1) _ _ _ _ _ _ _ _ _ (by omega) ⟨k+1,o',rfl,by congr 1,by omega,?_⟩;rw [Zar,hx,Zcq];exact H6
 .obtain rfl:k=Bs.length:=by omega
  rw [Zaf (by rw [Zal];exact Zag _)] at H3;rw [Zaa (by omega),zC,zZ,yE,zA,F92.aX];simp only [zI,zO];rw [F92.ret];refine hK _ _ _ _ _ H3 (gJ (H3.zbt (k:=0) rfl λv hv => ?_) (zT rfl)) rfl;obtain ⟨x,_,rfl⟩:=List.mem_map.1 hv;exact wA λv hv=>by obtain ⟨x,_,rfl⟩:=List.mem_map.1 hv;rfl
theorem Dn.sml {t M:Nat} {q:Rat} (ht:1<=t) (htM:t<=M) (hM:M<9223372036854775808) (h:Dn t M q):Sml q:=by
 obtain ⟨z,e,hz⟩:=h;have h0:((t:Int):Rat)≠0:=zce (by omega);have eq:q=Rat.divInt z (t:Int):=by rw [Rat.divInt_eq_div];grind
 obtain ⟨d1,d2⟩:=kT (n:=z) (d:=(t:Int)) (by omega);have a1:q.num.natAbs<=z.natAbs:=by
  rw [eq,d1,Zdh (Zed ..)];exact Zbz _ _
 have a2:(q.den:Int).natAbs<=t:=by
  rw [eq,d2,Zdh (Zen ..)];exact Zbz _ _
 rw [Zbp] at a2;exact ⟨by omega,by omega⟩
theorem zlj {n:Nat} {O Q:List (List Rat)} {ps:List Nat} (hS:Sv n O Q ps) (hQ:Q.length<=11) (c:Nat):∀ x∈af n Q ps c,Sml x:=by
 obtain ⟨t,h1,h2,h3⟩:=zss hS hQ c;refine vR λj=>(h3 j).sml h1 h2 (by decide)
abbrev ow (n:Nat) (Q:List (List Rat)) (ps:List Nat):List (List Rat):=(frQ n ps).map (af n Q ps)
theorem zvn {n:Nat} {lines:List (List Int)} (hn:n<=256) (hl:lines.length<=12) (hll:∀ l∈lines,l.length<=256) (he:jI (n:Int) lines=0):Pure Tryz.prog B 23 [.agg [I (n:Int),wu lines]] (λv=>∃ Q ps,zsr n lines Q ps/\v=.tup [.lst 1 (frQ n ps).length (zdv n (ow n Q ps)),I 0]):=by
 obtain ⟨n',hn',_,_,_,hasc⟩:=zju he;have en:n'=n:=by omega
 rw [en] at hasc;have hr:∀ l∈lines,∀ c∈l,0<=c/\c<(n:Int):=λl hlm=>(hasc l hlm).2.2;refine zX λh nx K H0 hK=>zN zQ yD 1000 λhf => ?_;rw [F23.go,F23.t11,zA,F23.zy];refine H0.box (l:=[I (n:Int),wu lines]) rfl λb1 h1 nx1 H1 => ?_;rw [zA,zA,F23.zx,H1.zw (k:=0) (n:=2) rfl rfl];refine zxs (λq hq=>by have:=hll q hq;omega) _ _ _ _ ?_;rintro _ rfl _;rw [he,zA,F23.je,fD,Zab rfl,Zak,zB,F23.v5,zC,zG,zA,F23.fH,H1.zw (k:=0) (n:=2) rfl rfl];refine zmv hn (by omega) hll hr _ _ _ _ ?_;rintro _ ⟨Q,ps,⟨⟨O,hS⟩,hQ,hdot,hcv⟩,cb,hcl,hcr,rfl⟩ _;have hfl:(ow n Q ps).length=(frQ n ps).length:=Zal ..;rw [jO];refine zvm hcl hcr (λb hb => ?_) (by omega) (by rw [hfl];exact Zbe (zfd n ps) (by omega)) (λb hb => ?_) _ _ _ _ ?_
 .obtain ⟨c,_,rfl⟩:=List.mem_map.1 hb;exact qA ..
 .obtain ⟨c,_,rfl⟩:=List.mem_map.1 hb;exact zlj hS (by omega) c
 rintro _ rfl _;rw [jE,jD];simp only [zI,zO];rw [F23.ret];refine hK _ _ _ _ _ H1 (gJ (zT (wA λv hv => ?_)) (zT rfl)) ⟨Q,ps,⟨⟨O,hS⟩,hQ,hdot,hcv⟩,by rw [hfl]⟩;obtain ⟨x,_,rfl⟩:=List.mem_map.1 hv;exact wA λv hv=>by obtain ⟨x,_,rfl⟩:=List.mem_map.1 hv;rfl
end Go.Ev
namespace Go.Ev
theorem zh3:∀ (l r:List Int),l.Nodup->(∀ x∈l,x∈r)->∃ s,r.Perm (l++s)
 | [],r,_,_=>⟨r,.refl _⟩
 | a::l,r,hn,hs=>by
  obtain ⟨h1,h2⟩:=List.nodup_cons.1 hn;have ha:=hs a (by simp);obtain ⟨s,hp⟩:=zh3 l (r.erase a) h2 λx hx=>(List.mem_erase_of_ne (by rintro rfl;exact h1 hx)).2 (hs x (by simp [hx]));exact ⟨s,(List.perm_cons_erase ha).trans (.cons a hp)⟩
def Rv (l cur:List Int) (i:Nat):Prop:=cur.length=l.length/\∀ t,t<l.length->cur[t]? = if t<i\/l.length<=t+i then l[l.length-1-t]? else l[t]?
theorem Rv.done {l cur:List Int} {i:Nat} (h:Rv l cur i) (hi:l.length<=2*i+1):cur=l.reverse:=by
 refine Zce λt => ?_;by_cases ht:t<l.length
 .rw [h.2 t ht,List.getElem?_reverse ht];by_cases c:t<i\/l.length<=t+i
  .rw [if_pos c]
  .rw [if_neg c,show l.length-1-t=t by omega]
 .rw [List.getElem?_eq_none (by rw [h.1];omega),List.getElem?_eq_none (by simp;omega)]
theorem Rv.step {l cur:List Int} {i j:Nat} {a b:Int} (h:Rv l cur i) (hij:i<j) (hs:i+j+1=l.length) (ha:cur[i]? = some a) (hb:cur[j]? = some b):Rv l ((cur.set i b).set j a) (i+1):=by
 obtain ⟨hl,hg⟩:=h;refine ⟨by simp [hl],λt ht => ?_⟩;have e1:=hg i (by omega);have e2:=hg j (by omega);rw [if_neg (by omega),ha] at e1;rw [if_neg (by omega),hb] at e2;rw [List.getElem?_set,List.getElem?_set,Zbk];by_cases c1:j=t
 .subst c1;rw [if_pos rfl,if_pos (by omega),if_pos (by omega),show l.length-1-j=i by omega];exact e1
 .rw [if_neg c1];by_cases c2:i=t
  .subst c2;rw [if_pos rfl,if_pos (by omega),if_pos (by omega),show l.length-1-i=j by omega];exact e2
  .rw [if_neg c2,hg t ht];by_cases c3:t<i\/l.length<=t+i
   .rw [if_pos c3,if_pos (by omega)]
   .rw [if_neg c3,if_neg (by omega)]
section
variable {σ α:Type}
end
end Go.Ev
namespace Go.Ev
def SpOK (M:Int) (q:List (Int×Int)):Prop:=q.Pairwise (λa b=>a.1<b.1)/\∀ p∈q,0<=p.1/\p.1<=M
theorem SpOK.len {q:List (Int×Int)} (h:SpOK 9000 q):q.length<=9001:=by
 obtain ⟨t,ht⟩:=zh3 (q.map (·.1)) ((List.range 9001).map λ(i:Nat)=>(i:Int)) (by
  rw [Zdu,List.pairwise_map];exact h.1.imp λ{a b} q e=>by omega) λx hx=>by
  obtain ⟨p,hp,rfl⟩:=List.mem_map.1 hx;have:=h.2 p hp;exact List.mem_map.2 ⟨p.1.toNat,List.mem_range.2 (by omega),by omega⟩
 have:=ht.length_eq;rw [Zal,Zfo,Zah,Zal] at this;omega
end Go.Ev
namespace Go.Ev
open Go Go.Proofs
variable {B:Nat}
set_option maxRecDepth 100000
abbrev farL (x:Int):Bool:=decide (x < -999999999)||decide (999999999<x)
theorem zjy {f:List Int} (hl:f.length<=100000):Pure Tryz.prog B 183 [encI f] (· = I (if f.any farL then 3 else 0)):=by
 intro p h nx K hK;refine zN zQ rO 1000 λhf => ?_;rw [eO.go];refine zlf (by omega) _ _ _ _ ?_;rintro _ rfl _;exact hK _ rfl hf
def qY (l f:List Int):Int:=l.foldl (λs c=>s+f.getD c.toNat 0) 0
structure zcl (l f:List Int):Prop where
 len:l.length<=1000
 rng:∀ c∈l,0<=c/\c<(f.length:Int)
 bd:∀ x∈f, -1000000000<=x/\x<=1000000000
theorem zcl.get {l f:List Int} (h:zcl l f) {c:Int} (hc:c∈l):f[c.toNat]? = some (f.getD c.toNat 0) /\ -1000000000<=f.getD c.toNat 0/\f.getD c.toNat 0<=1000000000:=by
 have:=h.rng c hc;have hx:f[c.toNat]? = some (f.getD c.toNat 0):=by rw [Zac,List.getElem?_eq_getElem (by omega)];rfl
 exact ⟨hx,h.bd _ (Zad hx)⟩
theorem pK {l f:List Int} {i:Nat} (h:i<l.length):qY (l.take (i+1)) f=qY (l.take i) f+f.getD l[i].toNat 0:=by
 rw [qY,Zar,List.getElem?_eq_getElem h,Zgl];rfl
theorem zh4 {l f:List Int} (h:zcl l f):∀ i,i<=l.length -> -(1000000000*(i:Int))<=qY (l.take i) f/\qY (l.take i) f<=1000000000*(i:Int)
 | 0,_=>by simp [qY]
 | i+1,hi=>by
  have ih:=zh4 h i (by omega);have:=(h.get (Zas (show i<l.length by omega))).2;rw [pK (by omega)];omega
theorem zzy {l f:List Int} (h0:zcl l f):Pure Tryz.prog B 219 [encI l,encI f] (· = I (qY l f)):=by
 intro p h nx K hK;have hl:=h0.len;refine zN zQ rO 10000 λhf => ?_;rw [vz.go];simp only [yA];refine vz.L1 (λm x3 x7 h' nx'=>∃ i:Nat,x7=I i/\x3=I (qY (l.take i) f)/\l.length-i=m/\i<=l.length/\h'=h/\nx'=nx) (m:=l.length) (by omega) ⟨0,rfl,rfl,rfl,by omega,rfl,rfl⟩ ?_;rintro m z3 z4 z7 z8 h nx R ⟨i,rfl,rfl,rfl,hi,rfl,rfl⟩ hR;simp only [ji];by_cases hlt:i<l.length
 case neg =>
  simp only [show ¬ (i:Int)<(l.length:Int) by omega,decide_false,zC];rw [vz.k8,Zaf (by omega)];exact hK _ rfl hf
 simp only [show (i:Int)<(l.length:Int) by omega,decide_true,zD];have hx:l[i]? = some l[i]:=List.getElem?_eq_getElem hlt;have hr:=h0.rng _ (Zas hlt);obtain ⟨hg,hb⟩:=h0.get (Zas hlt);have hbd:=zh4 h0 i (by omega);rw [fE rfl hlt,ldL (tO hx),fE (i:=l[i].toNat) (by omega) (by omega),ldL (tO hg),jc (by omega),jc (by omega)];exact hR _ _ _ _ _ _ _ (by omega) ⟨i+1,rfl,by rw [pK hlt],rfl,by omega,rfl,rfl⟩
def wK (lines:List (List Int)) (f:List Int):List Int:=lines.map λl=>qY l f
theorem zcm {lines:List (List Int)} {f:List Int} {i:Nat} (h:i<lines.length):wK (lines.take (i+1)) f=wK (lines.take i) f++[qY lines[i] f]:=by
 rw [wK,Zar,List.getElem?_eq_getElem h,Zbb];rfl
theorem zdw (lines:List (List Int)) (f:List Int):(wK lines f).length=lines.length:=by simp [wK]
theorem zvo {cells:Int} {lines:List (List Int)} {f:List Int} (hn:lines.length<=1000) (h0:∀ l∈lines,zcl l f):Pure Tryz.prog B 139 [.agg [I cells,wu lines],encI f] (· = encI (wK lines f)):=by
 refine zX λh nx K H0 hK=>zN zQ rO 10000 λhf => ?_;rw [vw.go];refine H0.box (l:=[I cells,wu lines]) rfl λbx h1 nx1 H1 => ?_;rw [sFx,H1.load (k:=0) (i:=0+1) rfl rfl];simp only [yA];refine vw.L1 (λm x4 x8 h' nx'=>∃ (i:Nat) (o:Option Pa),x8=I i/\x4=xg o 1 (wK (lines.take i) f).length/\lines.length-i=m/\i<=lines.length/\Hp h h' nx' [.gro o 1 (wK (lines.take i) f).length ((wK (lines.take i) f).map I),.arr bx [I cells,wu lines]]) (m:=lines.length) (by omega) ⟨0,none,rfl,rfl,rfl,by omega,H1.zaa 1⟩ ?_;rintro m z4 z5 z8 z9 h2 nx2 R ⟨i,o,rfl,rfl,rfl,hi,H2⟩ hR;simp only [ji];by_cases hlt:i<lines.length
 case neg =>
  simp only [show ¬ (i:Int)<(lines.length:Int) by omega,decide_false,zC];rw [Zaf (by omega)] at H2 ⊢;rw [vw.k8];exact hK _ _ _ _ _ H2 (H2.zbt (k:=0) rfl λv hv=>by obtain ⟨x,_,rfl⟩:=List.mem_map.1 hv;rfl) rfl
 simp only [show (i:Int)<(lines.length:Int) by omega,decide_true,zD];have hx:lines[i]? = some lines[i]:=List.getElem?_eq_getElem hlt;have hlen:(wK (lines.take i) f).length=i:=by rw [zdw,Zan];omega
 rw [fE rfl hlt,ldL (getT hx)];refine zzy (h0 _ (Zas hlt)) _ _ _ _ ?_;rintro _ rfl _;refine H2.mq (l:=[I (qY lines[i] f)]) rfl λtb h4 nx4 H4 => ?_;refine H4.appN (k:=1) (o:=o) (c:=1) (new:=[I (qY lines[i] f)]) rfl (qj.rd (l:=[I (qY lines[i] f)]) (n:=1) (H4.own _ (Zaj ..)) rfl) rfl rfl (by decide) (by decide) (by omega) λo' h5 nx5 _ H5 => ?_;rw [jc (by omega)];refine hR _ _ _ _ _ _ _ (by omega) ⟨i+1,o',rfl,by rw [zcm hlt,Zah];rfl,rfl,by omega,?_⟩;rw [zcm hlt,Zah,Zbb];exact H5.drop
def wZ (cells:Int) (lines:List (List Int)) (f:List Int):Int:=if jI cells lines≠0 then jI cells lines else if (f.length:Int)≠cells then 2 else if f.any farL then 3 else 0
theorem zvp {cells:Int} {lines:List (List Int)} {f:List Int} (hw:∀ q∈lines,q.length<=1000000) (hl:f.length<=100000):Pure Tryz.prog B 94 [.agg [I cells,wu lines],encI f] (· = I (wZ cells lines f)):=by
 refine zX λh nx K H0 hK=>zN zQ rO 1000 λhf => ?_;rw [F94.go];refine H0.box (l:=[I cells,wu lines]) rfl λbx h1 nx1 H1 => ?_;rw [H1.zw (k:=0) (n:=2) rfl rfl];simp only [yA];rw [sFx,H1.load (k:=0) (i:=0+0) rfl rfl];simp only [fD];refine zxs hw _ _ _ _ ?_;rintro _ rfl _;simp only [zF];rw [H1.load (k:=0) (i:=0+0) rfl rfl];simp only [zF];rw [sFx];simp only [zF];refine dF _ _ _ _ _ _ ?_;rintro _ rfl _;refine zjy hl _ _ _ _ ?_;rintro _ rfl _;refine H1.mq (l:=[I (jI cells lines),I (if (!decide ((f.length:Int)=cells))=true then 2 else 0),I (if f.any farL=true then 3 else 0)]) rfl λtb h2 nx2 H2 => ?_;refine bF (l:=[jI cells lines,if (!decide ((f.length:Int)=cells))=true then 2 else 0,if f.any farL=true then 3 else 0]) H2 (k:=0) rfl (λB=>zck (by simp)) (λv hv=>by rw [hv];exact .int _ _) ?_;rintro _ rfl;have e:kG [jI cells lines,if (!decide ((f.length:Int)=cells))=true then 2 else 0,if f.any farL=true then 3 else 0]=wZ cells lines f:=by
  simp only [kG,wZ];by_cases c1:jI cells lines=0
  .by_cases c2:(f.length:Int)=cells
   .by_cases c3:f.any farL=true
    .simp [c1,c2,c3]
    .simp [c1,c2,c3]
   .simp [c1,c2]
  .simp [c1]
 rw [e];exact hK _ _ _ _ _ H2 (zT rfl) rfl
theorem zz0 {cells:Int} {lines:List (List Int)} {f:List Int} (h:wZ cells lines f=0):jI cells lines=0/\lines.length<=128/\f.length<=256/\∀ l∈lines,l.length<=1000->zcl l f:=by
 rw [wZ] at h;by_cases c1:jI cells lines=0
 case neg=>rw [if_pos c1] at h;exact absurd h c1
 rw [if_neg (λq=>q c1)] at h;by_cases c2:(f.length:Int)=cells
 case neg=>rw [if_pos c2] at h;cases h
 rw [if_neg (λq=>q c2)] at h;have c3:f.any farL=false:=by cases q:f.any farL with
  | false=>rfl
  | true=>rw [q] at h;cases h
 obtain ⟨n,rfl,n1,n2,n3,n4⟩:=zju c1;refine ⟨c1,n3,by omega,λl hl hlen=>⟨hlen,λc hc => ?_,λx hx => ?_⟩⟩
 .have:=(n4 l hl).2.2 c hc;omega
 .have:=List.any_eq_false.1 c3 x hx;simp at this;omega
def difA (a:Int):List Int->Nat->Int
 | [],_ => -1
 | x::t,i=>if x=a then difA a t (i+1) else (i:Int)
def zcn (S:List Int):Int:=difA (S.getD 0 0) S 0
theorem zmy {a:Int} {S:List Int} {i k:Nat} (h:i<S.length):difA a (S.drop i) k=if S[i]=a then difA a (S.drop (i+1)) (k+1) else (k:Int):=by
 rw [Zaw h];rfl
theorem zsv {h0 h:T Blk} {nx p bx:Pa} {L:List Ob} {k:Nat} {S:List Int} {K:Kw Prop} {v:AV} (hl:S.length<=100000) (H:Hp h0 h nx L) (hk:L[k]? = some (.arr bx [encI S]))
  (hK:K (I (zcn S)) h nx=.ok True):(CS Tryz.prog B).fn 184 p [encI S,.fn 185 (.of 185) [.ptr bx 0]] h nx K=.ok True:=by
 refine gE (p:=.of 184) (K:=K) (zN zQ rO 1000000 λhf => ?_) λ_ _ _ _ q=>q;rw [xu.go];simp only [yA];refine xu.L1 (λm z5 h' nx'=>∃ i:Nat,z5=I i/\S.length-i=m/\i<=S.length/\h'=h/\nx'=nx/\zcn S=difA (S.getD 0 0) (S.drop i) i) (m:=S.length) (by omega) ⟨0,rfl,rfl,by omega,rfl,rfl,rfl⟩ ?_;rintro m z2 z3 z5 z6 z7 h nx R ⟨i,rfl,rfl,hi,rfl,rfl,he⟩ hR;simp only [ji];by_cases hlt:i<S.length
 case neg =>
  simp only [show ¬ (i:Int)<(S.length:Int) by omega,decide_false,zC];rw [xu.k8];rw [he,Zbn (by omega)] at hK;exact hK
 simp only [show (i:Int)<(S.length:Int) by omega,decide_true,zD];have hx:S[i]? = some S[i]:=List.getElem?_eq_getElem hlt;have hy:S[0]? = some (S.getD 0 0):=by rw [Zac,List.getElem?_eq_getElem (by omega)];rfl
 rw [zmy hlt] at he;rw [fE rfl hlt,ldL (tO hx),pY];refine gE (p:=.of 185) (zN zQ rO 9 λ_ => ?_) λ_ _ _ _ q=>q;show zR tbl 9 _ (Pa.of 185) [I S[i],.ptr bx 0] _ _ _=_;rw [eT.go,H.load (k:=k) (i:=0) hk rfl,fE (i:=0) (show (0:Int)=((0:Nat):Int) from rfl) (by omega),ldL (tO hy)];simp only [fD];by_cases c:S[i]=S.getD 0 0
 .rw [if_pos c] at he;simp only [c,decide_true,Zak,zC];rw [jc (by omega)];exact hR _ _ _ _ _ _ _ _ (by omega) ⟨i+1,rfl,rfl,by omega,rfl,rfl,he⟩
 .rw [if_neg c] at he;simp only [c,decide_false,Zam,zD];rw [he] at hK;exact hK
theorem zmz {cells:Int} {lines:List (List Int)} {f:List Int} (hn:lines.length<=1000) (h0:∀ l∈lines,zcl l f):Pure Tryz.prog B 95 [.agg [I cells,wu lines],encI f] (· = I (zcn (wK lines f))):=by
 refine zX λh nx K H0 hK=>zN zQ rO 1000 λhf => ?_;rw [F95.go];refine H0.box (l:=[I cells,wu lines]) rfl λbx h1 nx1 H1 => ?_;rw [H1.zw (k:=0) (n:=2) rfl rfl];refine zvo hn h0 _ _ _ _ ?_;rintro _ rfl _;refine H1.alloc λb8 h2 nx2 H2 => ?_;refine H2.store (k:=0) rfl (by simp) rfl λh3 H3 => ?_;rw [H3.load (k:=0) (i:=0) rfl rfl];have hlen:=zdw lines f;refine zsv (v:=.ze) (by omega) H3 (k:=0) rfl ?_;exact hK _ _ _ _ _ H3 (zT rfl) rfl
section
variable {cells:Int} {lines:List (List Int)} {f:List Int}
theorem zvq (hw:∀ q∈lines,q.length<=1000) (hl:f.length<=100000):Pure Tryz.prog B 43 [.agg [I cells,wu lines],encI f] (· = if wZ cells lines f≠0 then .tup [.bool false,I (wZ cells lines f)] else .tup [.bool (decide (zcn (wK lines f)<0)),I 0]):=by
 refine zX λh nx K H0 hK=>zN zQ rO 1000 λhf => ?_;rw [F43.go];refine H0.box (l:=[I cells,wu lines]) rfl λbx h1 nx1 H1 => ?_;rw [H1.zw (k:=0) (n:=2) rfl rfl];refine zvp (λq hq=>by have:=hw q hq;omega) hl _ _ _ _ ?_;rintro _ rfl _;simp only [fD];by_cases c:wZ cells lines f=0
 .rw [if_neg (λq=>q c)] at hK;obtain ⟨_,n1,n2,n3⟩:=zz0 c;simp only [c,decide_true,Zak,zC];rw [H1.zw (k:=0) (n:=2) rfl rfl];refine zmz (by omega) (λl hl=>n3 l hl (hw l hl)) _ _ _ _ ?_;rintro _ rfl _;simp only [ji];exact hK _ _ _ _ _ H1 (gJ (zT rfl) (zT rfl)) rfl
 .rw [if_pos c] at hK;simp only [c,decide_false,Zam,zD];exact hK _ _ _ _ _ H1 (gJ (zT rfl) (zT rfl)) rfl
end
end Go.Ev
namespace Go.Ev
open Go Go.Proofs
def fV (n:Nat) (cf:Nat->Rat) (Bs:List (List Rat)):Nat->List Rat
 | 0=>List.replicate n 0
 | i+1=>j4 (-(cf i)) (fV n cf Bs i) (Bs.getD i [])
theorem uX {n:Nat} {cf:Nat->Rat} {Bs:List (List Rat)} (hB:∀ b∈Bs,b.length=n):∀ i,i<=Bs.length->(fV n cf Bs i).length=n
 | 0,_=>Zay
 | i+1,h=>by
  have h1:=uX (cf:=cf) hB i (by omega);have h2:=hB _ (jQ (l:=Bs) (i:=i) (d:=[]) (by omega));rw [fV,gG (by rw [h1,h2]),h1]
theorem cH {n:Nat} {cf:Nat->Rat} {Bs:List (List Rat)} (hB:∀ b∈Bs,b.length=n) {i:Nat} (h:i<Bs.length) (j:Nat):at' (fV n cf Bs (i+1)) j=at' (fV n cf Bs i) j+cf i*at' (Bs.getD i []) j:=by
 have h1:=uX (cf:=cf) hB i (by omega);have h2:=hB _ (jQ (l:=Bs) (i:=i) (d:=[]) (by omega));rw [fV,jU (by rw [h1,h2])];grind
theorem cI {n m:Nat} {cf:Nat->Rat} {Bs:List (List Rat)} (hB:∀ b∈Bs,b.length=n) (hc:∀ i,Q9 1 (cf i)) (hb:∀ i j,Q9 m (at' (Bs.getD i []) j)):∀ i,i<=Bs.length->∀ j,Q9 ((m+2)*i+1) (at' (fV n cf Bs i) j)
 | 0,_,j=>by rw [fV,pH];exact Q9.zero.mono (by omega)
 | i+1,h,j=>by
  rw [cH hB (by omega)];refine ((cI hB hc hb i (by omega) j).add ((hc i).mul (hb i j))).mono ?_;rw [Zbf];omega
theorem zco {n:Nat} {cf:Nat->Rat} {Bs:List (List Rat)} {q:List Rat} (hB:∀ b∈Bs,b.length=n) (hq:∀ b∈Bs,dot q b=0):∀ i,i<=Bs.length->dot q (fV n cf Bs i)=0
 | 0,_=>by rw [fV,pM]
 | i+1,h=>by
  have hm:=jQ (l:=Bs) (i:=i) (d:=[]) (by omega);have h1:=uX (cf:=cf) hB i (by omega);rw [fV,kZ,uY _ _ _ _ (by rw [h1,hB _ hm]),kZ,zco hB hq i (by omega),kZ,hq _ hm];grind
theorem zfh {n:Nat} {lines:List (List Int)} {f:List Rat} (hf:f.length=n) (hasc:∀ l∈lines,AscL n l):CstQ f lines↔Mgf n lines f:=by
 have key:∀ l,AscL n l->aC f l l.length=dot (tV n l) f:=λl hl=>by
  have:=zlg hf hl l.length (Zag _)
  rwa [Zaf (Zag _)] at this
 cases lines with
 | nil=>exact ⟨λ_=>⟨hf,by simp⟩,λ_=>by intro l hl;simp at hl⟩
 | cons a L =>
  have h0:(a::L).getD 0 []∈a::L:=Zaj ..;constructor
  .intro h;exact ⟨hf,λl hl=>by rw [<- key l (hasc l hl),<- key _ (hasc _ h0)];exact h l hl⟩
  .rintro ⟨_,h⟩ l hl;rw [key l (hasc l hl),key _ (hasc _ h0)];exact h l hl
def fQ (f:List Int):List Rat:=f.map λ(x:Int)=>(x:Rat)
theorem zfi (f:List Int):(fQ f).length=f.length:=by unfold fQ;rw [Zal]
theorem zh5 {f:List Int} {i:Nat}:at' (fQ f) i=((f.getD i 0:Int):Rat):=by
 by_cases h:i<f.length
 .unfold fQ;rw [at',Zac,Zac,List.getElem?_map,List.getElem?_eq_getElem h];rfl
 .rw [gF (by rw [zfi];omega),Zac,List.getElem?_eq_none (by omega)];rfl
theorem zsw {l f:List Int}:∀ j,j<=l.length->aC (fQ f) l j=((qY (l.take j) f:Int):Rat)
 | 0,_=>by rw [Zdj];rfl
 | j+1,hj=>by rw [xM (by omega),zsw j (by omega),pK (by omega),zh5,Rat.intCast_add]
theorem zdx {a:Int}:∀ {S:List Int} {k:Nat},difA a S k<0↔∀ s∈S,s=a
 | [],k=>by simp [difA]
 | x::S,k=>by
  by_cases c:x=a
  .rw [difA,if_pos c,zdx (S:=S)];simp [c]
  .rw [difA,if_neg c];constructor
   .intro h;omega
   .intro h;exact absurd (h x (by simp)) c
theorem zm0 {lines:List (List Int)} {f:List Int}:zcn (wK lines f)<0↔CstQ (fQ f) lines:=by
 have e:∀ l:List Int,aC (fQ f) l l.length=((qY l f:Int):Rat):=λl=>by
  rw [zsw _ (Zag _),Zaf (Zag _)]
 rw [zcn,zdx];unfold CstQ;constructor
 .intro h l hl;rw [e,e]
  congr 1
  have h1:=h _ (List.mem_map_of_mem hl);cases lines with
  | nil=>simp at hl
  | cons a L=>exact h1
 .intro h s hs;obtain ⟨l,hl,rfl⟩:=List.mem_map.1 hs;have:=h l hl;rw [e,e] at this;have:=Rat.intCast_inj.1 this;cases lines with
  | nil=>simp at hl
  | cons a L=>exact this
theorem zm1 (n:Nat) (ps:List Nat):(frQ n ps).Nodup:=(List.filter_sublist (l:=List.range n)).nodup List.nodup_range
theorem oM {n c:Nat} {ps:List Nat}:c∈frQ n ps↔c<n/\c∉ps:=by
 unfold frQ;rw [Zeh,Zfj];simp
theorem zh6 {n:Nat} {O Q:List (List Rat)} {ps:List Nat} {g:List Rat} (hS:Sv n O Q ps) {j:Nat} (hj:j<n/\j∉ps):∀ i,i<=(frQ n ps).length->at' (fV n (λa=>at' g ((frQ n ps).getD a 0)) (ow n Q ps) i) j=if j∈(frQ n ps).take i then at' g j else 0
 | 0,_=>by rw [fV,pH,Zdj,if_neg (by simp)]
 | i+1,h=>by
  have hB:∀ b∈ow n Q ps,b.length=n:=λb hb=>by obtain ⟨c,_,rfl⟩:=List.mem_map.1 hb;exact qA ..
  have hfl:(ow n Q ps).length=(frQ n ps).length:=Zal ..;have hi:i<(frQ n ps).length:=by omega
  have hx:=List.getElem?_eq_getElem hi;have hg:(frQ n ps).getD i 0=(frQ n ps)[i]:=by rw [Zac,hx];rfl
  have hgb:(ow n Q ps).getD i []=af n Q ps (frQ n ps)[i]:=by
   rw [Zac,List.getElem?_map,hx];rfl
  have hm:=oM.1 (Zas hi);rw [cH hB (by omega),zh6 hS hj i (by omega),hg,hgb,Zar,hx,Zcq];by_cases e:j=(frQ n ps)[i]
  .have hni:j∉(frQ n ps).take i:=λq=>by
    obtain ⟨k,hk,hk2⟩:=Zez q;rw [Zan] at hk;rw [List.getElem_take] at hk2;have:=(List.pairwise_iff_getElem.1 (List.nodup_iff_pairwise_ne.1 (zm1 n ps))) k i (by omega) hi (by omega);exact this (by rw [hk2,e])
   rw [if_neg hni,if_pos (Zdt _ (by rw [e];exact List.mem_singleton_self _)),<- e,(zdr hS hj.1 hj.2).1];grind
  .rw [zsu hS hj.2 e];have:(j∈(frQ n ps).take i++[(frQ n ps)[i]])↔j∈(frQ n ps).take i:=by
    rw [Zba,Zbg];exact ⟨λq=>q.resolve_right e,.inl⟩
   simp only [this];grind
theorem zsx {n:Nat} {lines:List (List Int)} {Q:List (List Rat)} {ps:List Nat} {g:List Rat} (hR:zsr n lines Q ps) (hg:g.length=n):Mgf n lines g↔∀ j,j<n->at' (fV n (λa=>at' g ((frQ n ps).getD a 0)) (ow n Q ps) (ow n Q ps).length) j=at' g j:=by
 obtain ⟨⟨O,hS⟩,_,hdot,hcv⟩:=hR;have hfl:(ow n Q ps).length=(frQ n ps).length:=Zal ..;have hB:∀ b∈ow n Q ps,b.length=n:=λb hb=>by obtain ⟨c,_,rfl⟩:=List.mem_map.1 hb;exact qA ..
 obtain ⟨w,hw⟩:∃ w,w=fV n (λa=>at' g ((frQ n ps).getD a 0)) (ow n Q ps) (ow n Q ps).length:=⟨_,rfl⟩;have hwl:w.length=n:=by rw [hw];exact uX hB _ (Zag _)
 have hwk:∀ q∈Q,dot q w=0:=λq hq=>by
  rw [hw]
  exact zco hB (λb hb=>by
   obtain ⟨c,hc,rfl⟩:=List.mem_map.1 hb;have:=oM.1 hc;exact zfe hS this.1 this.2 q hq) _ (Zag _)
 rw [<- hw];constructor
 .intro hm j hj
  have h0:=qdg (f:=j4 1 g w) hS (by rw [gG (by rw [hg,hwl]),hg]) (λq hq=>by
   rw [kZ,uY _ _ _ _ (by rw [hg,hwl]),kZ,hdot g hm q hq,kZ,hwk q hq];grind) (λc hc hcp=>by
   have h1:=zh6 (g:=g) hS ⟨hc,hcp⟩ (frQ n ps).length (Zag _);rw [Zaf (Zag _),if_pos (oM.2 ⟨hc,hcp⟩),<- hfl,<- hw] at h1;rw [jU (by rw [hg,hwl]),h1];grind) j
  rw [jU (by rw [hg,hwl])] at h0
  grind
 .intro h;have e:g=w:=by
   refine List.ext_getElem (by rw [hg,hwl]) λj h1 h2 => ?_;have:=h j (by omega);rw [at',at',Zac,Zac,List.getElem?_eq_getElem h1,List.getElem?_eq_getElem h2] at this;exact this.symm
  rw [e];exact hcv w hwl hwk
end Go.Ev
namespace Go.Ev
open Go Go.Proofs
variable {B:Nat}
set_option maxRecDepth 100000
theorem zh7 (z:Int):uz (z:Rat)=cZ z:=by
 unfold uz;rw [Zfd,Zfy,if_pos rfl,Zbj]
theorem zz1 {k:Nat} {z:Int} (hk:1<=k) (h:Z9 k z):Q9 k (z:Rat):=by
 refine ⟨by rw [Zfd];exact h,?_⟩;rw [Zfy];exact Z9.mono (k:=1) (by unfold Z9;decide) hk
theorem zsy:cZ 1=[49]:=by
 unfold cZ uw sw;rw [show (1:Int).natAbs=1 from rfl,uV (by decide) (by decide),j3];rfl
theorem zz2:T9 1=.str [49]:=by
 rw [T9,show (1:Rat)=((1:Int):Rat) from rfl,zh7,zsy]
theorem bL {x:Int} (hx : -9223372036854775808<=x/\x<=9223372036854775807):Pure Tryz.prog B 42 [I x] (· = T9 (x:Rat)):=by
 refine zX λh nx K H0 hK=>zN zQ yD 100 λhf => ?_;rw [F42.go,F42.t3,zA,F42.zy,zA,F42.zx];refine pT hx _ _ _ _ ?_;rintro _ rfl _;refine zez (k:=3) (by decide) (zru hx) _ _ _ _ ?_;rintro _ rfl _;simp only [zI,zO];rw [F42.ret,<- zh7];exact hK _ _ _ _ _ H0 (zT rfl) rfl
theorem zjz {r o:List Rat} (h:r.length=o.length):j4 (-0) r o=r:=by
 refine List.ext_getElem (by rw [gG h]) λj h1 h2 => ?_;have:=jU (b := -0) h j;rw [at',at',Zac,Zac,List.getElem?_eq_getElem h1,List.getElem?_eq_getElem h2] at this;have e:(j4 (-0) r o)[j]=r[j] - -0*at' o j:=this;rw [e];grind
def aW (j:Nat) (a b:List Rat):List AV:=(a.map T9).take j++(b.map T9).drop j
theorem zh8 {j n:Nat} {a b:List Rat} (ha:a.length=n) (hb:b.length=n) (hj:j<n):(aW j a b)[j]? = some (T9 (at' b j)):=by
 unfold aW;rw [List.getElem?_append_right (by rw [Zan];omega),Zan,Zal,show j-min j a.length=0 by omega,List.getElem?_drop,Zco];exact wY (by omega)
theorem zh9 {j n:Nat} {a b:List Rat} (ha:a.length=n) (hb:b.length=n) (hj:j<n):(aW j a b).set j (T9 (at' a j))=aW (j+1) a b:=by
 unfold aW;have e1:(b.map T9).drop j=T9 (at' b j)::(b.map T9).drop (j+1):=by
  rw [Zaw (by rw [Zal];omega)]
  congr 1
  have:=wY (f:=b) (i:=j) (by omega);rw [List.getElem?_eq_getElem (by rw [Zal];omega)] at this;exact Option.some.inj this
 rw [e1,qF (by rw [Zan,Zal];omega),Zar,wY (by omega),Zcq,Zbl];rfl
theorem zia {j n:Nat} {a b:List Rat} (ha:a.length=n) (hb:b.length=n) (hj:j<=n):(aW j a b).length=n:=by
 unfold aW;rw [Zah,Zan,Zcb,Zal,Zal];omega
theorem zib {n:Nat} {a b:List Rat} (ha:a.length=n) (hb:b.length=n):aW n a b=a.map T9:=by
 unfold aW;rw [Zaf (by rw [Zal];omega),Zbn (by rw [Zal];omega),Zbj]
theorem zm2 {j:Nat} {a:List Rat}:aW j a a=a.map T9:=Zcw ..
theorem qdj (l:List Rat):∀ v∈l.map T9,rU v=true:=λv hv=>by obtain ⟨x,_,rfl⟩:=List.mem_map.1 hv;rfl
theorem qdk:gOk (.bool true) true=true:=rfl
theorem qdl:gOk (.bool false) true=false:=rfl
theorem eqT9 {p q:Rat} {K:AV->OP}:za .eql .str (T9 p) (T9 q) K=K (.bool (decide (p=q))):=by
 rw [T9,T9,zhj]
 congr 2
 exact decide_eq_decide.2 ⟨zh1,λe=>by rw [e]⟩
def fewB (a b:Int) (cells:Int) (lines:List (List Int)):Bool:=decide ((lines.length:Int)<=b/\∀ l∈lines,(l.length:Int)<=a)&&(decide (jI cells lines=0)&&decide (cells<=a))
theorem qdm {cells:Int} {lines:List (List Int)}:Pure Tryz.prog B 35 [.agg [I cells,wu lines],I 16,I 12] (· = .bool (fewB 16 12 cells lines)):=by
 refine zX λh nx K H0 hK=>zN zQ yD 100 λhf => ?_;rw [F35.go,F35.t3,zA,F35.zy];refine H0.box (l:=[I cells,wu lines]) rfl λbx h1 nx1 H1 => ?_;have ret:∀ {b:Bool},b=fewB 16 12 cells lines->K (.bool b) h1 nx1=.ok True:=λe=>hK _ _ _ _ _ H1 (zT rfl) (by rw [e]);rw [zA,F35.zx,F35.si,F35.sj,H1.zw (k:=0) (n:=2) rfl rfl];refine zvf (by omega) _ _ _ _ ?_;rintro _ rfl _;rw [F35.sQ,F35.fZ];by_cases c1:(lines.length:Int)<=12/\∀ l∈lines,(l.length:Int)<=16
 case neg =>
  rw [Zaa c1];simp only [jA,uF,uGWf];rw [F35.r1_2,F35.eH];simp only [jA,uF,zY];rw [F35.r1_3,F35.zam];simp only [zI,zO];rw [F35.ret];exact ret (by rw [fewB,Zaa c1];rfl)
 rw [Zab c1];simp only [yH,uGWt];rw [H1.zw (k:=0) (n:=2) rfl rfl];refine zsn (λq hq=>by have:=c1.2 q hq;omega) _ _ _ _ ?_;rintro _ rfl _;rw [F35.r1_2,F35.eH];simp only [yH,zW];rw [dh];by_cases c2:jI cells lines=0
 case neg =>
  rw [Zaa c2];simp only [jA,uF,zY];rw [F35.r1_3,F35.zam];simp only [zI,zO];rw [F35.ret];exact ret (by rw [fewB,Zab c1,Zaa c2];rfl)
 rw [Zab c2];simp only [yH,zW];rw [sFx,H1.load (k:=0) (i:=0+0) rfl rfl,rZ];rw [F35.r1_3,F35.zam];simp only [zI,zO];rw [F35.ret];exact ret (by rw [fewB,Zab c1,Zab c2];rfl)
theorem sIxG {id:Pa} {e n j:Nat} {z:Int} {op:AV->OP} (hz:z=(j:Int)) (hj:j<n):zH e (.sl id 0 n none e) (I z) op=op (.ptr id (j*e)):=by
 subst hz;rw [u9 hj,Zbi]
theorem law7 {cells:Int} {lines:List (List Int)} {f fac:List Int} (haw:∀ {B},Pure Tryz.prog B 17 [] (· = .bool true)):Pure Tryz.prog B 7 [.agg [I cells,wu lines],encI f,encI fac] (· = .bool true):=by
 refine zX λh nx K H0 hK=>zN zQ yD 2000 λhf => ?_;have awk:∀ (h:T Blk) (nx:Pa) (Z:Kw Prop),Z (.bool true) h nx=.ok True->(CS Tryz.prog B).fn 17 (.of 17) [] h nx Z=.ok True:=λh nx Z hZ=>haw _ _ _ _ λv hv _=>by rw [hv];exact hZ
 have ret:∀ {h1 nx1 L},Hp h h1 nx1 L->K (.bool true) h1 nx1=.ok True:=λH=>hK _ _ _ _ _ H (zT rfl) rfl;rw [F7.go,F7.t119,zA,F7.zy];refine H0.box (l:=[I cells,wu lines]) rfl λbx h1 nx1 H1 => ?_;have lN:∀ op:AV->OP,zJ 2 (.ptr bx 0) h1 op=op (.agg [I cells,wu lines]):=λop=>H1.zw (k:=0) (n:=2) rfl rfl;have l0:∀ op:AV->OP,zE (.ptr bx (0+0)) h1 op=op (I cells):=λop=>H1.load (k:=0) (i:=0+0) rfl rfl;rw [zA,zA,F7.zx,F7.si,F7.sj,lN];refine qdm _ _ _ _ ?_;rintro _ rfl _;rw [F7.sQ,F7.fZ,jG];cases cF:fewB 16 12 cells lines with
 | false =>
  simp only [Zam,jC,uF,zW];rw [F7.r1_2,F7.eH];simp only [jC,zW];rw [zB,F7.v18,zD,zA,F7.je];refine awk _ _ _ ?_;simp only [zI,zO];rw [F7.ret];exact ret H1
 | true =>
 simp only [fewB,Zai,decide_eq_true_eq] at cF;obtain ⟨⟨hl,hll⟩,he,hc16⟩:=cF;have hl:lines.length<=12:=by omega
 have hll:∀ l∈lines,l.length<=16:=λl hm=>by have:=hll l hm;omega
 obtain ⟨n,rfl,hn1,_,_,hasc⟩:=zju he;have hn:n<=16:=by omega
 have hr:∀ l∈lines,∀ c∈l,0<=c/\c<(n:Int):=λl hlm=>(hasc l hlm).2.2;simp only [Zak,yI,yA,sFx,l0,fD,zY];rw [F7.r1_2,F7.eH];by_cases c1:(f.length:Int)=(n:Int)
 case neg =>
  rw [Zaa c1,Zam];simp only [jC,zW];rw [zB,F7.v18,zD,zA,F7.je];refine awk _ _ _ ?_;simp only [zI,zO];rw [F7.ret];exact ret H1
 have hfn:f.length=n:=by omega
 rw [Zab c1,Zak];simp only [yI,yA,xq,zY];rw [zB,F7.v18];by_cases c2:(20:Int)<(fac.length:Int)
 .rw [Zab c2,zD,zA,F7.je];refine awk _ _ _ ?_;simp only [zI,zO];rw [F7.ret];exact ret H1
 rw [Zaa c2,zC,zG,zA,zA,F7.qi];refine H1.mq (l:=[]) rfl λe0 h2 nx2 H2 => ?_;refine H2.appE (new:=f.map I) (c:=n) (λno K'=>by rw [<- hfn];rfl) (by simp [hfn]) (zqb f) (by decide) (by omega) (by omega) λid h3 nx3 H3 => ?_;refine H3.appN (k:=0) (o:=some id) (new:=fac.map I) (c:=fac.length) rfl (λ_ _=>rfl) (by simp) (zqb fac) (by decide) (by decide) (by omega) λo' h4 nx4 ho H4 => ?_;obtain ⟨id4,rfl⟩:∃ id4,o'=some id4:=by
  cases o' with
  | none=>exact absurd rfl (ho (.inl (by simp)))
  | some x=>exact ⟨x,rfl⟩
 have H4:Hp h h4 nx4 [.gro (some id4) 1 (n+fac.length) ((f++fac).map I),.arr bx [I (n:Int),wu lines]]:=by rw [Zbb];exact H4
 have hal:(f++fac).length=n+fac.length:=by rw [Zah,hfn]
 rw [show xg (some id4) 1 (n+fac.length)=.sl id4 0 (n+fac.length) none 1 from rfl,yN,zK];refine F7.zn7 (λk x21 h' nx'=>∃ i:Nat,x21=I (i:Int)/\k+i=n+fac.length/\(∀ x∈(f++fac).take i, -9999<=x/\x<=9999)/\h'=h4/\nx'=nx4) (m:=n+fac.length) (by omega) ⟨0,rfl,rfl,by simp,rfl,rfl⟩ ?_;rintro k z4 z5 z21 z22 z23 h3 nx3 R ⟨i,rfl,hk,hall,rfl,rfl⟩ hR;rw [F7.t20,zA,F7.fC,ji,zA,zB,F7.v22];by_cases ci:i<n+fac.length
 .have hx:=List.getElem?_eq_getElem (l:=f++fac) (i:=i) (by omega);obtain ⟨x,hxe⟩:∃ x,x=(f++fac)[i]:=⟨_,rfl⟩;rw [<- hxe] at hx;rw [Zab (by omega),zD,zG,zA,zK,zA,F7.fK,sIxG (j:=i) rfl ci,Zbo,H4.zai (k:=0) rfl (tO hx),zA,F7.fT,ji];by_cases d1:x < -9999
  .rw [Zab d1];simp only [jC,zW];rw [zB,F7.v23,zD,zA,F7.di];refine awk _ _ _ ?_;simp only [zI,xA,zO];rw [F7.ret];exact ret H4
  rw [Zaa d1];simp only [yI,xq,zY];rw [zB,F7.v23];by_cases d2:9999<x
  .rw [Zab d2,zD,zA,F7.di];refine awk _ _ _ ?_;simp only [zI,xA,zO];rw [F7.ret];exact ret H4
  rw [Zaa d2,zC,zG,F7.rX,jc (by omega)];refine hR (k-1) _ _ _ _ _ _ _ (by omega) ⟨i+1,by congr 1,by omega,λy hy => ?_,rfl,rfl⟩;rw [Zar,hx,Zcq] at hy;rcases List.mem_append.1 hy with q | q
  .exact hall y q
  .rw [List.mem_singleton.1 q];omega
 rw [Zaf (by omega)] at hall;have hfb:∀ x∈f, -9999<=x/\x<=9999:=λx hx=>hall x (Zdn _ hx);have hcb:∀ x∈fac, -9999<=x/\x<=9999:=λx hx=>hall x (Zdt _ hx);rw [Zaa (by omega),zC,zZ,yE,zA,F7.oD,H4.zw (k:=1) (n:=2) rfl rfl];refine zvn (by omega) hl (λl hm=>by have:=hll l hm;omega) he _ _ _ _ ?_;rintro _ ⟨Q,ps,hRd,rfl⟩ _;obtain ⟨O,hS⟩:=hRd.1;have hQ12:Q.length<=11:=Zbe hRd.2.1 (by omega);have hfl:(ow n Q ps).length=(frQ n ps).length:=Zal ..;have hfr:=zfd n ps;rw [jE,jD,zA,zA,F7.zaj,F7.zoc,F7.ztb,fD,Zab rfl,Zak];simp only [yI,yA,sFx];rw [H4.load (k:=1) (i:=0+0) rfl rfl,xq,Zaa (show ¬ (n:Int)<((frQ n ps).length:Int) by omega),F7.zwl,F7.ztc,zY,zB,F7.v24,zC,zG,zA,F7.zfr,sFx,H4.load (k:=1) (i:=0+0) rfl rfl,sFx,H4.load (k:=1) (i:=0+0) rfl rfl];refine zlh H4.drop (by omega) λo8 h5 nx5 H5 => ?_;rw [H5.load (k:=1) (i:=0+0) rfl rfl,zF,sFx,zF];refine zlh H5 (by omega) λo9 h6 nx6 H6 => ?_;have zlk:∀ {o:Option Pa} {l:List Rat} {L:List Ob} {hh:T Blk} {nn:Pa},Hp h hh nn L->Ob.gro o 1 n (l.map T9)∈L->∃ id,o=some id:=by
  intro o l L hh nn H hm;have hw:=H.own _ hm;cases o with
  | none=>exact absurd (show n=0 by first | exact hw.1 | exact hw.2) (by omega)
  | some x=>exact ⟨x,rfl⟩
 obtain ⟨id9,rfl⟩:=zlk H6 (Zaj ..);obtain ⟨id8,rfl⟩:=zlk H6 (Zaq _ (Zaj ..));obtain ⟨Bs,hBs⟩:∃ Bs,Bs=ow n Q ps:=⟨_,rfl⟩;obtain ⟨cO,hcO⟩:∃ cO:Nat->Rat,cO=λa=>at' (fQ f) ((frQ n ps).getD a 0):=⟨_,rfl⟩;obtain ⟨cS,hcS⟩:∃ cS:Nat->Rat,cS=λa=>at' (fQ fac) a:=⟨_,rfl⟩;have hB:∀ b∈Bs,b.length=n:=λb hb=>by rw [hBs] at hb;obtain ⟨c,_,rfl⟩:=List.mem_map.1 hb;exact qA ..
 have hBl:Bs.length=(frQ n ps).length:=by rw [hBs];exact hfl
 have q1:∀ (g:List Int),(∀ x∈g, -9999<=x/\x<=9999)->∀ i,Q9 1 (at' (fQ g) i):=λg hg i=>by
  rw [zh5];refine zz1 (Zag _) ?_;by_cases hi:i<g.length
  .have:=hg _ (jQ (l:=g) (i:=i) (d:=0) hi);unfold Z9;omega
  .rw [Zac,List.getElem?_eq_none (by omega)];unfold Z9;decide
 have hsm:∀ c,∀ x∈af n Q ps c,Sml x:=zlj hS hQ12;have qb:∀ c j,Q9 3 (at' (af n Q ps c) j):=λc j=>by
  by_cases hj:j<(af n Q ps c).length
  .have:=hsm c _ (Zad (kN hj));exact ⟨by unfold Z9;exact Zfi this.1 (by decide),by unfold Z9;rw [Zbp];exact Zfi this.2 (by decide)⟩
  .rw [gF (by omega)];exact Q9.zero.mono (by decide)
 have qB:∀ i j,Q9 3 (at' (Bs.getD i []) j):=λi j=>by
  by_cases hi:i<Bs.length
  .have hm:=jQ (l:=Bs) (i:=i) (d:=[]) hi;rw [hBs] at hm ⊢;obtain ⟨c,_,e⟩:=List.mem_map.1 hm;rw [<- e];exact qb c j
  .rw [Zac,List.getElem?_eq_none (by omega),gF (by simp)];exact Q9.zero.mono (by decide)
 have qO:∀ i,Q9 1 (cO i):=λi=>by rw [hcO];exact q1 f hfb _
 have qS:∀ i,Q9 1 (cS i):=λi=>by rw [hcS];exact q1 fac hcb _
 have kB:∀ b∈Bs,∀ q∈Q,dot q b=0:=λb hb q hq=>by
  rw [hBs] at hb;obtain ⟨c,hc,rfl⟩:=List.mem_map.1 hb;have:=oM.1 hc;exact zfe hS this.1 this.2 q hq
 rw [zA,zA,F7.zfs,yA,zK];refine F7.qa7 (λk x27 h' nx'=>∃ i:Nat,x27=I (i:Int)/\k+i=(frQ n ps).length/\Hp h h' nx' [.gro (some id9) 1 n ((fV n cO Bs i).map T9),.gro (some id8) 1 n ((fV n cS Bs i).map T9),.arr bx [I (n:Int),wu lines]]) (m:=(frQ n ps).length) (by omega) ⟨0,rfl,rfl,H6⟩ ?_;rintro k z4 z10 z11 z12 z13 z27 z28 z29 z30 z31 z32 z33 z34 z35 h3 nx3 R ⟨i,rfl,hk,H3⟩ hR;rw [F7.t82,zA,F7.zft,ji,zA,zB,F7.v28];by_cases ci:i<(frQ n ps).length
 .have hx:=List.getElem?_eq_getElem ci;obtain ⟨c,hce⟩:∃ c,c=(frQ n ps)[i]:=⟨_,rfl⟩;have hcm:=oM.1 (Zas ci);rw [<- hce] at hx hcm;obtain ⟨b,hbe⟩:∃ b,b=af n Q ps c:=⟨_,rfl⟩;have hbl:b.length=n:=by rw [hbe];exact qA ..
  have hbg:Bs.getD i []=b:=by
   rw [hBs,Zac,List.getElem?_map,hx,hbe];rfl
  have hrow:(zdv n (ow n Q ps))[i]? = some (eR b):=by
   rw [List.getElem?_map,List.getElem?_map,hx,hbe,eR,qA];rfl
  have hcst:CstQ b lines:=(zfh hbl hasc).2 (by
   rw [hbe];exact hRd.2.2.2 _ (qA ..) (zfe hS hcm.1 hcm.2))
  have hfst:=zdr hS hcm.1 hcm.2;rw [<- hbe] at hfst;have qbb:∀ j,Q9 3 (at' b j):=λj=>by rw [hbe];exact qb c j
  rw [Zab (show (i:Int)<((frQ n ps).length:Int) by omega),zD,zG,zA,zK,zA,F7.zab,fE (i:=i) rfl ci,ldL hrow,zA,zA,F7.qa0,F7.zof,F7.ztd,yA,sFx,H3.load (k:=2) (i:=0+0) rfl rfl,fD,Zab (by rw [hbl]),Zak];simp only [yI,zfg];refine qdi (by omega) (by rw [hbe];exact hsm c) _ _ _ _ ?_;rintro _ rfl _;rw [F7.zwn,F7.zte];simp only [yI,fD,decide_true,Zak,zY,zfg];rw [H3.zw (k:=2) (n:=2) rfl rfl];refine zh2 hbl hll (by omega) hr qbb (by decide) _ _ _ _ ?_;rintro _ rfl _;rw [Zab hcst,F7.zwm,F7.ztf];simp only [yI,jG,Zak,zY];rw [zB,F7.v29,zC,zG,zA,F7.zfv,zA,zK];refine F7.qa1 (λk x12 h' nx'=>∃ j:Nat,x12=I (j:Int)/\k+j=c/\h'=h3/\nx'=nx3) (m:=c) (by omega) ⟨0,rfl,rfl,rfl,rfl⟩ ?_;rintro k2 y12 y30 h5 nx5 R2 ⟨j,rfl,hk2,rfl,rfl⟩ hR2;rw [F7.t46,zA,zA,F7.zfw,F7.zoj,F7.ztg,yA,ji,Zab (show (j:Int)<(b.length:Int) by omega)];simp only [yH];rw [fE (i:=j) rfl (by omega),F7.zwp,F7.zth];simp only [yH,uGWt];rw [ldL (wY (by omega))];refine zmk _ _ _ _ ?_;rintro _ rfl _;rw [F7.zwo,F7.zti,zW,zB,F7.v30];by_cases cj:j<c
  .rw [Zab (hfst.2 j cj),zD,zG,zK,F7.zfz,jc (by omega)];exact hR2 (k2-1) _ _ _ _ (by omega) ⟨j+1,by congr 1,by omega,rfl,rfl⟩
  obtain rfl:j=c:=by omega
  rw [Zaa (by rw [hfst.1];decide),zC,zZ,yE,zA,zA,F7.qa2,F7.zon,F7.ztj,yA,dh,Zaa (by omega)];simp only [yI];rw [fE (i:=j) rfl (by omega),F7.zwq,F7.ztk];simp only [yI];rw [ldL (wY (by omega)),<- zz2,neT9,Zab hfst.1,Zak,zY,zB,F7.v31,zC,zG,zA,F7.qa3,yA,zK];have hw9:=uX (cf:=cO) hB i (by omega);have hw8:=uX (cf:=cS) hB i (by omega);have hn9:=uX (cf:=cO) hB (i+1) (by omega);have hn8:=uX (cf:=cS) hB (i+1) (by omega);have hfj:f[j]? = some (f.getD j 0):=by rw [Zac,List.getElem?_eq_getElem (by omega)];rfl
  have hOi:cO i=((f.getD j 0:Int):Rat):=by
   rw [hcO];show at' (fQ f) ((frQ n ps).getD i 0)=_;rw [Zac,hx,zh5];rfl
  refine F7.qa5 (λk x33 h' nx'=>∃ a:Nat,x33=I (a:Int)/\k+a=n/\Hp h h' nx' [.gro (some id9) 1 n (aW a (fV n cO Bs (i+1)) (fV n cO Bs i)),.gro (some id8) 1 n (aW a (fV n cS Bs (i+1)) (fV n cS Bs i)),.arr bx [I (n:Int),wu lines]]) (m:=n) (by omega) ⟨0,rfl,rfl,H3⟩ ?_;rintro k3 w13 w33 w34 w35 h7 nx7 R3 ⟨a,rfl,hk3,H7⟩ hR3;rw [F7.t69,zA,F7.qa4,ji,zA,zB,F7.v34];by_cases ca:a<n
  .have IX9:∀ op:AV->OP,zH 1 (xg (some id9) 1 n) (I (a:Int)) op=op (.ptr id9 a):=λop=>by
    rw [show xg (some id9) 1 n=.sl id9 0 n none 1 from rfl,sIxG (j:=a) rfl ca,Zbo]
   have IX8:∀ op:AV->OP,zH 1 (xg (some id8) 1 n) (I (a:Int)) op=op (.ptr id8 a):=λop=>by
    rw [show xg (some id8) 1 n=.sl id8 0 n none 1 from rfl,sIxG (j:=a) rfl ca,Zbo]
   have LD9:∀ op:AV->OP,zE (.ptr id9 a) h7 op=op (T9 (at' (fV n cO Bs i) a)):=λop=>H7.zai (k:=0) rfl (zh8 hn9 hw9 ca);have IXb:∀ op:AV->OP,zH 1 (eR b) (I (a:Int)) op=op (.fp ((b.map T9).drop (a*1))):=λop=>fE (i:=a) rfl (by omega);have LDb:∀ (hh:T Blk) (op:AV->OP),zE (.fp ((b.map T9).drop (a*1))) hh op=op (T9 (at' b a)):=λhh op=>ldL (wY (by omega));have e9:at' (fV n cO Bs i) a+((f.getD j 0:Int):Rat)*at' b a=at' (fV n cO Bs (i+1)) a:=by rw [cH hB (by omega),hbg,hOi]
   have hb1:=hfb _ (Zad hfj);rw [Zab (show (a:Int)<(b.length:Int) by omega),zD,zG,zA,zK,zA,F7.znf,zA,F7.znj,IX9,LD9,fE (i:=j) rfl (by omega),ldL (tO hfj),IXb,LDb];refine bL (by omega) _ _ _ _ ?_;rintro _ rfl _;simp only [LDb,IXb,LD9,IX9,zF];refine zrv (k:=10) (by decide) ((by rw [<- hOi];exact qO i:Q9 1 ((f.getD j 0:Int):Rat)).mono (by decide)) ((qbb a).mono (by decide)) _ _ _ _ ?_;rintro _ rfl _;simp only [LD9,IX9,zF];refine ze1 (k:=1000) (by decide) ((cI hB qO qB i (by omega) a).mono (by omega)) (((by rw [<- hOi];exact qO i:Q9 1 ((f.getD j 0:Int):Rat)).mul (qbb a)).mono (by decide)) _ _ _ _ ?_;rintro _ rfl _;rw [e9]
   try simp only [IX9,zF]
   refine H7.zgz (k:=0) rfl (by rw [zia hn9 hw9 (by omega)];exact ca) rfl λh8 H8 => ?_;have H8:Hp h h8 nx7 [.gro (some id9) 1 n (aW (a+1) (fV n cO Bs (i+1)) (fV n cO Bs i)),.gro (some id8) 1 n (aW a (fV n cS Bs (i+1)) (fV n cS Bs i)),.arr bx [I (n:Int),wu lines]]:=by rw [<- zh9 hn9 hw9 ca];exact H8
   have LD8:∀ op:AV->OP,zE (.ptr id8 a) h8 op=op (T9 (at' (fV n cS Bs i) a)):=λop=>H8.zai (k:=1) rfl (zh8 hn8 hw8 ca);rw [zA,F7.znk,yA,ji,zB,F7.v35];by_cases cf:i<fac.length
   .have hfi:fac[i]? = some (fac.getD i 0):=by rw [Zac,List.getElem?_eq_getElem cf];rfl
    have hSi:cS i=((fac.getD i 0:Int):Rat):=by rw [hcS];exact zh5
    have e8:at' (fV n cS Bs i) a+((fac.getD i 0:Int):Rat)*at' b a=at' (fV n cS Bs (i+1)) a:=by rw [cH hB (by omega),hbg,hSi]
    have hb2:=hcb _ (Zad hfi);rw [Zab (show (i:Int)<(fac.length:Int) by omega),zD,F7.znl,IX8,LD8,fE (i:=i) rfl cf,ldL (tO hfi),IXb,LDb];refine bL (by omega) _ _ _ _ ?_;rintro _ rfl _;simp only [LDb,IXb,LD8,IX8,zF];refine zrv (k:=10) (by decide) ((by rw [<- hSi];exact qS i:Q9 1 ((fac.getD i 0:Int):Rat)).mono (by decide)) ((qbb a).mono (by decide)) _ _ _ _ ?_;rintro _ rfl _;simp only [LD8,IX8,zF];refine ze1 (k:=1000) (by decide) ((cI hB qS qB i (by omega) a).mono (by omega)) (((by rw [<- hSi];exact qS i:Q9 1 ((fac.getD i 0:Int):Rat)).mul (qbb a)).mono (by decide)) _ _ _ _ ?_;rintro _ rfl _;rw [e8]
    try simp only [IX8,zF]
    refine H8.zgz (k:=1) rfl (by rw [zia hn8 hw8 (by omega)];exact ca) rfl λh9 H9 => ?_;have H9:Hp h h9 nx7 [.gro (some id9) 1 n (aW (a+1) (fV n cO Bs (i+1)) (fV n cO Bs i)),.gro (some id8) 1 n (aW (a+1) (fV n cS Bs (i+1)) (fV n cS Bs i)),.arr bx [I (n:Int),wu lines]]:=by rw [<- zh9 hn8 hw8 ca];exact H9
    rw [F7.zj1,jc (by omega)];exact hR3 (k3-1) _ _ _ _ _ _ (by omega) ⟨a+1,by congr 1,by omega,H9⟩
   .have e8:fV n cS Bs (i+1)=fV n cS Bs i:=by
     rw [fV,show cS i=0 by rw [hcS];exact gF (by rw [zfi];omega),hbg,zjz (by rw [hw8,hbl])]
    rw [Zaa (show ¬ (i:Int)<(fac.length:Int) by omega),zC,zG,F7.zj1,jc (by omega)];refine hR3 (k3-1) _ _ _ _ _ _ (by omega) ⟨a+1,by congr 1,by omega,?_⟩;rw [e8,zm2] at H8 ⊢;exact H8
  .obtain rfl:a=n:=by omega
   rw [zib hn9 hw9,zib hn8 hw8] at H7;rw [Zaa (show ¬ (a:Int)<(b.length:Int) by omega),zC,zZ,yE,F7.qa6,jc (by omega)];exact hR (k-1) _ _ _ _ _ _ _ _ _ _ _ _ _ _ _ _ (by omega) ⟨i+1,by congr 1,by omega,H7⟩
 obtain rfl:i=(frQ n ps).length:=by omega
 rw [<- hBl] at H3;obtain ⟨w,hw⟩:∃ w,w=fV n cO Bs Bs.length:=⟨_,rfl⟩;obtain ⟨u,hu⟩:∃ u,u=fV n cS Bs Bs.length:=⟨_,rfl⟩;have hwl:w.length=n:=by rw [hw];exact uX hB _ (Zag _)
 have hul:u.length=n:=by rw [hu];exact uX hB _ (Zag _)
 have qdn:CstQ u lines:=(zfh hul hasc).2 (hRd.2.2.2 u hul λq hq=>by rw [hu];exact zco hB (λb hb=>kB b hb q hq) _ (Zag _));have qu:∀ j,Q9 100 (at' u j):=λj=>by rw [hu];exact (cI hB qS qB _ (Zag _) j).mono (by omega)
 rw [<- hw,<- hu] at H3;have H3:=H3.perm (.swap _ _ _);obtain ⟨h5,hkp,H5,hF⟩:=H3.zqa (qdj u);rw [Zaa (show ¬ (((frQ n ps).length:Nat):Int)<((frQ n ps).length:Int) by omega),zC,zZ,yE,zA,zA,F7.qa8,H3.zw (k:=2) (n:=2) rfl rfl];refine vB hkp (.cons (aP λv hv => ?_) (.cons hF .nil)) ?_
 .simp only [Zap,List.not_mem_nil,or_false] at hv;rcases hv with rfl | rfl
  .rfl
  .exact zlz _
 rw [show AV.lst 1 n (u.map T9)=eR u by rw [eR,hul]];refine zh2 hul hll (by omega) hr qu (by decide) _ _ _ _ ?_;rintro _ rfl _;rw [Zab qdn,jG,Zak,zB,F7.v36,zC,zG,zA,F7.zob,zA,zA,F7.qa9,yA,zK];refine F7.zx3 (λk x14 x38 h' nx'=>∃ j:Nat,x14=.bool (decide (∀ a,a<j->at' w a=at' (fQ f) a))/\x38=I (j:Int)/\k+j=f.length/\h'=h5/\nx'=nx3) (m:=f.length) (by omega) ⟨0,by rw [Zab (λa ha=>absurd ha (by omega))],rfl,rfl,rfl,rfl⟩ ?_;rintro k z14 z15 z38 z39 h7 nx7 R ⟨j,rfl,rfl,hk,rfl,rfl⟩ hR;rw [F7.t102,zA,F7.qba,ji,zA,zB,F7.v39];by_cases cj:j<f.length
 .have hfj:f[j]? = some (f.getD j 0):=by rw [Zac,List.getElem?_eq_getElem cj];rfl
  have hb1:=hfb _ (Zad hfj);have IX9:∀ op:AV->OP,zH 1 (xg (some id9) 1 n) (I (j:Int)) op=op (.ptr id9 j):=λop=>by
   rw [show xg (some id9) 1 n=.sl id9 0 n none 1 from rfl,sIxG (j:=j) rfl (by omega),Zbo]
  have LD9:∀ op:AV->OP,zE (.ptr id9 j) h7 op=op (T9 (at' w j)):=λop=>H5.zai (k:=0) rfl (wY (by omega))
  have hnext:(∀ a,a<j+1->at' w a=at' (fQ f) a)↔(∀ a,a<j->at' w a=at' (fQ f) a)/\at' w j=at' (fQ f) j :=
   ⟨λq=>⟨λa ha=>q a (by omega),q j (by omega)⟩,λq a ha=>by
    by_cases e:a=j
    .rw [e];exact q.2
    .exact q.1 a (by omega)⟩
  rw [Zab (show (j:Int)<(f.length:Int) by omega),zD,zG,zA,zK,zA,F7.qbc,F7.znv];by_cases d:∀ a,a<j->at' w a=at' (fQ f) a
  .rw [Zab d];simp only [qdk,cond_true];rw [IX9,LD9];simp only [yH,uGWt];rw [fE (i:=j) rfl cj,ldL (tO hfj)];refine bL (by omega) _ _ _ _ ?_;rintro _ rfl _;simp only [LD9,IX9,zF,yH];rw [eqT9,zW,F7.zv3,jc (by omega)];refine hR (k-1) _ _ _ _ _ _ (by omega) ⟨j+1,?_,by congr 1,by omega,rfl,rfl⟩
   congr 1
   exact decide_eq_decide.2 (by rw [hnext,zh5];exact ⟨λq=>⟨d,q⟩,λq=>q.2⟩)
  .rw [Zaa d];simp only [qdl,cond_false,jA,uGWf,zY,uF];rw [F7.zv3,jc (by omega)];refine hR (k-1) _ _ _ _ _ _ (by omega) ⟨j+1,?_,by congr 1,by omega,rfl,rfl⟩;rw [Zaa λq=>d (hnext.1 q).1]
 obtain rfl:j=f.length:=by omega
 have hchk:wZ (n:Int) lines f=0:=by
  unfold wZ;have hfar:f.any farL=false:=List.any_eq_false.2 λx hx=>by
   have:=hfb x hx;simp only [farL,Zdd,decide_eq_true_eq];omega
  rw [if_neg (by simp [he]),if_neg (by omega),hfar,if_neg (by simp)]
 rw [Zaa (show ¬ ((f.length:Nat):Int)<(f.length:Int) by omega),zC,zZ,yE,zA,F7.zx4,H5.zw (k:=1) (n:=2) rfl rfl];refine zvq (λq hq=>by have:=hll q hq;omega) (by omega) _ _ _ _ ?_;rintro _ rfl _;have key:(decide (zcn (wK lines f)<0)==decide (∀ a,a<f.length->at' w a=at' (fQ f) a))=true:=by
  rw [beq_iff_eq];refine decide_eq_decide.2 ?_;have h1:=zsx hRd (g:=fQ f) (by rw [zfi,hfn]);rw [zm0,zfh (by rw [zfi,hfn]) hasc,h1,hfn,hw,hcO,hBs]
 rw [if_neg (by simp [hchk]),jE,jD,zA,F7.zx5,F7.zoq,F7.ztl,dh,Zab (show (0:Int)=0 from rfl)];simp only [yH];rw [bEql,key,zW,F7.zws,F7.ztm,uGWt];refine awk _ _ _ ?_;rw [F7.zwr,F7.ztn,zW];simp only [zI,zO];rw [F7.ret];exact ret H5
end Go.Ev
