import Derived.Test.YtbghckepkajplabGreatDoorWordsc
import Derived.Test.YtbghckepkajplabGreatDoorCodeb
import Derived.Test.YtbghckepkajplabGreatDoorEvD
import Derived.Test.YtbghckepkajplabGreatDoorWordsa
import Derived.Test.YtbghckepkajplabGreatDoorWordsb
import GoSem.Core.Next
import Derived.Test.YtbghckepkajplabGreatDoorCodea
set_option linter.unusedSimpArgs false
set_option linter.unusedVariables false
namespace Go.Ev
open Go Go.Proofs
variable {B:Nat}
set_option maxRecDepth 100000
def RB (l:List Int):Prop:=∀ x∈l,0<=x/\x<256
theorem ziz:∀ {l l':List Int},RB l->RB l'->rW (l,false)=rW (l',false)->l=l'
 | [],[],_,_,_=>rfl
 | [],_::_,_,_,h=>by cases h
 | _::_,[],_,_,h=>by cases h
 | x::l,y::l',h1,h2,h=>by
  have h:UInt8.ofNat x.toNat::rW (l,false)=UInt8.ofNat y.toNat::rW (l',false):=h;obtain ⟨e1,e2⟩:=List.cons.inj h;have hx:=h1 x (by simp);have hy:=h2 y (by simp);have e:x=y:=by
   have:=congrArg UInt8.toNat e1;simp only [UInt8.toNat_ofNat'] at this;omega
  rw [e,ziz (λz hz=>h1 z (by simp [hz])) (λz hz=>h2 z (by simp [hz])) e2]
def tC (ks:List (List Int)):List (AV×AV):=ks.map λl=>(.str (rW (l,false)),.bool true)
theorem ztn {a:List Int} (ha:RB a):∀ (ks:List (List Int)) (i:Nat),(∀ b∈ks,RB b)->(a∈ks->∃ j,xD .str (.str (rW (a,false))) (tC ks) i=some (some (j,.bool true)))/\(a∉ks->xD .str (.str (rW (a,false))) (tC ks) i=some none)
 | [],i,_=>⟨λh=>absurd h (by simp),λ_=>rfl⟩
 | b::ks,i,h=>by
  obtain ⟨r1,r2⟩:=ztn ha ks (i+1) λc hc=>h c (by simp [hc])
  have e:xD .str (.str (rW (a,false))) (tC (b::ks)) i=(match some (j5 (rW (a,false)) (rW (b,false))) with
   | some true=>some (some (i,.bool true))
   | some false=>xD .str (.str (rW (a,false))) (tC ks) (i+1)
   | none=>none):=rfl
  rw [e];by_cases c:a=b
  .subst c;rw [xh.2 rfl];exact ⟨λ_=>⟨i,rfl⟩,λq=>absurd (by simp) q⟩
  .have hb:j5 (rW (a,false)) (rW (b,false))=false:=by
    cases q:j5 (rW (a,false)) (rW (b,false)) with
    | false=>rfl
    | true=>exact absurd (ziz ha (h b (by simp)) (xh.1 q)) c
   rw [hb]
   exact ⟨λq=>r1 (by
    rcases Zaq.1 q with q | q
    .exact absurd q c
    .exact q),λq=>r2 λq2=>q (by simp [q2])⟩
theorem qdy {a:List Int} (ha:RB a) {ks:List (List Int)} (hks:∀ b∈ks,RB b) {h0 h:T Blk} {y:Pa} {L:List Ob} {k:Nat} {id:Pa} {op:AV->OP} (H:Hp h0 h y L) (hk:L[k]? = some (.map id (tC ks))):zpd .str (.bool false) false (.map id) (.str (rW (a,false))) h op=op (.bool (decide (a∈ks))):=by
 have own:T.get .no id h=.map _ _:=H.own _ (Zad hk);obtain ⟨r1,r2⟩:=ztn ha ks 0 hks;show ni (T.get .no id h) _ _=_;rw [own]
 show (match kQ .str (.str (rW (a,false))) (tC ks) with
    | some (some (_,v))=>op (bif false then .tup [v,.bool true] else v)
    | some none=>op (bif false then .tup [.bool false,.bool false] else .bool false)
    | none=>.no 20)=_
 rw [show kQ .str (.str (rW (a,false))) (tC ks)=xD .str (.str (rW (a,false))) (tC ks) 0 from rfl];by_cases c:a∈ks
 .obtain ⟨j,hj⟩:=r1 c;rw [hj,Zac c];rfl
 .rw [r2 c,Zab c];rfl
theorem Hp.qdz {a:List Int} (ha:RB a) {ks:List (List Int)} (hks:∀ b∈ks,RB b) (hna:a∉ks) {K:AV->T Blk->Pa->OP} {h0 h:T Blk} {g:Pa} {L:List Ob} {k:Nat} {id:Pa} (H:Hp h0 h g L) (hk:L[k]? = some (.map id (tC ks)))
  (hK:∀ h',Hp h0 h' g (L.set k (.map id (tC (ks++[a]))))->K .u h' g=.ok True):zja .str (.map id) (.str (rW (a,false))) (.bool true) h g K=.ok True:=by
 have own:T.get .no id h=.map _ _:=H.own _ (Zad hk);obtain ⟨_,r2⟩:=ztn ha ks 0 hks;show ni (T.get .no id h) _ _=_;rw [own]
 show (match kQ .str (.str (rW (a,false))) (tC ks) with
    | some (some (i,_))=>T.fq (β:=OP) Blk.no (Blk.map (tC ks).length ((tC ks).modify i λe=>(e.1,AV.bool true))) id h λh'=>K .u h' g
    | some none=>dw ((tC ks).length+1) λn=>T.fq (β:=OP) Blk.no (Blk.map n (tC ks++[(AV.str (rW (a,false)),AV.bool true)])) id h λh'=>K .u h' g
    | none=>Out.no 45)=_
 rw [show kQ .str (.str (rW (a,false))) (tC ks)=xD .str (.str (rW (a,false))) (tC ks) 0 from rfl,r2 hna];simp only [y4,T.jo];refine hK _ (H.upd hk (by simp [Ob.names]) rfl ?_);show T.get Blk.no id _=Blk.map _ _;rw [T.get_set_same];simp [tC]
theorem zoo {cells:Int} {lines:List (List Int)} {h0 h:T Blk} {y p:Pa} {L:List Ob} {K:Kw Prop} (H:Hp h0 h y L) (hn:lines.length<=1000000) (hnd:lines.Nodup) (hb:∀ l∈lines,RB l/\l.length<=1000)
  (hK:∀ gm b b1 h' y',Hp h0 h' y' (.arr b [.map gm]::.map gm (tC lines)::.arr b1 [I cells,uz lines]::L)->K (.fn 63 (.of 63) [.ptr b 0]) h' y'=.ok True):(CS Tryz.prog B).fn 30 p [.agg [I cells,uz lines]] h y K=.ok True:=by
 refine j7 (p:=.of 30) (K:=K) (zL zR wm 10000000 λhf => ?_) λ_ _ _ _ q=>q;rw [F30.go,F30.t20,zA,F30.zu];refine H.box (l:=[I cells,uz lines]) rfl λb1 h1 y1 H1 => ?_;rw [zA,F30.zo];refine H1.eX λgm h2 y2 H2 => ?_;refine H2.alloc λb3 h3 y3 H3 => ?_;refine H3.store (k:=0) rfl (by simp) rfl λh4 H4 => ?_;rw [zA,zA,F30.yt,sFx,H4.load (k:=2) (i:=0+1) rfl rfl,zS,zJ];refine F30.eU (λm x7 h' y'=>∃ i:Nat,x7=I i/\m=lines.length-i/\i<=lines.length/\Hp h0 h' y' (.arr b3 [.map gm]::.map gm (tC (lines.take i))::.arr b1 [I cells,uz lines]::L)) (m:=lines.length) (by omega) ⟨0,rfl,by omega,by omega,H4⟩ ?_;rintro m z4 z7 z8 h5 y5 R ⟨i,rfl,rfl,hi,H5⟩ hR;rw [F30.t12,zA,F30.vk,yu];by_cases hlt:i<lines.length
 case neg =>
  rw [Zab (by omega),zA,zB,F30.v8,zC,zY,yD,zA,F30.rU];simp only [zG,zQ];rw [F30.ret];rw [Zan (by omega)] at H5;exact hK gm b3 b1 _ _ H5
 have hx:lines[i]? = some lines[i]:=Zgu hlt;obtain ⟨hrb,hll⟩:=hb _ (Zas hlt);have hnew:lines[i]∉lines.take i:=λq=>by
  obtain ⟨j,hj⟩:=Zhk q;have hjl:=(Zgv.1 hj).1;rw [Zaj] at hjl;rw [Zhb (by omega)] at hj;have:=Zca.1 hnd j i (by omega) hlt (by omega);rw [Zgu (by omega)] at hj;exact this (Option.some.inj hj)
 have hld:∀ op:AV->OP,zH (.ptr b3 0) h5 op=op (.map gm):=λop=>H5.load (k:=0) (i:=0) rfl rfl;have ebd:∀ op:AV->OP,gV [.zb,.bool false] [(0,1,encI lines[i])] op=op (.agg [encI lines[i],.bool false]):=λop=>nr rfl;rw [Zac (by omega),zA,zB,F30.v8,zD,zE,zA,zJ,zA,F30.dz,xu rfl hlt,ldL (getT hx),F30.uj,hld,ebd];refine zr5 (a:=(lines[i],false)) hrb hll _ _ _ _ ?_;rintro _ rfl _;rw [hld,zF];refine H5.qdz hrb (λb hb'=>(hb b (Zbn hb')).1) hnew (k:=1) rfl λh6 H6 => ?_;rw [F30.rF,jg (by omega)];refine hR (lines.length-(i+1)) _ _ _ _ _ (by omega) ⟨i+1,rfl,rfl,by omega,?_⟩;have e:lines.take (i+1)=lines.take i++[lines[i]]:=by rw [Zar,hx];rfl
 rw [e];exact H6
def imL (p l:List Int):List Int:=l.map λx=>p.getD x.toNat 0
theorem zto (p l:List Int) (x:Int):imL p (l++[x])=imL p l++[p.getD x.toNat 0]:=by unfold imL;rw [Zbi];rfl
theorem qap {p l:List Int} (hp:RB p) (hl:∀ x∈l,0<=x/\x<(p.length:Int)):RB (imL p l):=λy hy=>by
 obtain ⟨x,hx,rfl⟩:=Zao.1 hy;obtain ⟨h1,h2⟩:=hl x hx;refine hp _ ?_;show p.getD x.toNat 0∈p;rw [Zaa,Zgu (by omega)];exact Zas _
theorem zwg {p l:List Int} {lines:List (List Int)} {h0 h:T Blk} {y p0 b gm:Pa} {L:List Ob} {K:Kw Prop} (H:Hp h0 h y (.arr b [.map gm]::.map gm (tC lines)::L)) (hp:RB p) (hl:∀ x∈l,0<=x/\x<(p.length:Int)) (hl1:1<=l.length) (hl2:l.length<=1000) (hks:∀ q∈lines,RB q)
  (hK:∀ h' y',Hp h0 h' y' (.arr b [.map gm]::.map gm (tC lines)::L)->K (.bool (decide (srt (imL p l)∈lines))) h' y'=.ok True):(CS Tryz.prog B).fn 63 p0 [encI p,encI l,.ptr b 0] h y K=.ok True:=by
 refine j7 (p:=.of 63) (K:=K) (zL zR wm 10000000 λhf => ?_) λ_ _ _ _ q=>q;rw [F63.go,F63.t22,zA,F63.zu,zA,F63.zo,zA,zA,F63.yt,zS,zJ];refine F63.eU (λm x4 x8 h' y'=>∃ (i:Nat) (o:Option Pa),x8=I i/\x4=uf o 1 i/\m=l.length-i/\i<=l.length/\Hp h0 h' y' (.gro o 1 i ((imL p (l.take i)).map I)::.arr b [.map gm]::.map gm (tC lines)::L)) (m:=l.length) (by omega) ⟨0,none,rfl,rfl,by omega,by omega,H.ax 1⟩ ?_;rintro m z4 z5 z8 z9 h5 y5 R ⟨i,o,rfl,rfl,rfl,hi,H5⟩ hR;rw [F63.t12,zA,F63.vk,yu];by_cases hlt:i<l.length
 case pos =>
  have hx:l[i]? = some l[i]:=Zgu hlt;obtain ⟨a1,a2⟩:=hl _ (Zas hlt);have hpx:p[l[i].toNat]? = some (p.getD l[i].toNat 0):=by rw [Zaa,Zgu (by omega)];rfl
  rw [Zac (by omega),zA,zB,F63.v9,zD,zE,zA,zJ,zA,F63.dz,xu rfl hlt,ldL (rH hx),F63.uj,xu (i:=l[i].toNat) (by omega) (by omega),ldL (rH hpx)];refine H5.qw (l:=[I (p.getD l[i].toNat 0)]) rfl λtb h15 y15 H15 => ?_;refine H15.appN (k:=1) (o:=o) (c:=1) (esz:=1) (new:=[I (p.getD l[i].toNat 0)]) rfl (jr.rd (l:=[I (p.getD l[i].toNat 0)]) (n:=1) (e:=1) (H15.own _ (Zai ..)) rfl) rfl rfl (by decide) (by decide) (by omega) λo'' h16 y16 _ H16 => ?_;rw [F63.rF,jg (by omega)];refine hR (l.length-(i+1)) _ _ _ _ _ _ (by omega) ⟨i+1,o'',rfl,rfl,rfl,by omega,?_⟩;have e:(imL p (l.take (i+1))).map I=(imL p (l.take i)).map I++[I (p.getD l[i].toNat 0)]:=by
   rw [Zar,hx];show (imL p (l.take i++[l[i]])).map I=_;rw [zto,Zbi];rfl
  rw [e];exact H16.drop
 obtain rfl:i=l.length:=by omega
 rw [Zan (Zaf _)] at H5;obtain ⟨id,rfl⟩:∃ id,o=some id:=by
  cases o with
  | some id=>exact ⟨id,rfl⟩
  | none=>obtain ⟨h1,h2⟩:=H5.own _ (Zai ..);omega
 rw [Zab (by omega),zA,zB,F63.v9,zC,zY,yD,zA,F63.rU];refine zwf H5 (k:=0) rfl (by omega) λh6 H6 => ?_;have hsl:(srt (imL p l)).length=l.length:=by rw [(qG _).length_eq];exact Zae _
 have hrb:RB (srt (imL p l)):=λx hx=>qap hp hl x ((qG _).mem_iff.1 hx);have ebd:∀ op:AV->OP,gV [.zb,.bool false] [(0,1,uf (some id) 1 l.length)] op=op (.agg [uf (some id) 1 l.length,.bool false]):=λop=>nr rfl;rw [zA,F63.rG,H6.load (k:=1) (i:=0) rfl rfl,ebd];obtain ⟨h7,hkp,H7,hfz⟩:=Hp.zj6 (o:=some id) (e:=1) (n:=l.length) (l:=(srt (imL p l)).map I) H6 λv hv=>by obtain ⟨a,_,rfl⟩:=Zao.1 hv;rfl
 have hfz2:FrzL h7 h6 [.agg [uf (some id) 1 l.length,.bool false]] [encS (srt (imL p l),false)]:=by
  have e:AV.lst 1 l.length ((srt (imL p l)).map I)=encI (srt (imL p l)):=by rw [<- hsl]
  rw [e] at hfz;exact .cons (zr3 hfz (zK rfl) rfl) .nil
 refine fB hkp hfz2 (zr5 (a:=(srt (imL p l),false)) hrb (show (srt (imL p l)).length<=1000 by omega) _ _ _ _ ?_);rintro _ rfl _;have hld:∀ op:AV->OP,zH (.ptr b 0) h7 op=op (.map gm):=λop=>H7.load (k:=0) (i:=0) rfl rfl;rw [hld,zF,qdy hrb hks H7 (k:=1) rfl];simp only [zG,zQ];rw [F63.ret];exact hK _ _ H7
abbrev farL (x:Int):Bool:=decide (x < -999999999)||decide (999999999<x)
theorem zk6 {f:List Int} (hl:f.length<=100000):Pure Tryz.prog B 66 [encI f] (· = I (if f.any farL then 3 else 0)):=by
 intro p h y K hK;refine zL zR wm 1000 λhf => ?_;rw [F66.go];refine zlv (by omega) _ _ _ _ ?_;rintro _ rfl _;exact hK _ rfl hf
def uQ (l f:List Int):Int:=l.foldl (λs c=>s+f.getD c.toNat 0) 0
structure zcr (l f:List Int):Prop where
 len:l.length<=1000
 rng:∀ c∈l,0<=c/\c<(f.length:Int)
 bd:∀ x∈f, -1000000000<=x/\x<=1000000000
theorem zcr.get {l f:List Int} (h:zcr l f) {c:Int} (hc:c∈l):f[c.toNat]? = some (f.getD c.toNat 0) /\ -1000000000<=f.getD c.toNat 0/\f.getD c.toNat 0<=1000000000:=by
 have:=h.rng c hc;have hx:f[c.toNat]? = some (f.getD c.toNat 0):=by rw [Zaa,Zgu (by omega)];rfl
 exact ⟨hx,h.bd _ (Zad hx)⟩
theorem zcs {l f:List Int} {i:Nat} (h:i<l.length):uQ (l.take (i+1)) f=uQ (l.take i) f+f.getD l[i].toNat 0:=by
 rw [uQ,Zar,Zgu h,Zgs];rfl
theorem zi0 {l f:List Int} (h:zcr l f):∀ i,i<=l.length -> -(1000000000*(i:Int))<=uQ (l.take i) f/\uQ (l.take i) f<=1000000000*(i:Int)
 | 0,_=>by simp [uQ]
 | i+1,hi=>by
  have ih:=zi0 h i (by omega);have:=(h.get (Zas (show i<l.length by omega))).2;rw [zcs (by omega)];omega
theorem qaq {l f:List Int} (h0:zcr l f):Pure Tryz.prog B 124 [encI l,encI f] (· = I (uQ l f)):=by
 intro p h y K hK;have hl:=h0.len;refine zL zR wm 10000 λhf => ?_;rw [bf.go];simp only [zS];refine bf.L1 (λm x3 x7 h' y'=>∃ i:Nat,x7=I i/\x3=I (uQ (l.take i) f)/\l.length-i=m/\i<=l.length/\h'=h/\y'=y) (m:=l.length) (by omega) ⟨0,rfl,rfl,rfl,by omega,rfl,rfl⟩ ?_;rintro m z3 z4 z7 z8 h y R ⟨i,rfl,rfl,rfl,hi,rfl,rfl⟩ hR;simp only [yu];by_cases hlt:i<l.length
 case neg =>
  simp only [show ¬ (i:Int)<(l.length:Int) by omega,decide_false,zC];rw [bf.k8,Zan (by omega)];exact hK _ rfl hf
 simp only [show (i:Int)<(l.length:Int) by omega,decide_true,zD];have hx:l[i]? = some l[i]:=Zgu hlt;have hr:=h0.rng _ (Zas hlt);obtain ⟨hg,hb⟩:=h0.get (Zas hlt);have hbd:=zi0 h0 i (by omega);rw [xu rfl hlt,ldL (rH hx),xu (i:=l[i].toNat) (by omega) (by omega),ldL (rH hg),jg (by omega),jg (by omega)];exact hR _ _ _ _ _ _ _ (by omega) ⟨i+1,rfl,by rw [zcs hlt],rfl,by omega,rfl,rfl⟩
def wG (lines:List (List Int)) (f:List Int):List Int:=lines.map λl=>uQ l f
theorem zct {lines:List (List Int)} {f:List Int} {i:Nat} (h:i<lines.length):wG (lines.take (i+1)) f=wG (lines.take i) f++[uQ lines[i] f]:=by
 rw [wG,Zar,Zgu h,Zbi];rfl
theorem zem (lines:List (List Int)) (f:List Int):(wG lines f).length=lines.length:=by simp [wG]
theorem zwh {cells:Int} {lines:List (List Int)} {f:List Int} (hn:lines.length<=1000) (h0:∀ l∈lines,zcr l f):Pure Tryz.prog B 67 [.agg [I cells,uz lines],encI f] (· = encI (wG lines f)):=by
 refine zV λh y K H0 hK=>zL zR wm 10000 λhf => ?_;rw [F67.go];refine H0.box (l:=[I cells,uz lines]) rfl λbx h1 y1 H1 => ?_;rw [sFx,H1.load (k:=0) (i:=0+1) rfl rfl];simp only [zS];refine F67.L1 (λm x4 x8 h' y'=>∃ (i:Nat) (o:Option Pa),x8=I i/\x4=uf o 1 (wG (lines.take i) f).length/\lines.length-i=m/\i<=lines.length/\Hp h h' y' [.gro o 1 (wG (lines.take i) f).length ((wG (lines.take i) f).map I),.arr bx [I cells,uz lines]]) (m:=lines.length) (by omega) ⟨0,none,rfl,rfl,rfl,by omega,H1.ax 1⟩ ?_;rintro m z4 z5 z8 z9 h2 y2 R ⟨i,o,rfl,rfl,rfl,hi,H2⟩ hR;simp only [yu];by_cases hlt:i<lines.length
 case neg =>
  simp only [show ¬ (i:Int)<(lines.length:Int) by omega,decide_false,zC];rw [Zan (by omega)] at H2 ⊢;rw [F67.k8];exact hK _ _ _ _ _ H2 (H2.zbo (k:=0) rfl λv hv=>by obtain ⟨x,_,rfl⟩:=Zao.1 hv;rfl) rfl
 simp only [show (i:Int)<(lines.length:Int) by omega,decide_true,zD];have hx:lines[i]? = some lines[i]:=Zgu hlt;have hlen:(wG (lines.take i) f).length=i:=by rw [zem,Zaj];omega
 rw [xu rfl hlt,ldL (getT hx)];refine qaq (h0 _ (Zas hlt)) _ _ _ _ ?_;rintro _ rfl _;refine H2.qw (l:=[I (uQ lines[i] f)]) rfl λtb h4 y4 H4 => ?_;refine H4.appN (k:=1) (o:=o) (c:=1) (new:=[I (uQ lines[i] f)]) rfl (jr.rd (l:=[I (uQ lines[i] f)]) (n:=1) (H4.own _ (Zai ..)) rfl) rfl rfl (by decide) (by decide) (by omega) λo' h5 y5 _ H5 => ?_;rw [jg (by omega)];refine hR _ _ _ _ _ _ _ (by omega) ⟨i+1,o',rfl,by rw [zct hlt,Zag];rfl,rfl,by omega,?_⟩;rw [zct hlt,Zag,Zbi];exact H5.drop
def xO (cells:Int) (lines:List (List Int)) (f:List Int):Int:=if yS cells lines≠0 then yS cells lines else if (f.length:Int)≠cells then 2 else if f.any farL then 3 else 0
theorem zwi {cells:Int} {lines:List (List Int)} {f:List Int} (hw:∀ q∈lines,q.length<=1000000) (hl:f.length<=100000):Pure Tryz.prog B 35 [.agg [I cells,uz lines],encI f] (· = I (xO cells lines f)):=by
 refine zV λh y K H0 hK=>zL zR wm 1000 λhf => ?_;rw [F35.go];refine H0.box (l:=[I cells,uz lines]) rfl λbx h1 y1 H1 => ?_;rw [H1.zi (k:=0) (n:=2) rfl rfl];simp only [zS];rw [sFx,H1.load (k:=0) (i:=0+0) rfl rfl];simp only [qj];refine zru hw _ _ _ _ ?_;rintro _ rfl _;simp only [zF];rw [H1.load (k:=0) (i:=0+0) rfl rfl];simp only [zF];rw [sFx];simp only [zF];refine pI _ _ _ _ _ _ ?_;rintro _ rfl _;refine zk6 hl _ _ _ _ ?_;rintro _ rfl _;refine H1.qw (l:=[I (yS cells lines),I (if (!decide ((f.length:Int)=cells))=true then 2 else 0),I (if f.any farL=true then 3 else 0)]) rfl λtb h2 y2 H2 => ?_;refine q8 (l:=[yS cells lines,if (!decide ((f.length:Int)=cells))=true then 2 else 0,if f.any farL=true then 3 else 0]) H2 (k:=0) rfl (λB=>zbx (by simp)) (λv hv=>by rw [hv];exact .int _ _) ?_;rintro _ rfl;have e:uT [yS cells lines,if (!decide ((f.length:Int)=cells))=true then 2 else 0,if f.any farL=true then 3 else 0]=xO cells lines f:=by
  simp only [uT,xO];by_cases c1:yS cells lines=0
  .by_cases c2:(f.length:Int)=cells
   .by_cases c3:f.any farL=true
    .simp [c1,c2,c3]
    .simp [c1,c2,c3]
   .simp [c1,c2]
  .simp [c1]
 rw [e];exact hK _ _ _ _ _ H2 (zK rfl) rfl
theorem qar {cells:Int} {lines:List (List Int)} {f:List Int} (h:xO cells lines f=0):yS cells lines=0/\lines.length<=128/\f.length<=256/\∀ l∈lines,l.length<=1000->zcr l f:=by
 rw [xO] at h;by_cases c1:yS cells lines=0
 case neg=>rw [if_pos c1] at h;exact absurd h c1
 rw [if_neg (λq=>q c1)] at h;by_cases c2:(f.length:Int)=cells
 case neg=>rw [if_pos c2] at h;cases h
 rw [if_neg (λq=>q c2)] at h;have c3:f.any farL=false:=by cases q:f.any farL with
  | false=>rfl
  | true=>rw [q] at h;cases h
 obtain ⟨n,rfl,n1,n2,n3,n4⟩:=zkl c1;refine ⟨c1,n3,by omega,λl hl hlen=>⟨hlen,λc hc => ?_,λx hx => ?_⟩⟩
 .have:=(n4 l hl).2.2 c hc;omega
 .have:=Zdy.1 c3 x hx;simp at this;omega
def difA (a:Int):List Int->Nat->Int
 | [],_ => -1
 | x::t,i=>if x=a then difA a t (i+1) else (i:Int)
def fR (S:List Int):Int:=difA (S.getD 0 0) S 0
theorem zop {a:Int} {S:List Int} {i k:Nat} (h:i<S.length):difA a (S.drop i) k=if S[i]=a then difA a (S.drop (i+1)) (k+1) else (k:Int):=by
 rw [Zav h];rfl
theorem ztp {h0 h:T Blk} {y p bx:Pa} {L:List Ob} {k:Nat} {S:List Int} {K:Kw Prop} {v:AV} (hl:S.length<=100000) (H:Hp h0 h y L) (hk:L[k]? = some (.arr bx [encI S]))
  (hK:K (I (fR S)) h y=.ok True):(CS Tryz.prog B).fn 65 p [encI S,.fn 68 (.of 68) [.ptr bx 0]] h y K=.ok True:=by
 refine j7 (p:=.of 65) (K:=K) (zL zR wm 1000000 λhf => ?_) λ_ _ _ _ q=>q;rw [F65.go];simp only [zS];refine F65.L1 (λm z5 h' y'=>∃ i:Nat,z5=I i/\S.length-i=m/\i<=S.length/\h'=h/\y'=y/\fR S=difA (S.getD 0 0) (S.drop i) i) (m:=S.length) (by omega) ⟨0,rfl,rfl,by omega,rfl,rfl,rfl⟩ ?_;rintro m z2 z3 z5 z6 z7 h y R ⟨i,rfl,rfl,hi,rfl,rfl,he⟩ hR;simp only [yu];by_cases hlt:i<S.length
 case neg =>
  simp only [show ¬ (i:Int)<(S.length:Int) by omega,decide_false,zC];rw [F65.k8];rw [he,Zbg (by omega)] at hK;exact hK
 simp only [show (i:Int)<(S.length:Int) by omega,decide_true,zD];have hx:S[i]? = some S[i]:=Zgu hlt;have hy:S[0]? = some (S.getD 0 0):=by rw [Zaa,Zgu (by omega)];rfl
 rw [zop hlt] at he;rw [xu rfl hlt,ldL (rH hx),m5];refine j7 (p:=.of 68) (zL zR wm 9 λ_ => ?_) λ_ _ _ _ q=>q;show zO tbl 9 _ (Pa.of 68) [I S[i],.ptr bx 0] _ _ _=_;rw [F68.go,H.load (k:=k) (i:=0) hk rfl,xu (i:=0) (show (0:Int)=((0:Nat):Int) from rfl) (by omega),ldL (rH hy)];simp only [qj];by_cases c:S[i]=S.getD 0 0
 .rw [if_pos c] at he;simp only [c,decide_true,Zah,zC];rw [jg (by omega)];exact hR _ _ _ _ _ _ _ _ (by omega) ⟨i+1,rfl,rfl,by omega,rfl,rfl,he⟩
 .rw [if_neg c] at he;simp only [c,decide_false,Zal,zD];rw [he] at hK;exact hK
theorem zoq {cells:Int} {lines:List (List Int)} {f:List Int} (hn:lines.length<=1000) (h0:∀ l∈lines,zcr l f):Pure Tryz.prog B 36 [.agg [I cells,uz lines],encI f] (· = I (fR (wG lines f))):=by
 refine zV λh y K H0 hK=>zL zR wm 1000 λhf => ?_;rw [F36.go];refine H0.box (l:=[I cells,uz lines]) rfl λbx h1 y1 H1 => ?_;rw [H1.zi (k:=0) (n:=2) rfl rfl];refine zwh hn h0 _ _ _ _ ?_;rintro _ rfl _;refine H1.alloc λb8 h2 y2 H2 => ?_;refine H2.store (k:=0) rfl (by simp) rfl λh3 H3 => ?_;rw [H3.load (k:=0) (i:=0) rfl rfl];have hlen:=zem lines f;refine ztp (v:=.zb) (by omega) H3 (k:=0) rfl ?_;exact hK _ _ _ _ _ H3 (zK rfl) rfl
section
variable {cells:Int} {lines:List (List Int)} {f:List Int}
theorem zmw (hw:∀ q∈lines,q.length<=1000) (hl:f.length<=100000):Pure Tryz.prog B 10 [.agg [I cells,uz lines],encI f] (· = if xO cells lines f≠0 then .tup [.bool false,I (xO cells lines f)] else .tup [.bool (decide (fR (wG lines f)<0)),I 0]):=by
 refine zV λh y K H0 hK=>zL zR wm 1000 λhf => ?_;rw [F10.go];refine H0.box (l:=[I cells,uz lines]) rfl λbx h1 y1 H1 => ?_;rw [H1.zi (k:=0) (n:=2) rfl rfl];refine zwi (λq hq=>by have:=hw q hq;omega) hl _ _ _ _ ?_;rintro _ rfl _;simp only [qj];by_cases c:xO cells lines f=0
 .rw [if_neg (λq=>q c)] at hK;obtain ⟨_,n1,n2,n3⟩:=qar c;simp only [c,decide_true,Zah,zC];rw [H1.zi (k:=0) (n:=2) rfl rfl];refine zoq (by omega) (λl hl=>n3 l hl (hw l hl)) _ _ _ _ ?_;rintro _ rfl _;simp only [yu];exact hK _ _ _ _ _ H1 (jI (zK rfl) (zK rfl)) rfl
 .rw [if_pos c] at hK;simp only [c,decide_false,Zal,zD];exact hK _ _ _ _ _ H1 (jI (zK rfl) (zK rfl)) rfl
end
end Go.Ev
namespace Go.Ev
open Go Go.Proofs
def Cst (L:List (List Int)) (f:List Int):Prop:=∀ l∈L,∀ l'∈L,uQ l f=uQ l' f
theorem zi1 {a:Int}:∀ {S:List Int} {k:Nat},difA a S k<0↔∀ s∈S,s=a
 | [],k=>by simp [difA]
 | x::S,k=>by
  by_cases c:x=a
  .rw [difA,if_pos c,zi1 (S:=S)];simp [c]
  .rw [difA,if_neg c];constructor
   .intro h;omega
   .intro h;exact absurd (h x (by simp)) c
theorem zi2 {L:List (List Int)} {f:List Int}:fR (wG L f)<0↔Cst L f:=by
 rw [fR,zi1];constructor
 .intro h l hl l' hl';have h1:=h (uQ l f) (Zgh hl);have h2:=h (uQ l' f) (Zgh hl');rw [h1,h2]
 .intro h s hs;obtain ⟨l,hl,rfl⟩:=Zao.1 hs;cases L with
  | nil=>simp at hl
  | cons a L=>exact h l hl a (by simp)
theorem fJ (f:List Int):∀ (l:List Int) (a:Int),l.foldl (λs c=>s+f.getD c.toNat 0) a=a+(l.map λc=>f.getD c.toNat 0).sum
 | [],a=>by simp
 | c::l,a=>by rw [Zco,fJ f l];simp;omega
theorem zen (l f:List Int):uQ l f=(l.map λc=>f.getD c.toNat 0).sum:=by rw [uQ,fJ];omega
theorem zk7 {l l' f:List Int} (h:l.Perm l'):uQ l f=uQ l' f:=by
 unfold uQ;exact h.foldl_eq' (λx _ y _ z=>by omega) 0
def pvN (p:List Int) (c:Nat):Nat:=(p.getD c 0).toNat
theorem fG {n:Nat} {p:List Int} (hp:cu p) (hpl:p.length=n) {c:Nat} (hc:c<n):pvN p c<n/\p.getD c 0=(pvN p c:Int)/\p.idxOf (pvN p c:Int)=c:=by
 have hx:p[c]? = some (p.getD c 0):=by rw [Zaa,Zgu (by omega)];rfl
 have hm:=Zad hx;have h1:=hp.2 _ hm;have e:p.getD c 0=(pvN p c:Int):=by unfold pvN;omega
 refine ⟨by unfold pvN;omega,e,?_⟩;rw [<- e];have hi:p.idxOf (p.getD c 0)<p.length:=List.idxOf_lt_length_of_mem hm;have hy:p[p.idxOf (p.getD c 0)]? = some (p.getD c 0):=by rw [Zgu hi,List.getElem_idxOf]
 exact (List.getElem?_inj hi hp.1).1 (hy.trans hx.symm)
theorem zi3 {n:Nat} {p:List Int} (hp:cu p) (hpl:p.length=n) {j:Nat} (hj:j<n):p.idxOf (j:Int)<n/\pvN p (p.idxOf (j:Int))=j:=by
 obtain ⟨i,hi,he⟩:=hp.surj (j:=j) (by omega);have hm:=Zad he;have hl:p.idxOf (j:Int)<p.length:=List.idxOf_lt_length_of_mem hm;refine ⟨by omega,?_⟩;unfold pvN;rw [Zaa,Zgu hl,List.getElem_idxOf];rfl
theorem zi4 {n:Nat} {p l:List Int} (hp:cu p) (hpl:p.length=n) (hl:∀ x∈l,0<=x/\x<(n:Int)):(imL p l).map (λy=>((p.idxOf y:Nat):Int))=l:=by
 unfold imL;rw [Zfe]
 conv=>rhs;rw [<- List.map_id l]
 refine Zdg λx hx => ?_;have h1:=hl x hx;obtain ⟨_,e1,e2⟩:=fG hp hpl (c:=x.toNat) (by omega);show ((p.idxOf (p.getD x.toNat 0):Nat):Int)=x;rw [e1,e2];omega
theorem pW {n:Nat} {lines:List (List Int)} {p:List Int} (hp:cu p) (hpl:p.length=n) (hnd:lines.Nodup) (hl:∀ l∈lines,AscL n l) (hk:∀ l∈lines,srt (imL p l)∈lines):∀ m∈lines,∃ l∈lines,srt (imL p l)=m:=by
 have inj:∀ l∈lines,∀ l'∈lines,srt (imL p l)=srt (imL p l')->l=l':=λl h1 l' h2 e=>by
  have e1:(imL p l).Perm (imL p l'):=(qG _).symm.trans (e ▸ qG _);have e2:=e1.map λy=>((p.idxOf y:Nat):Int);rw [zi4 hp hpl (hl l h1).2.2,zi4 hp hpl (hl l' h2).2.2] at e2;exact e2.eq_of_pairwise (le:=(· < ·)) (λa b _ _ h3 h4=>by omega) (hl l h1).2.1 (hl l' h2).2.1
 have hnd2:(lines.map λl=>srt (imL p l)).Nodup:=Zdz.2 (List.Pairwise.imp_of_mem (λ{x y} hx hy hne e=>hne (inj x hx y hy e)) hnd)
 have hpm:=qU (l:=lines.map λl=>srt (imL p l)) (r:=lines) hnd2 (λm hm=>by
  obtain ⟨l,h1,rfl⟩:=Zao.1 hm;exact hk l h1) (by simp)
 exact λm hm=>Zao.1 (hpm.mem_iff.1 hm)
theorem ztq {n:Nat} {p l f g:List Int} (hp:cu p) (hpl:p.length=n) (hl:∀ x∈l,0<=x/\x<(n:Int)) (hg:∀ c,c<n->g.getD (pvN p c) 0=f.getD c 0):uQ (srt (imL p l)) g=uQ l f:=by
 rw [zk7 (qG _),zen,zen,imL,Zfe];refine congrArg List.sum (Zdg λx hx => ?_);have h1:=hl x hx;exact hg x.toNat (by omega)
theorem zwj {n:Nat} {lines:List (List Int)} {p f g:List Int} (hp:cu p) (hpl:p.length=n) (hnd:lines.Nodup) (hl:∀ l∈lines,AscL n l) (hk:∀ l∈lines,srt (imL p l)∈lines) (hg:∀ c,c<n->g.getD (pvN p c) 0=f.getD c 0):Cst lines g↔Cst lines f:=by
 have hm:=λl (h:l∈lines)=>ztq hp hpl (hl l h).2.2 hg;constructor
 .intro h l h1 l' h2;rw [<- hm l h1,<- hm l' h2];exact h _ (hk l h1) _ (hk l' h2)
 .intro h l h1 l' h2;obtain ⟨m,m1,rfl⟩:=pW hp hpl hnd hl hk l h1;obtain ⟨m',m2,rfl⟩:=pW hp hpl hnd hl hk l' h2;rw [hm m m1,hm m' m2];exact h _ m1 _ m2
def sS (n:Nat) (p:List Int) (v:List Rat):List Rat:=(List.range n).map λj:Nat=>at' v (p.idxOf (j:Int))
theorem kC (n:Nat) (p:List Int) (v:List Rat):(sS n p v).length=n:=by rw [sS,Zae,Zdf]
theorem zgd {n:Nat} {p:List Int} {v:List Rat} {j:Nat} (hj:j<n):at' (sS n p v) j=at' v (p.idxOf (j:Int)):=by
 rw [at',Zaa,sS,Zgw,Zhr hj];rfl
theorem ztr {n:Nat} {p:List Int} (hp:cu p) (hpl:p.length=n) {v:List Rat} {c:Nat} (hc:c<n):at' (sS n p v) (pvN p c)=at' v c:=by
 obtain ⟨h1,_,h3⟩:=fG hp hpl hc;rw [zgd h1,h3]
theorem zts {n:Nat} {l:List Int} {b:List Rat} (hb:b.length=n) (hl:AscL n l):dot (sD n l) b=l.foldl (λs c=>s+at' b c.toNat) 0:=by
 have:=zmp hb hl l.length (Zaf _);rw [Zcs] at this;rw [<- this,conQ,Zcs]
theorem zwk {n:Nat} {p l:List Int} {v:List Rat} (hp:cu p) (hpl:p.length=n) (hv:v.length=n) (hl:AscL n l) (hm:AscL n (srt (imL p l))):dot (sD n (srt (imL p l))) (sS n p v)=dot (sD n l) v:=by
 rw [zts (kC ..) hm,zts hv hl,(qG (imL p l)).foldl_eq' (λx _ y _ z=>by grind),imL,List.foldl_map];have key:∀ (l:List Int) (s:Rat),(∀ x∈l,0<=x/\x<(n:Int))->l.foldl (λs c=>s+at' (sS n p v) (p.getD c.toNat 0).toNat) s=l.foldl (λs c=>s+at' v c.toNat) s:=by
  intro l
  induction l with
  | nil=>intro s _;rfl
  | cons x l ih =>
   intro s h;have h1:=h x (by simp);have e:=ztr hp hpl (v:=v) (c:=x.toNat) (by omega);rw [Zco,Zco,ih _ λy hy=>h y (by simp [hy])];show l.foldl _ (s+at' (sS n p v) (pvN p x.toNat))=_;rw [e]
 exact key l 0 hl.2.2
theorem zmx {n:Nat} {lines:List (List Int)} {p:List Int} {v:List Rat} (hp:cu p) (hpl:p.length=n) (hnd:lines.Nodup) (hl:∀ l∈lines,AscL n l) (hk:∀ l∈lines,srt (imL p l)∈lines) (hv:v.length=n):Mgf n lines (sS n p v)↔Mgf n lines v:=by
 have hm:=λl (h:l∈lines)=>zwk (v:=v) hp hpl hv (hl l h) (hl _ (hk l h));have h0:∀ l∈lines,lines.getD 0 []∈lines:=λl h=>yI (by have:=List.length_pos_of_mem h;omega);constructor
 .rintro ⟨_,h⟩;refine ⟨hv,λl h1 => ?_⟩;rw [<- hm l h1,<- hm _ (h0 l h1),h _ (hk l h1),h _ (hk _ (h0 l h1))]
 .rintro ⟨_,h⟩;refine ⟨kC ..,λl h1 => ?_⟩;obtain ⟨m,m1,e1⟩:=pW hp hpl hnd hl hk l h1;obtain ⟨m',m2,e2⟩:=pW hp hpl hnd hl hk _ (h0 l h1);rw [<- e2,<- e1,hm m m1,hm m' m2,h _ m1,h _ m2]
theorem Rr.sum {n:Nat} {V:List Rat->Prop} {R:List (List Rat)} {q:List Nat} (hV:∀ (b:Rat) (x y:List Rat),x.length=n->y.length=n->V x->V y->V (jZ b x y)) (h:Rr n V R q) {u:List Rat} (hu:u.length=n) (huV:V u) (c:Nat):at' u c=sR q.length λa=>at' u (q.getD a 0)*at' (R.getD a []) c:=by
 obtain ⟨u1,u2,u3⟩:=zco hV h hu huV q.length (Zaf _)
 have z:=h.none _ u1 u2 (λb hb=>by
  rw [u3,qR (i:=b) (x:=λa=>at' u (q.getD a 0)) (λa ha => ?_),if_pos hb]
  .grind
  .rw [h.one a b ha hb];by_cases e:a=b
   .rw [if_pos e,if_pos e.symm];grind
   .rw [if_neg e,if_neg (Ne.symm e)];grind) c
 rw [u3] at z
 grind
theorem qd0 {n:Nat} {lines:List (List Int)} {p:List Int} {E R:List (List Rat)} {P q:List Nat} (hp:cu p) (hpl:p.length=n) (hnd:lines.Nodup) (hl:∀ l∈lines,AscL n l) (hk:∀ l∈lines,srt (imL p l)∈lines) (hR:Rr n (aA (ow n lines)) R q) (hE:∀ v:List Rat,v.length=n->(aA E v↔aA (ow n lines) v)) (hc:q.length+P.length=n):Kb n E P (R.map (sS n p)) (q.map (pvN p)):=by
 have hrl:=hR.len;have qn:∀ b,b<q.length->q.getD b 0<n:=λb hb=>hR.rng _ (yI hb);have Kget:∀ b,b<q.length->(R.map (sS n p)).getD b []=sS n p (R.getD b []):=λb hb=>by
  rw [Zaa,Zgw,uA (l:=R) (i:=b) (d:=[]) (by omega)];rfl
 have Zget:∀ b,b<q.length->(q.map (pvN p)).getD b 0=pvN p (q.getD b 0):=λb hb=>by
  rw [Zaa,Zgw,uA (l:=q) (i:=b) (d:=0) hb];rfl
 have rowR:∀ b,b<q.length->(R.getD b []).length=n/\aA (ow n lines) (R.getD b []):=λb hb=>hR.row _ (yI (by omega));refine ⟨by rw [Zae,Zae,hrl],by rw [Zae];exact hc,λl hm => ?_,λz hz => ?_,?_,λb b' hb hb' => ?_,λb hb => ?_,λv g hv hg hkv => ?_⟩
 .obtain ⟨r,_,rfl⟩:=Zao.1 hm;exact kC ..
 .obtain ⟨x,hx,rfl⟩:=Zao.1 hz;exact (fG hp hpl (hR.rng x hx)).1
 .refine Zdz.2 (List.Pairwise.imp_of_mem (λ{x y} hx hy hne e=>hne ?_) (dG hR.asc));have e1:=(fG hp hpl (hR.rng x hx)).2.2;have e2:=(fG hp hpl (hR.rng y hy)).2.2;rw [<- e1,<- e2,e]
 .rw [Zae] at hb hb';rw [Kget b hb,Zget b' hb',ztr hp hpl (qn b' hb'),hR.one b b' hb hb']
 .rw [Zae] at hb;obtain ⟨r1,r2⟩:=rowR b hb;rw [Kget b hb];exact (hE _ (kC ..)).2 ((pV (kC ..)).2 ((zmx hp hpl hnd hl hk r1).2 ((pV r1).1 r2)))
 .obtain ⟨u,hu⟩:∃ u:List Rat,u=(List.range n).map λc=>at' v (pvN p c):=⟨_,rfl⟩;have hul:u.length=n:=by rw [hu,Zae,Zdf]
  have hua:∀ c,c<n->at' u c=at' v (pvN p c):=λc hc=>by
   rw [at',Zaa,hu,Zgw,Zhr hc];rfl
  have hmu:sS n p u=v:=by
   refine Zef (by rw [kC,hv]) λj j1 j2 => ?_;rw [kC] at j1;obtain ⟨i1,i2⟩:=zi3 hp hpl j1;have e:=zgd (p:=p) (v:=u) j1;rw [hua _ i1,i2] at e;have a1:at' (sS n p u) j=(sS n p u)[j]:=by rw [at',Zaa,Zgu (by rw [kC];exact j1)];rfl
   have a2:at' v j=v[j]:=by rw [at',Zaa,Zgu j2];rfl
   rw [<- a1,<- a2,e]
  have huV:aA (ow n lines) u:=(pV hul).2 ((zmx hp hpl hnd hl hk hul).1 (by rw [hmu];exact (pV hv).1 ((hE v hv).1 hkv)));have hsum:=λc=>hR.sum cW hul huV c;rw [Zae,nA hv hg];have e1:(sR n λj=>at' v j*at' g j)=sR n λj=>sR q.length λa=>at' v (pvN p (q.getD a 0))*(at' (sS n p (R.getD a [])) j*at' g j):=jF λj hj=>by
   obtain ⟨i1,i2⟩:=zi3 hp hpl hj;have e2:at' v j=at' u (p.idxOf (j:Int)):=by rw [hua _ i1,i2]
   rw [e2,hsum,Zfj,<- vR];refine jF λa ha => ?_;rw [hua _ (qn a ha),zgd hj]
   grind
  rw [e1,zgc];refine jF λa ha => ?_;rw [Kget a ha,Zget a ha,nA (kC ..) hg,<- vR]
end Go.Ev
namespace Go.Ev
open Go Go.Proofs
variable {B:Nat}
set_option maxRecDepth 100000
abbrev rvS (w:Nat) (r:Pa):AV:=.sl r 0 w (some w) 1
def mG (n:Nat) (p:List Int) (v:List Rat):Nat->List AV
 | 0=>List.replicate n (.str [])
 | k+1=>(mG n p v k).set (pvN p k) (T9 (at' v k))
theorem p6 (n:Nat) (p:List Int) (v:List Rat):∀ k,(mG n p v k).length=n
 | 0=>Zaz
 | k+1=>by rw [mG,Zat,p6 n p v k]
theorem zeo {n:Nat} {p:List Int} {v:List Rat} (hp:cu p) (hpl:p.length=n) {j:Nat} (hj:j<n):∀ k,k<=n->(mG n p v k)[j]? = some (if p.idxOf (j:Int)<k then T9 (at' v (p.idxOf (j:Int))) else .str [])
 | 0,_=>by rw [mG,Zhn,if_pos hj,if_neg (by omega)]
 | k+1,hk=>by
  obtain ⟨i1,i2⟩:=zi3 hp hpl hj;obtain ⟨_,_,p3⟩:=fG hp hpl (c:=k) (by omega);rw [mG];by_cases e:pvN p k=j
  .subst e;rw [p3,Zhc (by rw [p6];exact hj),if_pos (by omega)]
  .rw [Zhf e,zeo hp hpl hj k (by omega)];have hne:p.idxOf (j:Int)≠k:=λq=>e (by rw [<- q,i2]);by_cases q:p.idxOf (j:Int)<k
   .rw [if_pos q,if_pos (by omega)]
   .rw [if_neg q,if_neg (by omega)]
theorem zk8 {n:Nat} {p:List Int} {v:List Rat} (hp:cu p) (hpl:p.length=n):mG n p v n=(sS n p v).map T9:=by
 refine Zbp λj => ?_;by_cases hj:j<n
 .obtain ⟨i1,_⟩:=zi3 hp hpl hj;rw [zeo hp hpl hj n (Zaf _),if_pos i1,Zgw,uU (by rw [kC];exact hj),zgd hj];rfl
 .rw [Zgz (by rw [p6];omega),Zgz (by rw [Zae,kC];omega)]
theorem zwl {h0 h:T Blk} {y:Pa} {L:List Ob} {o:Option Pa} {rs:List Pa} {w:Nat} {M:List (List Rat)} (hl:rs.length=M.length) (hw:∀ l∈M,l.length=w) (H:Hp h0 h y (.gro o 1 rs.length (rs.map (rvS w))::(jY rs M++L))):∃ h',u7 h' h/\Hp h0 h' y L/\sj h' h (uf o 1 rs.length) (gS M):=by
 by_cases h00:rs.length=0
 .obtain rfl:rs=[]:=Zei.1 h00;obtain rfl:M=[]:=Zei.1 (by rw [<- hl];rfl);obtain ⟨h',k1,H',fz⟩:=H.zj6 (by simp);exact ⟨h',k1,H',fz⟩
 obtain ⟨tid,rfl⟩:∃ id,o=some id:=by
  cases o with
  | none=>obtain ⟨_,hz⟩:=H.own _ (Zai ..);simp at hz;exact absurd (by rw [hz];rfl) h00
  | some id=>exact ⟨id,rfl⟩
 have H:=H.zkq;obtain ⟨h',k1,k2,k3⟩:=zmi rs M _ hl H.zr7;have nr:T.get .no tid (T.set .no .no tid h)=.no:=T.get_set_same _ _ _ _;have hX1:T.get .no tid h'=.no:=Classical.byContradiction λc=>c (by rw [<- k1 _ c];exact nr);refine ⟨h',λj hj => ?_,k3,?_⟩
 .have e:=k1 j hj;have hne:j≠tid:=λq=>by rw [<- e,q,nr] at hj;exact hj rfl
  rw [<- e,T.zk _ _ _ _ _ hne]
 obtain ⟨op,t,e1,e2⟩:=H.own _ (Zai ..);have hrl:(rs.map (rvS w)).length=M.length:=by rw [Zae];exact hl
 show sj h' h (.sl tid 0 rs.length none 1) (.lst 1 M.length (M.map uR));rw [hl];refine .sl _ _ _ _ _ op _ t _ hX1 trivial e1 (by omega) (by rw [Zae];omega) (Zaw.2 λv hv=>by obtain ⟨x,_,rfl⟩:=Zao.1 hv;rfl) λi v hi => ?_;have hiM:i<M.length:=by have:=(Zgv.1 hi).1;rwa [Zae] at this
 have hMi:M[i]? = some M[i]:=Zgu hiM;obtain ⟨ri,hri⟩:∃ ri,rs[i]? = some ri:=⟨_,Zgu (show i<rs.length by omega)⟩;rw [Zgw,hMi] at hi;obtain rfl:=Option.some.inj hi;have hc:=yF t 0 (rs.map (rvS w)).length i (by omega);rw [e2,Zgw,hri] at hc;rw [<- Option.some.inj hc];have hob:=vD (b:=L) (uS hri hMi);have hown:=H.own _ (Zam _ (Zad hob));have hlw:=hw _ (Zas hiM);have:=jr.zmh (N:=λid=>T.get .no id h'=.no) (O:=λv=>(∃ id off,v=.ptr id off/\T.get .no id h'≠.no)\/(∃ id,v=.yld id/\T.get .no id h'≠.no)\/(∃ id,v=.map id/\T.get .no id h'≠.no)\/(∃ id off ln cap esz,v=.sl id off ln cap esz/\T.get .no id h'≠.no)) (n:=w) (e:=1) (cap:=some w) hown (k2 _ (Zad hri)) (Zaf _) (by rw [Zae];omega) (λv hv=>by obtain ⟨x,_,rfl⟩:=Zao.1 hv;rfl);rw [Zan (by rw [Zae];omega)] at this;show Frz _ _ _ _ (.sl _ 0 w (some w) 1) (.lst 1 M[i].length (M[i].map T9));rw [hlw];exact this
theorem zwm {n:Nat} {lines:List (List Int)} (hn:n<=256) (hl:lines.length<=8) (hll:∀ l∈lines,l.length<=256) (he:yS (n:Int) lines=0):Pure Tryz.prog B 11 [.agg [I (n:Int),uz lines]] (λv=>∃ Q ps,zee n lines Q ps/\v=.tup [.lst 1 (frQ n ps).length (zei n (basL n Q ps)),I 0]):=by
 obtain ⟨n',hn',_,_,_,hasc⟩:=zkl he;have en:n'=n:=by omega
 rw [en] at hasc;have hr:∀ l∈lines,∀ c∈l,0<=c/\c<(n:Int):=λl hlm=>(hasc l hlm).2.2;refine zV λh y K H0 hK=>zL zR yK 1000 λhf => ?_;rw [F11.go,F11.t11,zA,F11.zu];refine H0.box (l:=[I (n:Int),uz lines]) rfl λb1 h1 y1 H1 => ?_;rw [zA,zA,F11.zo,H1.zi (k:=0) (n:=2) rfl rfl];refine zru (λq hq=>by have:=hll q hq;omega) _ _ _ _ ?_;rintro _ rfl _;rw [he,zA,F11.yt,qj,Zac rfl,Zah,zB,F11.v5,zC,zE,zA,F11.rE,H1.zi (k:=0) (n:=2) rfl rfl];refine zoe hn (by omega) hll hr _ _ _ _ ?_;rintro _ ⟨Q,ps,⟨⟨O,hS⟩,hQ,hdot,hcv⟩,cb,hcl,hcr,rfl⟩ _;have hfl:(basL n Q ps).length=(frQ n ps).length:=Zae ..;rw [jK];refine zv2 hcl hcr (λb hb => ?_) (by omega) (by rw [hfl];exact Zbe (zf8 n ps) (by omega)) (λb hb => ?_) _ _ _ _ ?_
 .obtain ⟨c,_,rfl⟩:=Zao.1 hb;exact bY ..
 .exact λx hx=>by
   have:=ztj ⟨⟨O,hS⟩,hQ,hdot,hcv⟩ hl b hb x hx;have z:ZB=51:=rfl;exact ⟨by have:=this.1;omega,by have:=this.2;omega⟩
 rintro _ rfl _;rw [yZ,jC];simp only [zG,zQ];rw [F11.ret];refine hK _ _ _ _ _ H1 (jI (zK (qJ λv hv => ?_)) (zK rfl)) ⟨Q,ps,⟨⟨O,hS⟩,hQ,hdot,hcv⟩,by rw [hfl]⟩;obtain ⟨x,_,rfl⟩:=Zao.1 hv;exact qJ λv hv=>by obtain ⟨x,_,rfl⟩:=Zao.1 hv;rfl
def appE (a:Sym) (f:List Int):Int:=if vH f≠0 then vH f else if gB a.1 f.length≠0 then gB a.1 f.length else kH (kA a.2 a.1 f)
def appV (a:Sym) (f:List Int):AV:=if appE a f≠0 then .tup [.zb,I (appE a f)] else .tup [encI (kA a.2 a.1 f),I 0]
theorem ztt {a:Sym} {f:List Int} (ha:a.1.length<=100000) (hl:f.length<=100000):Pure Tryz.prog B 9 [encS a,encI f] (· = appV a f):=by
 refine zV λh j K H0 hK=>zL zR wm 10000 λhf' => ?_;have hal:(kA a.2 a.1 f).length=f.length:=zel ..;rw [F9.go,F9.t27,zA,F9.zu];refine H0.box (l:=[encI a.1,.bool a.2]) rfl λb2 h1 j1 H1 => ?_;rw [zA,zA,F9.zo]
 (refine zwc (by omega) _ _ _ _ ?_;rintro _ rfl _)
 rw [zA,F9.yt,qj,zB,F9.v8];by_cases z:vH f=0
 case neg =>
  rw [Zab z,Zal,zD,zA,F9.vk];simp only [zG,zQ];rw [F9.ret];have e:appE a f=vH f:=if_pos z;exact hK _ _ _ _ _ H1 (jI (zK rfl) (zK rfl)) (by rw [appV,e,if_pos z])
 obtain ⟨f1,f2⟩:=zom z;rw [Zac z,Zah,zC,zE,zA,zA,F9.rE,H1.zi (k:=0) (n:=2) rfl rfl,zS];refine zr2 ha _ _ _ _ ?_;rintro _ rfl _;rw [zA,F9.rF,qj,zB,F9.v9];by_cases y:gB a.1 f.length=0
 case neg =>
  rw [Zab y,Zal,zD,zA,F9.rC];simp only [zG,zQ];rw [F9.ret];have e:appE a f=gB a.1 f.length:=by rw [appE,if_neg (λq=>q z),if_pos y]
  exact hK _ _ _ _ _ H1 (jI (zK rfl) (zK rfl)) (by rw [appV,e,if_pos y])
 obtain ⟨_,s2,s3⟩:=cK y;have e:appE a f=kH (kA a.2 a.1 f):=by rw [appE,if_neg (λq=>q z),if_neg (λq=>q y)]
 rw [Zac y,Zah,zC,zE,zA,F9.zge,H1.zi (k:=0) (n:=2) rfl rfl];refine ztk (g:=a.1) (c:=a.2) (by omega) (by omega) s3 (λy hy=>by have:=f2 y hy;omega) _ _ _ _ ?_;rintro _ rfl _;rw [zA,zA,F9.rU];refine zby (l:=kA a.2 a.1 f) (by omega) (λx _ K hK=>ztl x _ _ _ _ λv hv _=>by rw [hv];exact hK) ?_;rw [zB,F9.v10];cases hnf:(kA a.2 a.1 f).any tQ with
 | true =>
  have e2:kH (kA a.2 a.1 f)=3:=by rw [kH,hnf];rfl
  rw [zD,zA,F9.rG];simp only [zG,zQ];rw [F9.ret];exact hK _ _ _ _ _ H1 (jI (zK rfl) (zK rfl)) (by rw [appV,e,e2];rfl)
 | false =>
  have e2:kH (kA a.2 a.1 f)=0:=by rw [kH,hnf];rfl
  rw [zC,zE,zA,F9.eO];simp only [zG,zQ];rw [F9.ret];exact hK _ _ _ _ _ H1 (jI (zK (zdi _)) (zK rfl)) (by rw [appV,e,e2];rfl)
end Go.Ev
namespace Go.Ev
theorem fI {cells:Int}:∀ {r prev:List (List Int)},gI cells prev r=0->(∀ l∈r,l≠[]/\yQ cells none l=0/\l∉prev)/\r.Nodup
 | [],_,_=>⟨λl hl=>(by cases hl),.nil⟩
 | l::r,prev,h=>by
  rw [gI] at h;by_cases c:jM cells prev l=0
  case neg=>rw [if_pos c] at h;exact absurd h c
  rw [if_neg (λq=>q c)] at h;obtain ⟨h1,h2⟩:=fI h;have hl:l≠[]/\yQ cells none l=0/\l∉prev:=by
   rw [jM] at c;by_cases c1:l=[]
   .rw [if_pos c1] at c;cases c
   rw [if_neg c1] at c;by_cases c2:yQ cells none l=0
   case neg=>rw [if_pos c2] at c;exact absurd c c2
   rw [if_neg (λq=>q c2)] at c;by_cases c3:l∈prev
   .rw [if_pos c3] at c;cases c
   .exact ⟨c1,c2,c3⟩
  refine ⟨λq hq => ?_,Zcc.2 ⟨λq=>(h1 l q).2.2 (by simp),h2⟩⟩;rcases Zaq.1 hq with rfl | hq
  .exact hl
  .exact ⟨(h1 q hq).1,(h1 q hq).2.1,λz=>(h1 q hq).2.2 (by simp [z])⟩
theorem fS {cells:Int}:∀ {l:List Int} {p:Option Int},yQ cells p l=0->(∀ x∈l,0<=x/\x<cells)/\l.Pairwise (· < ·)/\∀ q,p=some q->∀ x∈l,q<x
 | [],p,_=>⟨λx hx=>(by cases hx),.nil,λq _ x hx=>(by cases hx)⟩
 | c::l,p,h=>by
  rw [yQ] at h;by_cases c1:c<0\/cells<=c
  .rw [if_pos c1] at h;cases h
  rw [if_neg c1] at h;by_cases c2:p.any (λq=>decide (c<=q))=true
  .rw [if_pos c2] at h;cases h
  rw [if_neg c2] at h;obtain ⟨h1,h2,h3⟩:=fS h;have hp:∀ q,p=some q->q<c:=λq hq=>by
   subst hq;have:¬ c<=q:=λz=>c2 (Zac z);omega
  refine ⟨λx hx => ?_,Zek.2 ⟨λx hx=>h3 c rfl x hx,h2⟩,λq hq x hx => ?_⟩
  .rcases Zaq.1 hx with rfl | hx
   .omega
   .exact h1 x hx
  .rcases Zaq.1 hx with rfl | hx
   .exact hp q hq
   .have:=hp q hq;have:=h3 c rfl x hx;omega
theorem zep {cells:Int} {lines:List (List Int)} (h:yS cells lines=0):1<=cells/\cells<=256/\lines.length<=128/\lines.Nodup/\∀ l∈lines,l≠[]/\(∀ x∈l,0<=x/\x<cells)/\l.Pairwise (· < ·):=by
 rw [yS] at h;by_cases c1:cells<1\/256<cells
 .rw [if_pos c1] at h;cases h
 rw [if_neg c1] at h;by_cases c2:128<lines.length
 .rw [if_pos c2] at h;cases h
 rw [if_neg c2] at h;obtain ⟨h1,h2⟩:=fI h;refine ⟨by omega,by omega,by omega,h2,λl hl => ?_⟩;obtain ⟨a,b,_⟩:=h1 l hl;obtain ⟨d,e,_⟩:=fS b;exact ⟨a,d,e⟩
end Go.Ev
namespace Go.Ev
open Go Go.Proofs
variable {B:Nat}
set_option maxRecDepth 100000
theorem ztu {l:List Int} {n:Int} (h:∀ x∈l,0<=x/\x<n) (ha:l.Pairwise (· < ·)) (hn:n<=256):l.length<=256:=by
 have hnd:l.Nodup:=ha.imp λh e=>by omega
 have:=lenG hnd (r:=(List.range 256).map λk:Nat=>(k:Int)) λx hx=>by
  obtain ⟨a,b⟩:=h x hx;exact Zao.2 ⟨x.toNat,Zay.2 (by omega),by omega⟩
 simpa using this
def zmy (lines:List (List Int)) (p:List Int):Bool:=lines.all λl=>decide (srt (imL p l)∈lines)
def fK (cells:Int) (lines:List (List Int)) (p:List Int):Int:=if yS cells lines≠0 then yS cells lines else gB p cells
def zi5 (cells:Int) (lines:List (List Int)) (p:List Int):AV:=if fK cells lines p≠0 then .tup [.bool false,I (fK cells lines p)] else .tup [.bool (zmy lines p),I 0]
theorem zwn {cells:Int} {lines:List (List Int)} {p:List Int} {c:Bool} (hw:∀ q∈lines,q.length<=1000000) (hpl:p.length<=100000):Pure Tryz.prog B 8 [.agg [I cells,uz lines],.agg [encI p,.bool c]] (· = zi5 cells lines p):=by
 refine zV λh y K H0 hK=>zL zR wm 10000000 λhf' => ?_;rw [F8.go,F8.t32,zA,F8.zu];refine H0.box (l:=[I cells,uz lines]) rfl λb2 h1 y1 H1 => ?_;refine H1.box (l:=[encI p,.bool c]) rfl λb3 h2 y2 H2 => ?_;have l1:∀ op:AV->OP,zI 2 (.ptr b2 0) h2 op=op (.agg [I cells,uz lines]):=λop=>H2.zi (k:=1) (n:=2) rfl rfl;have l2:∀ op:AV->OP,zI 2 (.ptr b3 0) h2 op=op (.agg [encI p,.bool c]):=λop=>H2.zi (k:=0) (n:=2) rfl rfl;have l3:∀ op:AV->OP,zH (.ptr b2 (0+0)) h2 op=op (I cells):=λop=>H2.load (k:=1) (i:=0+0) rfl rfl;rw [zA,zA,F8.zo];simp only [l1,l2,sFx,l3];refine zru hw _ _ _ _ ?_;rintro _ rfl _;simp only [l1,l2,sFx,l3,zF];refine zr2 (g:=p) (c:=c) hpl _ _ _ _ ?_;rintro _ rfl _;refine H2.qw (l:=[I (yS cells lines),I (gB p cells)]) rfl λtb h5 y5 H5 => ?_;refine q8 (l:=[yS cells lines,gB p cells]) H5 (k:=0) rfl (λB=>zb1 (by simp)) (λv hv=>by rw [hv];exact .int _ _) ?_;rintro _ rfl;have e1:uT [yS cells lines,gB p cells]=fK cells lines p:=by
  unfold fK;show (if yS cells lines≠0 then yS cells lines else if gB p cells≠0 then gB p cells else 0)=_;by_cases z:yS cells lines=0 <;> by_cases z2:gB p cells=0 <;> simp [z,z2]
 rw [e1,zA,F8.yt,qj,zB,F8.v9];by_cases c1:fK cells lines p=0
 case neg =>
  rw [Zab c1,Zal,zD,zA,F8.vk];simp only [zG,zQ];rw [F8.ret];exact hK _ _ _ _ _ H5 (jI (zK rfl) (zK rfl)) (by rw [zi5,if_pos c1])
 have c0:=c1;unfold fK at c0;by_cases z:yS cells lines=0
 case neg=>rw [if_pos z] at c0;exact absurd c0 z
 rw [if_neg (λq=>q z)] at c0;obtain ⟨n1,n2,n3,n4,n5⟩:=zep z;obtain ⟨_,s2,s3⟩:=cK c0;have hrb:∀ l∈lines,RB l:=λl hl x hx=>by have:=(n5 l hl).2.1 x hx;omega
 have hpb:RB p:=λx hx=>by have:=s3.2 x hx;omega
 have hll:∀ l∈lines,l.length<=256:=λl hl=>ztu (n5 l hl).2.1 (n5 l hl).2.2 n2;rw [Zac c1,Zah,zC,zE,zA,F8.rE,H5.zi (k:=2) (n:=2) rfl rfl];refine zoo H5 (by omega) n4 (λl hl=>⟨hrb l hl,by have:=hll l hl;omega⟩) λgm b b1 h6 y6 H6 => ?_;rw [zA,zA,F8.rF,sFx,H6.load (k:=5) (i:=0+1) rfl rfl,zS,zJ];have H7:Hp h h6 y6 (.arr b [.map gm]::.map gm (tC lines)::[.arr b1 [I cells,uz lines],.arr tb [I (yS cells lines),I (gB p cells)],.arr b3 [encI p,.bool c],.arr b2 [I cells,uz lines]]):=H6;refine F8.qbj (λm x12 h' y'=>∃ i:Nat,x12=I i/\m=lines.length-i/\i<=lines.length/\(lines.take i).all (λl=>decide (srt (imL p l)∈lines))=true/\Hp h h' y' (.arr b [.map gm]::.map gm (tC lines)::[.arr b1 [I cells,uz lines],.arr tb [I (yS cells lines),I (gB p cells)],.arr b3 [encI p,.bool c],.arr b2 [I cells,uz lines]])) (m:=lines.length) (by omega) ⟨0,rfl,by omega,by omega,by simp,H7⟩ ?_;rintro m z4 z5 z8 z12 z13 z14 h8 y8 R ⟨i,rfl,rfl,hi,hal,H8⟩ hR;rw [F8.t23,zA,F8.rC,yu];by_cases hlt:i<lines.length
 case neg =>
  rw [Zan (by omega)] at hal;rw [Zab (by omega),zA,zB,F8.v13,zC,zY,yD,zA,F8.zc6];simp only [zG,zQ];rw [F8.ret];exact hK _ _ _ _ _ H8 (jI (zK rfl) (zK rfl)) (by rw [zi5,if_neg (λq=>q c1),zmy,hal])
 have hx:lines[i]? = some lines[i]:=Zgu hlt;have hm:=Zas hlt;obtain ⟨m1,m2,m3⟩:=n5 _ hm;have hpos:1<=lines[i].length:=by
  cases q:lines[i] with
  | nil=>exact absurd q m1
  | cons a l=>simp
 rw [Zac (by omega),zA,zB,F8.v13,zD,zE,zA,zJ,zA,F8.nZ,xu rfl hlt,ldL (getT hx),zA,F8.rX,sFx,H8.load (k:=4) (i:=0+0) rfl rfl];show (CS Tryz.prog B).fn 63 (.of 63) [encI p,encI lines[i],.ptr b 0] h8 y8 _=_;refine zwg H8 hpb (λx hx=>by have:=m2 x hx;omega) hpos (by have:=hll _ hm;omega) hrb λh9 y9 H9 => ?_;rw [jB,zB,F8.v14];by_cases d:srt (imL p lines[i])∈lines
 .rw [Zac d,Zah,zC,zE,F8.aI,jg (by omega)];exact hR (lines.length-(i+1)) _ _ _ _ _ _ _ _ (by omega) ⟨i+1,rfl,rfl,by omega,zc2 hx hal (Zac d),H9⟩
 .rw [Zab d,Zal,zD,zA,F8.tF];simp only [zG,kV,zQ];rw [F8.ret];refine hK _ _ _ _ _ H9 (jI (zK rfl) (zK rfl)) ?_;have:zmy lines p=false:=Zdx.2 λq=>d (of_decide_eq_true (Zaw.1 q _ hm));rw [zi5,if_neg (λq=>q c1),this]
theorem qdb {cells:Int} {lines:List (List Int)} {p:List Int} {cm:Bool} {f:List Int} (haw:∀ {B},Pure Tryz.prog B 7 [] (· = .bool true)):Pure Tryz.prog B 3 [.agg [I cells,uz lines],.agg [encI p,.bool cm],encI f] (· = .bool true):=by
 refine zV λh u K H0 hK=>zL zR yK 100000 λhf => ?_;have awk:∀ (h:Ev.T Blk) (u:Pa) (Z:Kw Prop),Z (.bool true) h u=.ok True->(CS Tryz.prog B).fn 7 (.of 7) [] h u Z=.ok True:=λh u Z hZ=>haw _ _ _ _ λv hv _=>by rw [hv];exact hZ
 have ret:∀ {h1 u1 L},Hp h h1 u1 L->K (.bool true) h1 u1=.ok True:=λH=>hK _ _ _ _ _ H (zK rfl) rfl;rw [F3.go,F3.t77,zA,F3.zu];refine H0.box (l:=[I cells,uz lines]) rfl λbs h0 u0 H01 => ?_;refine H01.box (l:=[encI p,.bool cm]) rfl λba h1 u1 H1 => ?_;have sN:∀ op:AV->OP,zI 2 (.ptr bs 0) h1 op=op (.agg [I cells,uz lines]):=λop=>H1.zi (k:=1) (n:=2) rfl rfl;have aN:∀ op:AV->OP,zI 2 (.ptr ba 0) h1 op=op (.agg [encI p,.bool cm]):=λop=>H1.zi (k:=0) (n:=2) rfl rfl;have s0:∀ op:AV->OP,zH (.ptr bs (0+0)) h1 op=op (I cells):=λop=>H1.load (k:=1) (i:=0+0) rfl rfl;have a1:∀ op:AV->OP,zH (.ptr ba (0+1)) h1 op=op (.bool cm):=λop=>H1.load (k:=0) (i:=0+1) rfl rfl;have end1:∀ {y5 y6 y7 y8 y9 y10 y11 y12 y13 y14 y15 y16 y17 y18 y19 y20 y22 y23 y24 y25 y26 y27 y28 y29 y30 y31 y32:AV},IR.run F3.t4 (CS Tryz.prog B) 100000 (fnO F3.res K) (IR.run F3.t75 (CS Tryz.prog B) 100000 (fnO F3.res K) (zf F3.res K)) (F3.fr (.agg [I cells,uz lines]) (.agg [encI p,.bool cm]) (encI f) (.ptr bs 0) (.ptr ba 0) y5 y6 y7 y8 y9 y10 y11 y12 y13 y14 y15 y16 y17 y18 y19 y20 (.bool true) y22 y23 y24 y25 y26 y27 y28 y29 y30 y31 y32) h1 u1=.ok True:=by
  intros
  rw [F3.t4,zB,F3.v21,zD,zA,F3.yt];refine awk _ _ _ ?_;simp only [zG,zQ];rw [F3.ret];exact ret H1
 rw [zA,zA,F3.zo,F3.sH,F3.sJ,sN];refine qde (by omega) (by omega) _ _ _ _ ?_;rintro _ rfl _;rw [F3.tO,F3.rM,jB];by_cases cF:((lines.length:Int)<=8/\∀ l∈lines,(l.length:Int)<=9)/\yS cells lines=0/\cells<=9
 case neg =>
  rw [Zab cF,Zal];simp only [yU,zht];rw [F3.r1_2,F3.zev];simp only [yU,zT,zW];rw [F3.r1_3,F3.oD];simp only [yU,zht,zT];rw [F3.r1_4,F3.zaj];simp only [yU,zT];exact end1
 rw [Zac cF,Zah];simp only [yJ,zrv,aN,sFx,s0];obtain ⟨⟨hl8,hl9⟩,he,hc9⟩:=cF;obtain ⟨n,rfl,hn1,_,_,hasc⟩:=zkl he;have hn:n<=9:=by omega
 have hnd:=(zep he).2.2.2.1;have hw:∀ q∈lines,q.length<=1000:=λq hq=>by have:=hl9 q hq;omega
 have hw6:∀ q∈lines,q.length<=1000000:=λq hq=>by have:=hl9 q hq;omega
 refine zzq _ _ _ _ ?_;rintro _ rfl _;rw [F3.r1_2,F3.zev];by_cases c2:gB p (n:Int)=0
 case neg =>
  simp only [yJ,qj];rw [Zab c2,Zal];simp only [yU,zT,zW];rw [F3.r1_3,F3.oD];simp only [yU,zht,zT];rw [F3.r1_4,F3.zaj];simp only [yU,zT];exact end1
 simp only [yJ,qj];rw [Zac c2,Zah];simp only [yJ,zW,sFx,a1];obtain ⟨_,hpl,hp⟩:=cK c2;have hpl:p.length=n:=by omega
 cases cm with
 | true =>
  simp only [yU,zT,zW];rw [F3.r1_3,F3.oD];simp only [yU,zht,zT];rw [F3.r1_4,F3.zaj];simp only [yU,zT];exact end1
 | false =>
 simp only [yJ];rw [F3.r1_3,F3.oD];simp only [yJ,encI,zS,Zae,sFx,s0,qj];by_cases c4:f.length=n
 case neg =>
  rw [Zab (show ¬ ((f.length:Int)=(n:Int)) by omega),Zal];simp only [yU,zht,zT,zW];rw [F3.r1_4,F3.zaj];simp only [yU,zT];exact end1
 rw [Zac (show ((f.length:Int)=(n:Int)) by omega),Zah];simp only [yJ,zW,zrv];refine qao (by omega) _ _ _ _ ?_;rintro _ rfl _;rw [F3.r1_4,F3.zaj];simp only [yJ,qj];by_cases c5:vH f=0
 case neg =>
  rw [Zab c5,Zal];simp only [zW];exact end1
 rw [Zac c5,Zah];simp only [zW];rw [F3.t4,zB,F3.v21,zC,zE,F3.t75,zA,F3.uj,sN,aN];refine zwn hw6 (by omega) _ _ _ _ ?_;rintro _ rfl _;have hkE:fK (n:Int) lines p=0:=by rw [fK,if_neg (λq=>q he)];exact c2
 rw [zi5,if_neg (λq=>q hkE),yZ,jC,zA,zA,F3.ng,qj,Zac rfl,Zah,zB,F3.v22,zC,zE,zA,zA,F3.nZ,jB,zB,F3.v23];cases hkB:zmy lines p with
 | false =>
  rw [Zal,zD,zA,F3.rX];refine awk _ _ _ ?_;simp only [zG,zQ];rw [F3.ret];exact ret H1
 | true =>
 have hk:∀ l∈lines,srt (imL p l)∈lines:=λl hm=>of_decide_eq_true (Zaw.1 hkB l hm);have hrng:f.any tQ=false:=by
  rw [vH,if_neg (by omega),kH] at c5;cases q:f.any tQ with
  | false=>rfl
  | true=>rw [q] at c5;cases c5
 obtain ⟨g,hg⟩:∃ g,g=kA false p f:=⟨_,rfl⟩;have hgl:g.length=n:=by rw [hg,zel];exact c4
 have hga:∀ c,c<n->g.getD (pvN p c) 0=f.getD c 0:=λc hc=>by
  have e:=zk5 (c:=false) hp (show p.length=f.length by omega) (k:=c) (by omega);rw [hg,Zaa];show ((kA false p f)[(p.getD c 0).toNat]?).getD 0=_;rw [e];simp [xOf]
 have hgr:g.any tQ=false:=Zdy.2 λx hx=>by
  obtain ⟨j,hj⟩:=Zau.1 hx;have hjl:=(Zgv.1 hj).1;obtain ⟨i1,i2⟩:=zi3 hp hpl (j:=j) (by omega);have e:=hga _ i1;rw [i2,Zaa,hj] at e;have hm:f.getD (p.idxOf (j:Int)) 0∈f:=yI (by omega);have:=Zdy.1 hrng _ hm;rw [<- e] at this;exact this
 have chk:∀ g':List Int,g'.length=n->g'.any tQ=false->xO (n:Int) lines g'=0:=λg' h1 h2=>by
  rw [xO,if_neg (λq=>q he),if_neg (λq=>q (by omega)),if_neg (by rw [show g'.any farL=g'.any tQ from rfl,h2];decide)]
 rw [Zah,zC,zE,zA,F3.rG,aN];refine ztt (a:=(p,false)) (f:=f) (by show p.length<=_;omega) (by omega) _ _ _ _ ?_;rintro _ rfl _;have happ:appE (p,false) f=0:=by
  rw [appE,if_neg (λq=>q c5),if_neg (λq=>q (by show gB p _=0;rw [c4];exact c2)),kH];show (if (kA false p f).any tQ=true then (3:Int) else 0)=0;rw [<- hg,hgr,if_neg (by decide)]
 rw [appV,if_neg (λq=>q happ),yZ,jC,zA,F3.zgh,sN];show (CS Tryz.prog B).fn 10 _ [.agg [I (n:Int),uz lines],encI f] h1 u1 _=.ok True;refine zmw hw (by omega) _ _ _ _ ?_;rintro _ rfl _;rw [if_neg (λq=>q (chk f c4 hrng)),yZ,jC,zA,F3.rY,sN];show (CS Tryz.prog B).fn 10 _ [.agg [I (n:Int),uz lines],encI (kA false p f)] h1 u1 _=.ok True;rw [<- hg];refine zmw hw (by omega) _ _ _ _ ?_;rintro _ rfl _;have hcst:decide (fR (wG lines g)<0)=decide (fR (wG lines f)<0):=decide_eq_decide.2 (by rw [zi2,zi2];exact zwj hp hpl hnd hasc hk hga);rw [if_neg (λq=>q (chk g hgl hgr)),yZ,jC,hcst,zA,F3.aI,sN];have hl8':lines.length<=8:=by omega
 have hll:∀ l∈lines,l.length<=256:=λl hm=>by have:=hl9 l hm;omega
 refine zwm (by omega) hl8' hll he _ _ _ _ ?_;rintro _ ⟨Q,ps,hred,rfl⟩ _;have hfq:=zf8 n ps;have eB:AV.lst 1 (frQ n ps).length (zei n (basL n Q ps))=gS (basL n Q ps):=by
  unfold gS;rw [Zae]
  congr 1
  refine Zdg λl hlm => ?_;obtain ⟨c,_,rfl⟩:=Zao.1 hlm;unfold uR;rw [bY]
 obtain ⟨R,hR⟩:∃ R,R=basL n Q ps:=⟨_,rfl⟩;have hbr:=zx7 hred;have hbz:=ztj hred hl8';rw [eB,<- hR] at *
 have hRl:R.length=(frQ n ps).length:=hbr.len;have hRn:∀ b,b<R.length->(R.getD b []).length=n:=λb hb=>(hbr.row _ (yI hb)).1;obtain ⟨E,P,hE,hP,hEk,hcnt⟩:=exE hred hl8';have hkb:=zth hE;have hsz:∀ b,b<R.length->∀ x∈R.getD b [],dh ZB x:=λb hb x hx=>hbz _ (yI hb) x hx;rw [yZ,jC,zA,zA,F3.eO,F3.zaf,F3.zeu,jg (by decide),jg (by decide),jg (by decide),qj,Zac (show (0:Int)+0+0+0=0 from rfl),Zah,F3.zdo,F3.zaa];simp only [yJ,qdg,bne_self_eq_false,zW];rw [zB,F3.v24,zC,zE,zA,F3.zow,zA,zA,F3.zc6,gS,zS,zJ];rw [show AV.lst 1 R.length (R.map uR)=gS R from rfl];refine F3.qbm (λm x16 x26 h' u'=>∃ (i:Nat) (o:Option Pa) (rs:List Pa),x16=uf o 1 rs.length/\x26=I (i:Int)/\m+i=R.length/\rs.length=i/\Hp h h' u' (.gro o 1 rs.length (rs.map (rvS n))::(jY rs ((R.map (sS n p)).take i)++[Ob.arr ba [encI p,.bool false],Ob.arr bs [I (n:Int),uz lines]]))) (m:=R.length) (by omega) ⟨0,none,[],rfl,rfl,rfl,rfl,H1.om 1⟩ ?_;rintro m z5 z16 z17 z18 z19 z20 z26 z27 z28 z29 z30 z31 z32 h3 u3 RR ⟨i,o,rs,rfl,rfl,hm,hrs,H3⟩ hRR;have Kl:(R.map (sS n p)).length=R.length:=Zae ..;have rl:(jY rs ((R.map (sS n p)).take i)).length=i:=by unfold jY;rw [Zdp,Zaj,Kl];omega
 have tl:∀ (X:List Ob) (k:Nat) (b:Ob),([Ob.arr ba [encI p,.bool false],Ob.arr bs [I (n:Int),uz lines]]:List Ob)[k]? = some b->(X++(.gro o 1 rs.length (rs.map (rvS n))::(jY rs ((R.map (sS n p)).take i)++[Ob.arr ba [encI p,.bool false],Ob.arr bs [I (n:Int),uz lines]])))[X.length+(1+i+k)]? = some b:=λX k b hb=>by
  rw [Zgx (by omega),Zch,show 1+i+k=(i+k)+1 by omega,Zhg,Zgx (by omega),rl,Zch];exact hb
 have s0':∀ op:AV->OP,zH (.ptr bs (0+0)) h3 op=op (I (n:Int)):=λop=>H3.load (i:=0+0) (tl [] 1 _ rfl) rfl;have a0':∀ op:AV->OP,zH (.ptr ba (0+0)) h3 op=op (encI p):=λop=>H3.load (i:=0+0) (tl [] 0 _ rfl) rfl;rw [F3.t60,zA,F3.zac,yu,zA,zB,F3.v27];by_cases ci:i<R.length
 .have ec:(R.map uR)[i]? = some (uR (R.getD i [])):=by rw [Zgw,uA (d:=[]) ci];rfl
  have ix:∀ op:AV->OP,zN 1 (gS R) (I (i:Int)) op=op (.fp ((R.map uR).drop (i*1))):=λop=>xu rfl ci;have ld:∀ (hh:Ev.T Blk) (op:AV->OP),zH (.fp ((R.map uR).drop (i*1))) hh op=op (uR (R.getD i [])):=λhh op=>ldL ec;have hrn:=hRn i ci;rw [Zac (by omega),zD,zE,zA,zJ,zA,F3.qbk,zA,zA,F3.qbl,F3.zpe,F3.ztx,ix,ld,uR,zS,sFx,s0',qj,Zac (show ((R.getD i []).length:Int)=(n:Int) by omega),Zah,F3.zxp,F3.zty];simp only [yJ,ix,ld,zrv];refine qdw (f:=R.getD i []) (by omega) (λx hx=>⟨⟨by have:=(hsz i ci x hx).1;unfold ZB at this;omega,by have:=(hsz i ci x hx).2;unfold ZB at this;omega⟩,by have:=(hsz i ci x hx).2;unfold ZB at this;omega⟩) _ _ _ _ ?_;rintro _ rfl _;rw [F3.zxo,F3.ztz];simp only [yJ,qj,decide_true,Zah,zW];rw [zB,F3.v28,zC,zE,zA,F3.zoz,sFx,s0'];refine H3.mkN (n:=n) (c:=n) rfl rfl (Zaf _) (by omega) (by omega) λid h4 u4 H4 => ?_;have rp:fe n [AV.str []]=mG n p (R.getD i []) 0:=by rw [mG];exact zbk ..
  rw [rp] at H4;have a0'':∀ op:AV->OP,zH (.ptr ba (0+0)) h4 op=op (encI p):=λop=>H4.load (i:=0+0) (tl [_] 0 _ rfl) rfl;rw [zA,zA,F3.zo0,sFx,a0'',encI,zS,zJ];refine F3.zo4 (λq x31 h' u'=>∃ k:Nat,x31=I (k:Int)/\q+k=n/\u'=u4/\Hp h h' u4 (.arr id (mG n p (R.getD i []) k)::.gro o 1 rs.length (rs.map (rvS n))::(jY rs ((R.map (sS n p)).take i)++[Ob.arr ba [encI p,.bool false],Ob.arr bs [I (n:Int),uz lines]]))) (m:=n) (by omega) ⟨0,rfl,rfl,rfl,H4⟩ ?_;rintro q y19 y20 y31 y32 h6 u6 R2 ⟨k,rfl,hq,rfl,H6⟩ hR2;rw [F3.t47,zA,F3.zgo,yu,zA,zB,F3.v32];by_cases ck:k<n
  .have hpk:(p.map I)[k]? = some (I (pvN p k:Int)):=by
    obtain ⟨_,e,_⟩:=fG hp hpl ck;rw [Zgw,uA (l:=p) (i:=k) (d:=0) (by omega),<- e];rfl
   have hcell:((R.getD i []).map T9)[k]? = some (T9 (at' (R.getD i []) k)):=by rw [Zgw,uU (by omega)];rfl
   obtain ⟨pk1,_,_⟩:=fG hp hpl ck;rw [Zac (by omega),zD,zE,zA,zJ,zA,F3.zo1,xu (i:=k) rfl (by omega),ldL hpk,F3.zo2,ix,ld,uR,xu (i:=k) rfl (by omega),ldL hcell,sIx (i:=pvN p k) rfl pk1];refine H6.store (k:=0) (i:=pvN p k) rfl (by rw [p6];exact pk1) rfl λh7 H7 => ?_;rw [F3.zo3,jg (by omega)];exact hR2 (q-1) _ _ _ _ _ _ (by omega) ⟨k+1,by congr 1,by omega,rfl,H7⟩
  obtain rfl:k=n:=by omega
  rw [zk8 hp hpl] at H6;have H7:=H6.perm (.swap _ _ _);rw [Zab (by omega),zC,zY,yD,F3.zo5];refine H7.zd1 (v:=rvS k id) (by omega) (by decide) rfl rfl λo' h8 u8 H8 => ?_;rw [F3.zox,jg (by omega)];refine hRR (m-1) _ _ _ _ _ _ _ _ _ _ _ _ _ _ _ (by omega) ⟨i+1,o',rs++[id],by rw [Zag];rfl,by congr 1,by omega,by rw [Zag,hrs];rfl,?_⟩;have hd:(R.map (sS k p))[i]? = some (sS k p (R.getD i [])):=by rw [Zgw,uA (d:=[]) ci];rfl
  rw [Zar,hd,Zde,fE (by rw [hrs,Zaj,Kl];omega),Zbi,Zag,Zcg];exact H8.perm ((Zer (a:=Ob.arr id ((sS k p (R.getD i [])).map T9)) (l₁:=jY rs ((R.map (sS k p)).take i)) (l₂:=[Ob.arr ba [encI p,.bool false],Ob.arr bs [I (k:Int),uz lines]])).symm.cons _)
 have hie:i=R.length:=by omega
 rw [Zan (by omega)] at H3;rw [Zab (by omega),zC,zY,yD,zA,F3.qbn];have hB:=qd0 hp hpl hnd hasc hk hbr hEk hcnt;have fin:∀ {hh:Ev.T Blk} {L:List Ob},Hp h hh u3 L->(CS Tryz.prog B).fn 14 (.of 14) [gS (R.map (sS n p))] hh u3 (λv1 h2 n3=>(CS Tryz.prog B).fn 13 (.of 13) [v1,gS R] h2 n3 λv4 h5 n6=>sGW v4 true (λk=>(CS Tryz.prog B).fn 7 (.of 7) [] h5 n6 k) h5 n6 λv7 h8 n9=>yO v4 v7 (.bool false) λv10=>K v10 h8 n9)=.ok True:=by
  intro hh L HH;refine zk4 (zwb hE hP hB hn1 (by omega)) _ _ _ _ ?_;rintro _ ⟨R',⟨⟨q',hR'⟩,_⟩,rfl⟩ _;obtain ⟨_,eR⟩:=(hR'.congr λv hv=>hEk v hv).unique cW hbr;have hq'l:=hR'.len;subst eR;refine zfz (by omega) (λl hl=>by rw [(hR'.row l hl).1];omega) _ _ _ _ ?_;rintro _ rfl _;rw [Zac rfl,zxs];refine awk _ _ _ ?_;rw [zT];exact ret HH
 obtain ⟨h',k1,H',fz⟩:=zwl (by rw [Kl];omega) (λl hl=>by obtain ⟨r,_,rfl⟩:=Zao.1 hl;exact kC ..) H3;refine fB k1 (.cons fz .nil) ?_;simp only [zG,zQ,F3.ret];exact fin H'
end Go.Ev
