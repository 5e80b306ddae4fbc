import Derived.Test.YtdclaaahnodljaaGreatDoorEvC
import Derived.Below
import Derived.Carry
import Derived.ChangeSame
import Derived.WideKeyArgs
import Derived.Test.YtdclaaahnodljaaGreatDoorCards
import Derived.Lib.LaidTab
import Derived.KernelRfl
import Derived.Test.YtdclaaahnodljaaGreatDoorEvD
import Derived.Deep.Matrix
import Derived.Lib.SmallJoins
import Derived.Test.YtdclaaahnodljaaGreatDoorIrT
import Derived.Test.YtdclaaahnodljaaGreatDoorFcA
import Derived.Test.YtdclaaahnodljaaGreatDoorFcB
import Derived.Test.YtdclaaahnodljaaGreatDoorFcC
import Derived.Test.YtdclaaahnodljaaGreatDoorFcD
import Derived.Test.YtdclaaahnodljaaGreatDoorFact
import Derived.Test.YtdclaaahnodljaaGreatDoorTie
import Derived.ProofKit
import Derived.LaidMore
import Derived.OpenShut
import Derived.Stop.Joined
import Derived.SevenTiedAt
import Derived.Test.YtdclaaahnodljaaGreatDoorWake
import Derived.Test.YtdclaaahnodljaaGreatDoorWordsc
import Derived.Test.YtdclaaahnodljaaGreatDoorLaws
set_option linter.unusedSimpArgs false
set_option linter.unusedVariables false
namespace Go.Ev
open Go Go.RowKit Go.ChangeShapes
open Classical
def zb3 (w:World):Prop:=∀ b i v,layC b i=some v->uK w b i=some v
def allE (w:World) (hl:zb3 w):Env:=⟨fun _=>none,uK w,hl⟩
theorem HR.zpg (P:Program) (w:World) (hl:zb3 w):HR P w.heap.size (allE w hl) .e .z w:={
  blk id hid:=hid.elim (T.cu _ id)
  inj id id' b n n' h1:=(h1 (T.cu _ id)).elim
  fresh _ _:=rfl
  lt id b n hid:=by cases hid
  base:=Nat.le_refl _
  frz b i v h:=by
    refine ⟨?_,fun id n hid=>by cases hid⟩;have h:uK w b i=some v:=h;unfold uK at h;split at h
    · rename_i c ty fr hb;exact ⟨c,ty,fr,hb,h⟩
    · cases h }
noncomputable def mM:Kw Prop:=fun v _ _=>if v=.bool true then .ok True else .no 0
theorem zlv {P:Program} {f:Nat} {args:List AV} {vs:Array Value} {w:World} {hl:zb3 w} (hv:VRL (allE w hl) args vs.toList) (h:(CS P w.heap.size).fn f (.of f) args .e .z mM=.ok True) :
    Go.Calls P f vs w fun e w'=>e=.returned (.bool true)/\Below w.heap.size w w':=by
  obtain ⟨_,_,_,_,h⟩:=zfs.fn (HR.zpg P w hl) hv h;refine (callsIn_wide.1 (h 0)).mono fun e w' hc => ?_;cases e with
  | returned v =>
    obtain ⟨av,h',nx',E',h1,h2,h3,h4⟩:=hc;unfold mM at h1;split at h1
    · rename_i hav;subst hav;simp only [VR] at h2;subst h2;exact ⟨rfl,h4.os,h4.tape,h4.output,h4.size,fun k hk=>h4.keep k hk fun id n hid=>by cases hid⟩
    · cases h1
  | _=>exact hc.elim
section
variable {H:Type} {enc:TypeId×Value->H} {P:Program}
theorem xK (hl:laidOutB P=true) {W W':World} (hb:Below W.heap.size W W') (sp:Nat->Bool):∀ {ts:List TypeId} {vs:List Value} {ds:List (DataW H)} {ps:List MemPlace},
    (∀ t∈ts,P.readableRec t=true/\t<P.types.size)->DataW.TrodAll enc P W 0 (fun _=>true) true ts vs ds ps->(∀ x∈ps,x.block<W.heap.size)->(∀ x∈ps,sp x.block=true)->DataW.TrodAll enc P W' 0 sp true ts vs ds ps
  | [],vs,ds,ps,_,h,_,_=>by
    cases vs <;> cases ds <;> simp only [DataW.TrodAll] at h ⊢ <;> exact h
  | t::ts,vs,ds,ps,ht,h,hlt,hs=>by
    cases vs <;> cases ds <;> simp only [DataW.TrodAll] at h ⊢
    obtain ⟨p,q,h1,h2,rfl⟩:=h;refine ⟨p,q,WideElems.Trod_stays hl (ht t (by simp)).1 (ht t (by simp)).2 h1 (fun x hx=>hb.same (hlt x (by simp [hx]))) (fun x hx=>hs x (by simp [hx])),?_,rfl⟩;exact xK hl hb sp (fun t h=>ht t (by simp [h])) h2 (fun x hx=>hlt x (by simp [hx])) (fun x hx=>hs x (by simp [hx]))
theorem bZ {w:World} {base:Nat} {sp:Nat->Bool} {held:Bool}:∀ {ts:List TypeId} {vs:List Value} {ds:List (DataW H)} {ps:List MemPlace},DataW.TrodAll enc P w base sp held ts vs ds ps->ds.length=ts.length
  | [],vs,ds,ps,h=>by cases vs <;> cases ds <;> simp only [DataW.TrodAll] at h <;> rfl
  | t::ts,vs,ds,ps,h=>by
    cases vs <;> cases ds <;> simp only [DataW.TrodAll] at h
    obtain ⟨p,q,_,h2,_⟩:=h;simp [bZ h2]
theorem zlw {f:Func} {s:ChangeSpec} {apart fresh handsOn again:Bool} {W W':World} {args:Array Value} {ds gs:List (DataW H)} {before:List MemPlace} {tb:TypeId}
    (hl:laidOutB P=true) (hts:∀ t∈f.params.toList,P.readableRec t=true/\t<P.types.size) (hvars:s.vars=[]) (hfn:∀ ds:List (DataW H),ds.length=f.params.size->s.fn H ds={ results:=[.lit (.bool true)],args:=ds })
    (hr:f.resultTypes = #[tb]) (htb:P.underlying tb=some .bool)
    (hW:DataW.Whole enc P f.params.toList s.vars apart W args.toList ds gs before) (hb:Below W.heap.size W W'):s.post enc P f apart fresh handsOn again W args (.bool true) W':=by
  have hW0:=hW;obtain ⟨p,q,h1,h2,hpq,hz,hn⟩:=hW;rw [hvars] at h2;obtain ⟨rfl,rfl⟩:=ChangeShapes.trodVars_none h2;have hlt:∀ x∈p,x.block<W.heap.size:=fun x hx=>by
    have:=hW0.lt x (by rw [hpq];simp [hx]);simpa using this
  have hs:s.fn H (ds++[])={ results:=[.lit (.bool true)],args:=ds }:=by
    rw [List.append_nil];exact hfn ds (by rw [bZ h1];simp)
  have hres:∀ (b:Nat) (sp:Nat->Bool) (hd:Bool),DataW.TrodAll enc P W' b sp hd f.resultTypes.toList ((Value.bool true).resultList f.resultTypes.size) [.lit (.bool true)] []:=by
    intro b sp hd;rw [hr];exact ChangeShapes.trodAll_mk1 ⟨1,by simp [DataW.trod,Value.cells,htb]⟩
  subst hpq;refine ⟨ds,[],p++[],[],p,[],hW0,?_,?_,?_,hb.frame _,fun _=>⟨ok_one hr rfl (okWide_bool_mk htb _),[.lit (.bool true)]++ds,[],[]++p,?_,?_⟩⟩
  · rw [hs];exact hres _ _ _
  · rw [hs];exact xK hl hb _ hts h1 hlt (fun x hx=>by simpa using hlt x hx)
  · rw [hs,hvars];simp [DataW.TrodVars]
  · refine ⟨[]++p,[],trodAll_append (xK hl hb _ hts h1 hlt (fun _ _=>rfl)) (hres _ _ _),by rw [hvars];simp [DataW.TrodVars],by simp,?_,?_⟩
    · intro b off hp;have hp:MemPlace.cell b off∈p:=by simpa using hp
      rw [hb.frozen (hlt _ hp)];exact hz b off (by simpa using hp)
    · intro ha;have:=hn ha;simpa using this
  · intro x hx _;simpa using hx
end
end Go.Ev
namespace Go.Proofs.YtdclaaahnodljaaGreatDoor
open Go Go.Ev
abbrev zc8:List (String×DataW Unit):=[("math/bits.deBruijn32tab",Rows.laid_math_bits_deBruijn32tab),("math/bits.deBruijn64tab",Rows.laid_math_bits_deBruijn64tab),("internal/strconv.uint64pow10",Rows.laid_internal_strconv_uint64pow10)]
def powZ:List Int:=(layG 2).map fun (n:Nat)=>(n:Int)
theorem zwl {W:World} (h:laidMetH Tryz.prog zc8 W):zb3 W:=by
  have h:laidMet Tryz.prog zc8 W:=h;obtain ⟨ps,⟨_,_,_,_,_,_,_,_,_,_,⟨_,_,_,_,_,_,_,_,_,_,⟨g,t,cs,fuel,p,q,hg,ht,hvar,hd,_,_⟩,_⟩,_⟩,_⟩:=h;obtain rfl:2=g:=Option.some.inj ((show Tryz.prog.globalNamed "internal/strconv.uint64pow10" = some 2 by kernel_rfl).symm.trans hg);obtain rfl:308=t:=Option.some.inj ((show (Tryz.prog.globals[2]?).map (·.type)=some 308 by kernel_rfl).symm.trans ht);have e0:(Rows.laid_internal_strconv_uint64pow10:DataW Unit)=Lib.tabData .u64 powZ:=by kernel_rfl
  rw [e0] at hd;have hcs:cs.toList=powZ.map fun z=>Value.int .u64 z:=Lib.cells_of_tab (n:=20) (e:=229) Tryz.underlying308 Tryz.underlying229 (by kernel_rfl) (by kernel_rfl) hd;intro b i v hb;unfold layC at hb;by_cases hb2:b=2
  case neg =>
    have:layG b=[]:=by
      unfold layG
      rw [show Nat.beq b 2=false from by cases hq:Nat.beq b 2 with
        | false=>rfl
        | true=>exact absurd (Nat.eq_of_beq_eq_true hq) hb2];rfl
    rw [this] at hb;cases hb
  subst hb2;have hv:W.var? Tryz.prog "internal/strconv.uint64pow10" = some cs:=hvar;unfold World.var? at hv;rw [hg] at hv;simp only [Option.bind_some] at hv;unfold uK;split at hv
  · rename_i c ty fr hh;have hc:=Option.some.inj hv;rw [hh];simp only;rw [hc,<- Array.getElem?_toList,hcs];simp only [powZ,List.getElem?_map];cases hq:(layG 2)[i]? with
    | none=>rw [hq] at hb;cases hb
    | some n=>rw [hq] at hb;exact hb
  · cases hv
end Go.Proofs.YtdclaaahnodljaaGreatDoor
namespace Go.Ev
open Go Go.RowKit Go.ChangeShapes Go.WideShapes Go.Deep Go.Joins
variable {H:Type} {enc:TypeId×Value->H} {P:Program}
theorem dK {w:World} {a:Addr} {i:Nat} {v:Value} (h:w.cell? (a.add i)=some v):a=⟨a.block,a.off,a.spot⟩/\(i=0->a.spot=none)/\uK w a.block (a.off+i)=some v:=by
  unfold Addr.add at h;by_cases hi:i=0
  · subst hi;rw [if_pos rfl] at h;unfold World.cell? at h;split at h
    · rename_i c ty fr hb;split at h
      · cases h
      · rename_i hs;refine ⟨rfl,fun _=>by cases e:a.spot <;> simp_all,?_⟩;simp [uK,hb,h]
    · cases h
  · rw [if_neg hi] at h;unfold World.cell? at h;split at h
    · rename_i c ty fr hb;refine ⟨rfl,fun q=>absurd q hi,?_⟩;simp at h hb;simp [uK,hb,h]
    · cases h
theorem zph {E:Env} {b:Nat}:∀ {l:List AV} {off:Nat},(∀ i a,l[i]? = some a->∃ v,E.fz b (off+i)=some v/\VR E a v)->VRF E l b off
  | [],_,_=>by simp only [VRF]
  | a::l,off,h=>by
    simp only [VRF];obtain ⟨v,h1,h2⟩:=h 0 a rfl;refine ⟨v,h1,h2,zph fun i x hx => ?_⟩;obtain ⟨v',h3,h4⟩:=h (i+1) x (by simpa using hx);exact ⟨v',by rw [Nat.add_assoc,Nat.add_comm 1 i];exact h3,h4⟩
theorem zyh (l:List Int):(l.map I).all jc=true:=by
  rw [List.all_eq_true];intro v hv;obtain ⟨x,_,rfl⟩:=List.mem_map.1 hv;rfl
theorem zyi {w:World} {hl:zb3 w} {p:Option Addr} {L C:Nat} {Z:List Int} (hL:L<=C) (hZ:Z.length=C) (h0:p=none->C=0) (hc:∀ a,p=some a->∀ c,c<C->w.cell? (a.add c)=some (.int .i64 (Z.getD c 0))) :
    VR (allE w hl) (encI (Z.take L)) (.slice p L C):=by
  have hlen:(Z.take L).length=L:=by rw [List.length_take];omega
  simp only [VR];refine ⟨zyh _,by simp,p,C,by rw [hlen],?_⟩;rw [hlen];cases p with
  | none=>exact .inl ⟨by have:=h0 rfl;omega,fun _=>h0 rfl⟩
  | some a =>
    by_cases hL0:L=0
    · exact .inl ⟨hL0,by intro q;cases q⟩
    · obtain ⟨_,hs,_⟩:=dK (hc a rfl 0 (by omega));obtain ⟨b,off,sp⟩:=a;have:sp=none:=hs rfl;subst this;refine .inr ⟨b,off,rfl,hL,zph fun i x hx => ?_⟩;rw [List.getElem?_map] at hx;have hi:i<L:=by
        cases e:(Z.take L)[i]? with
        | none=>rw [e] at hx;cases hx
        | some y=>have:=(List.getElem?_eq_some_iff.1 e).1;omega
      obtain ⟨_,_,h3⟩:=dK (hc _ rfl i (by omega));refine ⟨_,h3,?_⟩;rw [List.getElem?_take,if_pos hi] at hx;cases e:Z[i]? with
      | none=>rw [e] at hx;cases hx
      | some y =>
        rw [e] at hx;have hx:=Option.some.inj hx;subst hx;rw [List.getD_eq_getElem?_getD,e];simp only [VR,Option.getD_some]
theorem zio {t e:TypeId} {w:World} {hl:zb3 w} {base:Nat} {held:Bool} {fuel:Nat} {cs:List Value} {x:DataW H×List MemPlace} (ht:P.underlying t=some (.slice e)) (he:P.underlying e=some (.int .i64)) (hc:P.cellsOf e=1)
    (h:DataW.trod enc P w base (fun _=>true) held fuel t cs=some x):∃ (l:List Int) (v:Value),cs=[v]/\VR (allE w hl) (encI l) v/\l.length<=maxLen/\∀ n∈l,(Lit.int .i64 n).wf=true:=by
  rcases open_ints ht he hc h with ⟨rfl,_⟩ | ⟨a,len,cap,zs,rfl,hb,hl,hm,hz,_,hcell,hwz⟩
  · exact ⟨[],_,rfl,by simp only [VR];exact ⟨rfl,rfl,none,0,rfl,.inl ⟨rfl,fun _=>rfl⟩⟩,by simp,by simp⟩
  · simp only [if_true] at hz;refine ⟨zs.take len,_,rfl,zyi hl hz (fun q=>by cases q) (fun a' q c hc=>by cases q;exact hcell c (by rw [hz];exact hc)),by rw [List.length_take];omega,fun n hn=>hwz n (List.mem_of_mem_take hn)⟩
end Go.Ev
namespace Go.Ev
open Go Go.RowKit Go.ChangeShapes Go.WideShapes Go.Deep Go.Joins
variable {H:Type} {enc:TypeId×Value->H} {P:Program}
theorem open_grid {r:Reach} {b0 base:Nat} {held:Bool} {w:World} {hl:zb3 w} {t ti tl:TypeId} {f0 f1 f2:Field} {v:Value} {d:DataW H} {p:List MemPlace} (hs:P.underlying t=some (.struct #[f0,f1,f2])) (hone:oneCellFields P #[f0,f1,f2]=true) (hC:P.cellsOf t=3)
    (e0:f0.type=ti) (e1:f1.type=ti) (e2:f2.type=tl) (u0:P.underlying ti=some (.int .i64)) (u1:P.underlying tl=some (.slice ti)) (c2:P.cellsOf ti=1)
    (hv:Value.okWide P w r b0 t v) (h:DataW.Trod enc P w base (fun _=>true) held t v d p) :
    ∃ (a b:Int) (l:List Int),VR (allE w hl) (.agg [I a,I b,encI l]) v/\(Lit.int .i64 a).wf=true/\(Lit.int .i64 b).wf=true/\l.length<=maxLen/\∀ n∈l,(Lit.int .i64 n).wf=true:=by
  obtain ⟨v0,v1,v2,y0,y1,y2,n,rfl,_,_,h0,h1,h2⟩:=open_agg3 hs hone hC hv h;rw [e0] at h0;rw [e1] at h1;rw [e2] at h2;obtain ⟨x,hx,_,hw⟩:=DataW.trod_int u0 h0;simp only [List.cons.injEq,and_true] at hx;subst hx;obtain ⟨z,hz,_,hw2⟩:=DataW.trod_int u0 h1;simp only [List.cons.injEq,and_true] at hz;subst hz;obtain ⟨l,v',hv',g1,g2,g3⟩:=zio (hl:=hl) u1 u0 c2 h2;simp only [List.cons.injEq,and_true] at hv';subst hv';refine ⟨x,z,l,?_,hw,hw2,g2,g3⟩;simp only [VR];exact ⟨rfl,_,rfl,VRL.cons (by simp only [VR]) (VRL.cons (by simp only [VR]) (VRL.cons g1 VRL.nil))⟩
end Go.Ev
/-
  For all arguments the law TopImages returns true: the program's functions return what the reference returns, the results or the errors.
  Conditions: none but those of the given statement.
-/
namespace Go.Proofs.YtdclaaahnodljaaGreatDoor
open Go Go.Ev Go.ChangeShapes Go.WideShapes Go.ChangeAt Go.RowKit

theorem ownK:ownKnob Tryz.prog.godebug=none:=by kernel_rfl
theorem laidOut:laidOutB Tryz.prog=true:=by kernel_rfl
theorem door_met (os:Os) (args:Array Value):laidMetH Tryz.prog zc8 ((World.doorLaid Tryz.prog 4000 os).forCall (fun _ _=>0) ⟨#[],args,[]⟩).memory :=
  laidMetH_of_parts3 (fuel:=8) (laidMet_of_run' 8 (by kernel_rfl) (by kernel_rfl)) (by kernel_rfl) (by kernel_rfl)

set_option maxRecDepth 100000 in
theorem law4_lifted (law:∀ (B:Nat) (r0 c0:Int) (l0:List Int) (n1:Int),(Lit.int .i64 r0).wf=true->(Lit.int .i64 c0).wf=true->l0.length<=maxLen->(∀ n∈l0,(Lit.int .i64 n).wf=true)->(Lit.int .u8 n1).wf=true->(CS Tryz.prog B).fn 4 (.of 4) [.agg [I r0,I c0,Go.Ev.encI l0],.int .u8 n1] .e .z mM=.ok True)
    (os:Os) (started:os.Started) (H:Type) (enc:TypeId×Value->H) :
    ReturnsInHanded {} Tryz.checked os 4 .any (fun w args=>(Rows.topImagesSpec.pre enc Tryz.prog Tryz.f4 [] false w args/\laidMetH Tryz.prog zc8 w)/\sizedMet enc Tryz.prog Tryz.f4 (OpenSpec.ofChange Rows.topImagesSpec) false w args)
      (Rows.topImagesSpec.post enc Tryz.prog Tryz.f4 false true false false):=by
  refine returnsInHanded_of_change_and (C:=Tryz.checked) (X:=fun w _=>laidMetH Tryz.prog zc8 w) (fun _ _ _ hh h=>h.of_heap hh) ownK started (by kernel_rfl) Tryz.func4
    (ChangeSpec.witness_shaped (enc:=enc) (C:=Tryz.checked) (os:=os) (X:=fun w _=>laidMetH Tryz.prog zc8 w) false (World.doorLaid Tryz.prog 4000 os) #[.agg #[.int .i64 0,.int .i64 0,.slice none 0 0],.int .u8 0] 8 rfl (World.shaped_of_RefB (by kernel_rfl) (by kernel_rfl)) (by kernel_rfl) (by kernel_rfl) (by kernel_rfl) (door_met os _)) ?_
  intro W base args ds gs before hval0 hW _ _ hL _;have hval:∀ (j:Nat) t v,Tryz.f4.params[j]? = some t->args[j]? = some v->Value.okWide Tryz.prog W .any base t v:=hval0;have hW':=hW;obtain ⟨p,q,hA0,hV,rfl,hfz,hnd⟩:=hW;have hA:DataW.TrodAll enc Tryz.prog W 0 (fun _=>true) true Tryz.f4.params.toList args.toList ds p:=hA0;rw [Tryz.params4] at hA hval;obtain ⟨v0,v1,d0,d1,p0,p1,rfl,rfl,rfl,h0,h1⟩:=trodAll_two hA;obtain ⟨rfl,rfl⟩:=trodVars_none hV;obtain ⟨r0,c0,l0,vr0,w0a,w0b,w0c,w0d⟩:=open_grid (hl:=zwl hL) Tryz.underlying44 (by kernel_rfl) (by kernel_rfl) rfl rfl rfl Tryz.underlying3 Tryz.underlying38 (by kernel_rfl) (hval 0 44 v0 rfl rfl) h0;obtain ⟨n1,rfl,rfl,rfl,w1⟩:=open_int Tryz.underlying5 (hval 1 5 v1 rfl rfl) h1;refine (zlv (hl:=zwl hL) (args:=[.agg [I r0,I c0,Go.Ev.encI l0],.int .u8 n1]) (VRL.cons vr0 (VRL.cons (by simp only [VR]) VRL.nil)) (law _ r0 c0 l0 n1 w0a w0b w0c w0d w1)).mono fun e W' ⟨he,hb⟩ => ?_;subst he
  exact ⟨_,rfl,zlw laidOut (by
    rw [Tryz.params4];intro t ht;have h4:([44,5]:List TypeId).all (fun t=>Tryz.prog.readableRec t&&decide (t<Tryz.prog.types.size))=true:=by kernel_rfl
    have:=List.all_eq_true.1 h4 t (by simpa using ht);simp only [Bool.and_eq_true,decide_eq_true_eq] at this;exact this) rfl (fun ds h=>by
    rw [Tryz.params4] at h
    match ds,h with
    | [_,_],_=>rfl) (tb:=4) (by kernel_rfl) Tryz.underlying4 hW' hb⟩

theorem fc4:joinedFacts Tryz.prog 4 Tryz.f4 Rows.topImagesSpec Rows.topImagesRow=true:=by
  unfold joinedFacts;have hp:Tryz.f4.params.all (Tryz.prog.readableRec ·)=true:=by rw [Tryz.params4];kernel_rfl
  simp only [Bool.and_eq_true];exact ⟨⟨⟨⟨⟨⟨⟨⟨⟨⟨⟨⟨⟨⟨⟨⟨⟨⟨⟨⟨⟨⟨⟨⟨⟨⟨⟨⟨⟨⟨⟨fc4_wf,zt7⟩,zt8⟩,hp⟩,fc4_tie⟩,by kernel_rfl⟩,zpa⟩,by kernel_rfl⟩,zpb⟩,fc4_inp⟩,fc4_unf⟩,fc4_rec⟩,fc4_named⟩,by kernel_rfl⟩,by kernel_rfl⟩,by kernel_rfl⟩,by kernel_rfl⟩,by kernel_rfl⟩,by kernel_rfl⟩,by kernel_rfl⟩,by kernel_rfl⟩,by kernel_rfl⟩,zt9⟩,by kernel_rfl⟩,zpc⟩,zyg⟩,zt5⟩,zt6⟩,by kernel_rfl⟩,by kernel_rfl⟩,by kernel_rfl⟩,by kernel_rfl⟩

theorem law4_row (law:∀ (B:Nat) (r0 c0:Int) (l0:List Int) (n1:Int),(Lit.int .i64 r0).wf=true->(Lit.int .i64 c0).wf=true->l0.length<=maxLen->(∀ n∈l0,(Lit.int .i64 n).wf=true)->(Lit.int .u8 n1).wf=true->(CS Tryz.prog B).fn 4 (.of 4) [.agg [I r0,I c0,Go.Ev.encI l0],.int .u8 n1] .e .z mM=.ok True):Rows.TopImagesSaid :=
  OpenClaim.holds_of_wide 4 Tryz.f4 rfl rfl rfl rfl rfl rfl rfl ⟨rfl,rfl,rfl,rfl,rfl⟩ rfl rfl rfl rfl rfl (by kernel_rfl) Tryz.func4 fc4
    (of_decide_eq_true (by kernel_rfl)) (by unfold Func.isWrapper;first | (rw [if_pos (by decide +kernel)];kernel_rfl) | (rw [if_neg (by decide +kernel)];exact ⟨rfl,rfl⟩))
    (fun os started H enc _=>law4_lifted law os started H enc)

theorem law4_card (law:∀ (B:Nat) (r0 c0:Int) (l0:List Int) (n1:Int),(Lit.int .i64 r0).wf=true->(Lit.int .i64 c0).wf=true->l0.length<=maxLen->(∀ n∈l0,(Lit.int .i64 n).wf=true)->(Lit.int .u8 n1).wf=true->(CS Tryz.prog B).fn 4 (.of 4) [.agg [I r0,I c0,Go.Ev.encI l0],.int .u8 n1] .e .z mM=.ok True):Rows.TopImagesCardSaid :=
  Claim7.holds_tied_plain_at .later [] [.data,.data,.data] true (true, "608fc5b6fd7369ebd95c868e2fd6f861134af690bc3705ffe8cabed3f1899156") false
    (law4_row law) (fun _ h=>by cases h) fc4_wfT (fun _ h=>by cases h) topImages_row_tie rfl ⟨rfl,rfl⟩ zua rfl
    (fun f fn hf hfn=>by
      obtain rfl:f=4:=Option.some.inj ((show Tryz.prog.funcNamed "talisman/talismantop.TopImages" = some 4 by kernel_rfl).symm.trans hf) |>.symm;obtain rfl:fn=Tryz.f4:=(Option.some.inj (Tryz.func4.symm.trans hfn)).symm
      exact ⟨zpd,fun j t ht=>by
        rw [Tryz.params4] at ht;have hm:t∈([44,5]:List TypeId):=by simpa using Array.mem_of_getElem? ht
        have hall:(([44,5]:List TypeId).all fun u => !Tryz.prog.wantsStandIn u)=true:=by kernel_rfl
        exact (show Tryz.prog.wantsStandIn t=false by simpa using List.all_eq_true.1 hall t hm)⟩)
    fc4_goes
end Go.Proofs.YtdclaaahnodljaaGreatDoor
/-
  The law of TopImages.
-/
namespace Go.Proofs.YtdclaaahnodljaaGreatDoor
open Go Go.Ev
theorem zc9 (B:Nat):JOk Tryz.prog B qW:=zpi (fun blk off cap zs w hH hb hz=>Tryz.slices_Sort_int blk off cap zs w hH hb hz) (fun p cap w=>Tryz.slices_Sort_int_none p cap w)
theorem zlx {n:Int} (h:(Lit.int .u8 n).wf=true):0<=n/\n<256:=by
  have e1:IntKind.u8.min=0:=by decide
  have e2:IntKind.u8.max=255:=by decide
  simp only [Lit.wf,Bool.and_eq_true,decide_eq_true_eq,e1,e2] at h;omega
theorem topImages_proved:Rows.TopImagesCardSaid:=law4_card fun B r0 c0 l0 n1 _ _ _ _ h=>by
  obtain ⟨h1,h2⟩:=zlx h;obtain ⟨z,rfl⟩:=Int.eq_ofNat_of_zero_le h1;refine zue zc9 (by omega) (fun {B}=>zyj zc9) _ _ _ _ ?_;rintro _ rfl _;exact if_pos rfl
end Go.Proofs.YtdclaaahnodljaaGreatDoor
