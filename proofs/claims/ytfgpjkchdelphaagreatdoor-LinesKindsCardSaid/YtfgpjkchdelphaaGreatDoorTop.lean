import Derived.Test.YtfgpjkchdelphaaGreatDoorEvC
import Derived.Below
import Derived.Carry
import Derived.ChangeSame
import Derived.WideKeyArgs
import Derived.Test.YtfgpjkchdelphaaGreatDoorCards
import Derived.Lib.LaidTab
import Derived.KernelRfl
import Derived.Test.YtfgpjkchdelphaaGreatDoorEvD
import Derived.Deep.Matrix
import Derived.Lib.SmallJoins
import Derived.Test.YtfgpjkchdelphaaGreatDoorIrT
import Derived.Test.YtfgpjkchdelphaaGreatDoorFcA
import Derived.Test.YtfgpjkchdelphaaGreatDoorFcB
import Derived.Test.YtfgpjkchdelphaaGreatDoorFcC
import Derived.Test.YtfgpjkchdelphaaGreatDoorFcD
import Derived.Test.YtfgpjkchdelphaaGreatDoorFact
import Derived.Test.YtfgpjkchdelphaaGreatDoorTie
import Derived.ProofKit
import Derived.LaidMore
import Derived.OpenShut
import Derived.Stop.Joined
import Derived.SevenTiedAt
import Derived.Test.YtfgpjkchdelphaaGreatDoorWake
import Derived.Test.YtfgpjkchdelphaaGreatDoorWordsb
import Derived.Test.YtfgpjkchdelphaaGreatDoorLaws
set_option linter.unusedSimpArgs false
set_option linter.unusedVariables false
namespace Go.Ev
open Go Go.RowKit Go.ChangeShapes
open Classical
def zb6 (w:World):Prop:=∀ b i v,layC b i=some v->gM w b i=some v
def allE (w:World) (hl:zb6 w):Env:=⟨fun _=>none,gM w,hl⟩
theorem HR.zn1 (P:Program) (w:World) (hl:zb6 w):HR P w.heap.size (allE w hl) .e .z w:={
  blk id hid:=hid.elim (T.ru _ id)
  inj id id' b n n' h1:=(h1 (T.ru _ id)).elim
  fresh _ _:=rfl
  lt id b n hid:=by cases hid
  base:=Nat.le_refl _
  frz b i v h:=by
    refine ⟨?_,fun id n hid=>by cases hid⟩;have h:gM w b i=some v:=h;unfold gM at h;split at h
    · rename_i c ty fr hb;exact ⟨c,ty,fr,hb,h⟩
    · cases h }
noncomputable def dY:Kw Prop:=fun v _ _=>if v=.bool true then .ok True else .no 0
theorem zko {P:Program} {f:Nat} {args:List AV} {vs:Array Value} {w:World} {hl:zb6 w} {fn:Func} (hf:P.funcs[f]? = some fn) (hb:fn.body.isNone=false) (hn:(fn.name == "runtime.NumGoroutine")=false) (hv:VRL (allE w hl) args vs.toList) (h:(CS P w.heap.size).fn f (.of f) args .e .z dY=.ok True) :
    Go.Calls P f vs w fun e w'=>e=.returned (.bool true)/\Below w.heap.size w w':=by
  obtain ⟨_,_,_,_,h⟩:=zfq.fn (HR.zn1 P w hl) hv h;rcases h 0 with ⟨_,_,_,_,h⟩ | ⟨_,v,h,_⟩
  case inr=>rw [gE hf hb hn] at h;cases h
  refine (callsIn_wide.1 h).mono fun e w' hc => ?_;cases e with
  | returned v =>
    obtain ⟨av,h',nx',E',h1,h2,h3,h4⟩:=hc;unfold dY at h1;split at h1
    · rename_i hav;subst hav;simp only [VR] at h2;subst h2;exact ⟨rfl,h4.os,h4.tape,h4.output,h4.size,fun k hk=>h4.keep k hk fun id n hid=>by cases hid⟩
    · cases h1
  | _=>exact hc.elim
section
variable {H:Type} {enc:TypeId×Value->H} {P:Program}
theorem qV (hl:laidOutB P=true) {W W':World} (hb:Below W.heap.size W W') (sp:Nat->Bool):∀ {ts:List TypeId} {vs:List Value} {ds:List (DataW H)} {ps:List MemPlace},
    (∀ t∈ts,P.readableRec t=true/\t<P.types.size)->DataW.TrodAll enc P W 0 (fun _=>true) true ts vs ds ps->(∀ x∈ps,x.block<W.heap.size)->(∀ x∈ps,sp x.block=true)->DataW.TrodAll enc P W' 0 sp true ts vs ds ps
  | [],vs,ds,ps,_,h,_,_=>by
    cases vs <;> cases ds <;> simp only [DataW.TrodAll] at h ⊢ <;> exact h
  | t::ts,vs,ds,ps,ht,h,hlt,hs=>by
    cases vs <;> cases ds <;> simp only [DataW.TrodAll] at h ⊢
    obtain ⟨p,q,h1,h2,rfl⟩:=h;refine ⟨p,q,WideElems.Trod_stays hl (ht t (by simp)).1 (ht t (by simp)).2 h1 (fun x hx=>hb.same (hlt x (by simp [hx]))) (fun x hx=>hs x (by simp [hx])),?_,rfl⟩;exact qV hl hb sp (fun t h=>ht t (by simp [h])) h2 (fun x hx=>hlt x (by simp [hx])) (fun x hx=>hs x (by simp [hx]))
theorem mE {w:World} {base:Nat} {sp:Nat->Bool} {held:Bool}:∀ {ts:List TypeId} {vs:List Value} {ds:List (DataW H)} {ps:List MemPlace},DataW.TrodAll enc P w base sp held ts vs ds ps->ds.length=ts.length
  | [],vs,ds,ps,h=>by cases vs <;> cases ds <;> simp only [DataW.TrodAll] at h <;> rfl
  | t::ts,vs,ds,ps,h=>by
    cases vs <;> cases ds <;> simp only [DataW.TrodAll] at h
    obtain ⟨p,q,_,h2,_⟩:=h;simp [mE h2]
theorem zkp {f:Func} {s:ChangeSpec} {apart fresh handsOn again:Bool} {W W':World} {args:Array Value} {ds gs:List (DataW H)} {before:List MemPlace} {tb:TypeId}
    (hl:laidOutB P=true) (hts:∀ t∈f.params.toList,P.readableRec t=true/\t<P.types.size) (hvars:s.vars=[]) (hfn:∀ ds:List (DataW H),ds.length=f.params.size->s.fn H ds={ results:=[.lit (.bool true)],args:=ds })
    (hr:f.resultTypes = #[tb]) (htb:P.underlying tb=some .bool)
    (hW:DataW.Whole enc P f.params.toList s.vars apart W args.toList ds gs before) (hb:Below W.heap.size W W'):s.post enc P f apart fresh handsOn again W args (.bool true) W':=by
  have hW0:=hW;obtain ⟨p,q,h1,h2,hpq,hz,hn⟩:=hW;rw [hvars] at h2;obtain ⟨rfl,rfl⟩:=ChangeShapes.trodVars_none h2;have hlt:∀ x∈p,x.block<W.heap.size:=fun x hx=>by
    have:=hW0.lt x (by rw [hpq];simp [hx]);simpa using this
  have hs:s.fn H (ds++[])={ results:=[.lit (.bool true)],args:=ds }:=by
    rw [List.append_nil];exact hfn ds (by rw [mE h1];simp)
  have hres:∀ (b:Nat) (sp:Nat->Bool) (hd:Bool),DataW.TrodAll enc P W' b sp hd f.resultTypes.toList ((Value.bool true).resultList f.resultTypes.size) [.lit (.bool true)] []:=by
    intro b sp hd;rw [hr];exact ChangeShapes.trodAll_mk1 ⟨1,by simp [DataW.trod,Value.cells,htb]⟩
  subst hpq;refine ⟨ds,[],p++[],[],p,[],hW0,?_,?_,?_,hb.frame _,fun _=>⟨ok_one hr rfl (okWide_bool_mk htb _),[.lit (.bool true)]++ds,[],[]++p,?_,?_⟩⟩
  · rw [hs];exact hres _ _ _
  · rw [hs];exact qV hl hb _ hts h1 hlt (fun x hx=>by simpa using hlt x hx)
  · rw [hs,hvars];simp [DataW.TrodVars]
  · refine ⟨[]++p,[],trodAll_append (qV hl hb _ hts h1 hlt (fun _ _=>rfl)) (hres _ _ _),by rw [hvars];simp [DataW.TrodVars],by simp,?_,?_⟩
    · intro b off hp;have hp:MemPlace.cell b off∈p:=by simpa using hp
      rw [hb.frozen (hlt _ hp)];exact hz b off (by simpa using hp)
    · intro ha;have:=hn ha;simpa using this
  · intro x hx _;simpa using hx
end
end Go.Ev
namespace Go.Proofs.YtfgpjkchdelphaaGreatDoor
open Go Go.Ev
abbrev zde:List (String×DataW Unit):=[("math/bits.deBruijn32tab",Rows.laid_math_bits_deBruijn32tab),("math/bits.deBruijn64tab",Rows.laid_math_bits_deBruijn64tab),("internal/strconv.uint64pow10",Rows.laid_internal_strconv_uint64pow10)]
def powZ:List Int:=(layG 2).map fun (n:Nat)=>(n:Int)
theorem zte {W:World} (h:laidMetH Tryz.prog zde W):zb6 W:=by
  have h:laidMet Tryz.prog zde W:=h;obtain ⟨ps,⟨_,_,_,_,_,_,_,_,_,_,⟨_,_,_,_,_,_,_,_,_,_,⟨g,t,cs,fuel,p,q,hg,ht,hvar,hd,_,_⟩,_⟩,_⟩,_⟩:=h;obtain rfl:2=g:=Option.some.inj ((show Tryz.prog.globalNamed "internal/strconv.uint64pow10" = some 2 by kernel_rfl).symm.trans hg);obtain rfl:334=t:=Option.some.inj ((show (Tryz.prog.globals[2]?).map (·.type)=some 334 by kernel_rfl).symm.trans ht);have e0:(Rows.laid_internal_strconv_uint64pow10:DataW Unit)=Lib.tabData .u64 powZ:=by kernel_rfl
  rw [e0] at hd;have hcs:cs.toList=powZ.map fun z=>Value.int .u64 z:=Lib.cells_of_tab (n:=20) (e:=264) Tryz.underlying334 Tryz.underlying264 (by kernel_rfl) (by kernel_rfl) hd;intro b i v hb;unfold layC at hb;by_cases hb2:b=2
  case neg =>
    have:layG b=[]:=by
      unfold layG
      rw [show Nat.beq b 2=false from by cases hq:Nat.beq b 2 with
        | false=>rfl
        | true=>exact absurd (Nat.eq_of_beq_eq_true hq) hb2];rfl
    rw [this] at hb;cases hb
  subst hb2;have hv:W.var? Tryz.prog "internal/strconv.uint64pow10" = some cs:=hvar;unfold World.var? at hv;rw [hg] at hv;simp only [Option.bind_some] at hv;unfold gM;split at hv
  · rename_i c ty fr hh;have hc:=Option.some.inj hv;rw [hh];simp only;rw [hc,<- Array.getElem?_toList,hcs];simp only [powZ,List.getElem?_map];cases hq:(layG 2)[i]? with
    | none=>rw [hq] at hb;cases hb
    | some n=>rw [hq] at hb;exact hb
  · cases hv
end Go.Proofs.YtfgpjkchdelphaaGreatDoor
namespace Go.Ev
open Go Go.RowKit Go.ChangeShapes Go.WideShapes Go.Deep Go.Joins
variable {H:Type} {enc:TypeId×Value->H} {P:Program}
theorem vG {w:World} {a:Addr} {i:Nat} {v:Value} (h:w.cell? (a.add i)=some v):a=⟨a.block,a.off,a.spot⟩/\(i=0->a.spot=none)/\gM w a.block (a.off+i)=some v:=by
  unfold Addr.add at h;by_cases hi:i=0
  · subst hi;rw [if_pos rfl] at h;unfold World.cell? at h;split at h
    · rename_i c ty fr hb;split at h
      · cases h
      · rename_i hs;refine ⟨rfl,fun _=>by cases e:a.spot <;> simp_all,?_⟩;simp [gM,hb,h]
    · cases h
  · rw [if_neg hi] at h;unfold World.cell? at h;split at h
    · rename_i c ty fr hb;refine ⟨rfl,fun q=>absurd q hi,?_⟩;simp at h hb;simp [gM,hb,h]
    · cases h
theorem zn2 {E:Env} {b:Nat}:∀ {l:List AV} {off:Nat},(∀ i a,l[i]? = some a->∃ v,E.fz b (off+i)=some v/\VR E a v)->VRF E l b off
  | [],_,_=>by simp only [VRF]
  | a::l,off,h=>by
    simp only [VRF];obtain ⟨v,h1,h2⟩:=h 0 a rfl;refine ⟨v,h1,h2,zn2 fun i x hx => ?_⟩;obtain ⟨v',h3,h4⟩:=h (i+1) x (by simpa using hx);exact ⟨v',by rw [Nat.add_assoc,Nat.add_comm 1 i];exact h3,h4⟩
theorem zvp (l:List Int):(l.map I).all xg=true:=by
  rw [List.all_eq_true];intro v hv;obtain ⟨x,_,rfl⟩:=List.mem_map.1 hv;rfl
theorem zvq {w:World} {hl:zb6 w} {p:Option Addr} {L C:Nat} {Z:List Int} (hL:L<=C) (hZ:Z.length=C) (h0:p=none->C=0) (hc:∀ a,p=some a->∀ c,c<C->w.cell? (a.add c)=some (.int .i64 (Z.getD c 0))) :
    VR (allE w hl) (encI (Z.take L)) (.slice p L C):=by
  have hlen:(Z.take L).length=L:=by rw [List.length_take];omega
  simp only [VR];refine ⟨zvp _,by simp,p,C,by rw [hlen],?_⟩;rw [hlen];cases p with
  | none=>exact .inl ⟨by have:=h0 rfl;omega,fun _=>h0 rfl⟩
  | some a =>
    by_cases hL0:L=0
    · exact .inl ⟨hL0,by intro q;cases q⟩
    · obtain ⟨_,hs,_⟩:=vG (hc a rfl 0 (by omega));obtain ⟨b,off,sp⟩:=a;have:sp=none:=hs rfl;subst this;refine .inr ⟨b,off,rfl,hL,zn2 fun i x hx => ?_⟩;rw [List.getElem?_map] at hx;have hi:i<L:=by
        cases e:(Z.take L)[i]? with
        | none=>rw [e] at hx;cases hx
        | some y=>have:=(List.getElem?_eq_some_iff.1 e).1;omega
      obtain ⟨_,_,h3⟩:=vG (hc _ rfl i (by omega));refine ⟨_,h3,?_⟩;rw [List.getElem?_take,if_pos hi] at hx;cases e:Z[i]? with
      | none=>rw [e] at hx;cases hx
      | some y =>
        rw [e] at hx;have hx:=Option.some.inj hx;subst hx;rw [List.getD_eq_getElem?_getD,e];simp only [VR,Option.getD_some]
theorem zh4 {t e:TypeId} {w:World} {hl:zb6 w} {base:Nat} {held:Bool} {fuel:Nat} {cs:List Value} {x:DataW H×List MemPlace} (ht:P.underlying t=some (.slice e)) (he:P.underlying e=some (.int .i64)) (hc:P.cellsOf e=1)
    (h:DataW.trod enc P w base (fun _=>true) held fuel t cs=some x):∃ (l:List Int) (v:Value),cs=[v]/\VR (allE w hl) (encI l) v/\l.length<=maxLen/\∀ n∈l,(Lit.int .i64 n).wf=true:=by
  rcases open_ints ht he hc h with ⟨rfl,_⟩ | ⟨a,len,cap,zs,rfl,hb,hl,hm,hz,_,hcell,hwz⟩
  · exact ⟨[],_,rfl,by simp only [VR];exact ⟨rfl,rfl,none,0,rfl,.inl ⟨rfl,fun _=>rfl⟩⟩,by simp,by simp⟩
  · simp only [if_true] at hz;refine ⟨zs.take len,_,rfl,zvq hl hz (fun q=>by cases q) (fun a' q c hc=>by cases q;exact hcell c (by rw [hz];exact hc)),by rw [List.length_take];omega,fun n hn=>hwz n (List.mem_of_mem_take hn)⟩
end Go.Ev
namespace Go.Ev
open Go Go.RowKit Go.ChangeShapes Go.WideShapes Go.Deep Go.Joins
variable {H:Type} {enc:TypeId×Value->H} {P:Program}
theorem open_grid {r:Reach} {b0 base:Nat} {held:Bool} {w:World} {hl:zb6 w} {t ti tl:TypeId} {f0 f1 f2:Field} {v:Value} {d:DataW H} {p:List MemPlace} (hs:P.underlying t=some (.struct #[f0,f1,f2])) (hone:oneCellFields P #[f0,f1,f2]=true) (hC:P.cellsOf t=3)
    (e0:f0.type=ti) (e1:f1.type=ti) (e2:f2.type=tl) (u0:P.underlying ti=some (.int .i64)) (u1:P.underlying tl=some (.slice ti)) (c2:P.cellsOf ti=1)
    (hv:Value.okWide P w r b0 t v) (h:DataW.Trod enc P w base (fun _=>true) held t v d p) :
    ∃ (a b:Int) (l:List Int),VR (allE w hl) (.agg [I a,I b,encI l]) v/\(Lit.int .i64 a).wf=true/\(Lit.int .i64 b).wf=true/\l.length<=maxLen/\∀ n∈l,(Lit.int .i64 n).wf=true:=by
  obtain ⟨v0,v1,v2,y0,y1,y2,n,rfl,_,_,h0,h1,h2⟩:=open_agg3 hs hone hC hv h;rw [e0] at h0;rw [e1] at h1;rw [e2] at h2;obtain ⟨x,hx,_,hw⟩:=DataW.trod_int u0 h0;simp only [List.cons.injEq,and_true] at hx;subst hx;obtain ⟨z,hz,_,hw2⟩:=DataW.trod_int u0 h1;simp only [List.cons.injEq,and_true] at hz;subst hz;obtain ⟨l,v',hv',g1,g2,g3⟩:=zh4 (hl:=hl) u1 u0 c2 h2;simp only [List.cons.injEq,and_true] at hv';subst hv';refine ⟨x,z,l,?_,hw,hw2,g2,g3⟩;simp only [VR];exact ⟨rfl,_,rfl,VRL.cons (by simp only [VR]) (VRL.cons (by simp only [VR]) (VRL.cons g1 VRL.nil))⟩
end Go.Ev
/-
  For all arguments the law LinesKinds returns true: the program's functions return what the reference returns, the results or the errors.
  Conditions: none but those of the given statement.
-/
namespace Go.Proofs.YtfgpjkchdelphaaGreatDoor
open Go Go.Ev Go.ChangeShapes Go.WideShapes Go.ChangeAt Go.RowKit

theorem ownK:ownKnob Tryz.prog.godebug=none:=by kernel_rfl
theorem laidOut:laidOutB Tryz.prog=true:=by kernel_rfl
theorem door_met (os:Os) (args:Array Value):laidMetH Tryz.prog zde ((World.doorLaid Tryz.prog 4000 os).forCall (fun _ _=>0) ⟨#[],args,[]⟩).memory :=
  laidMetH_of_parts3 (fuel:=8) (laidMet_of_run' 8 (by kernel_rfl) (by kernel_rfl)) (by kernel_rfl) (by kernel_rfl)

set_option maxRecDepth 100000 in
theorem law13_lifted (law:∀ (B:Nat) (r0 c0:Int) (l0:List Int),(Lit.int .i64 r0).wf=true->(Lit.int .i64 c0).wf=true->l0.length<=maxLen->(∀ n∈l0,(Lit.int .i64 n).wf=true)->(CS Tryz.prog B).fn 13 (.of 13) [.agg [I r0,I c0,Go.Ev.encI l0]] .e .z dY=.ok True)
    (os:Os) (started:os.Started) (H:Type) (enc:TypeId×Value->H) :
    ReturnsInHanded {} Tryz.checked os 13 .any (fun w args=>(Rows.linesKindsSpec.pre enc Tryz.prog Tryz.f13 [] false w args/\laidMetH Tryz.prog zde w)/\sizedMet enc Tryz.prog Tryz.f13 (OpenSpec.ofChange Rows.linesKindsSpec) false w args)
      (Rows.linesKindsSpec.post enc Tryz.prog Tryz.f13 false true false false):=by
  refine returnsInHanded_of_change_and (C:=Tryz.checked) (X:=fun w _=>laidMetH Tryz.prog zde w) (fun _ _ _ hh h=>h.of_heap hh) ownK started (by kernel_rfl) Tryz.func13
    (ChangeSpec.witness_shaped (enc:=enc) (C:=Tryz.checked) (os:=os) (X:=fun w _=>laidMetH Tryz.prog zde w) false (World.doorLaid Tryz.prog 4000 os) #[.agg #[.int .i64 0,.int .i64 0,.slice none 0 0]] 8 rfl (World.shaped_of_RefB (by kernel_rfl) (by kernel_rfl)) (by kernel_rfl) (by kernel_rfl) (by kernel_rfl) (door_met os _)) ?_
  intro W base args ds gs before hval0 hW _ _ hL _;have hval:∀ (j:Nat) t v,Tryz.f13.params[j]? = some t->args[j]? = some v->Value.okWide Tryz.prog W .any base t v:=hval0;have hW':=hW;obtain ⟨p,q,hA0,hV,rfl,hfz,hnd⟩:=hW;have hA:DataW.TrodAll enc Tryz.prog W 0 (fun _=>true) true Tryz.f13.params.toList args.toList ds p:=hA0;rw [Tryz.params13] at hA hval;obtain ⟨v0,d0,rfl,rfl,h0⟩:=trodAll_one hA;obtain ⟨rfl,rfl⟩:=trodVars_none hV;obtain ⟨r0,c0,l0,vr0,w0a,w0b,w0c,w0d⟩:=open_grid (hl:=zte hL) Tryz.underlying80 (by kernel_rfl) (by kernel_rfl) rfl rfl rfl Tryz.underlying3 Tryz.underlying36 (by kernel_rfl) (hval 0 80 v0 rfl rfl) h0;refine (zko Tryz.func13 (by kernel_rfl) (by kernel_rfl) (hl:=zte hL) (args:=[.agg [I r0,I c0,Go.Ev.encI l0]]) (VRL.cons vr0 VRL.nil) (law _ r0 c0 l0 w0a w0b w0c w0d)).mono fun e W' ⟨he,hb⟩ => ?_;subst he
  exact ⟨_,rfl,zkp laidOut (by
    rw [Tryz.params13];intro t ht;have h13:([80]:List TypeId).all (fun t=>Tryz.prog.readableRec t&&decide (t<Tryz.prog.types.size))=true:=by kernel_rfl
    have:=List.all_eq_true.1 h13 t (by simpa using ht);simp only [Bool.and_eq_true,decide_eq_true_eq] at this;exact this) rfl (fun ds h=>by
    rw [Tryz.params13] at h
    match ds,h with
    | [_],_=>rfl) (tb:=4) (by kernel_rfl) Tryz.underlying4 hW' hb⟩

theorem fc13:joinedFacts Tryz.prog 13 Tryz.f13 Rows.linesKindsSpec Rows.linesKindsRow=true:=by
  unfold joinedFacts;have hp:Tryz.f13.params.all (Tryz.prog.readableRec ·)=true:=by rw [Tryz.params13];kernel_rfl
  simp only [Bool.and_eq_true];exact ⟨⟨⟨⟨⟨⟨⟨⟨⟨⟨⟨⟨⟨⟨⟨⟨⟨⟨⟨⟨⟨⟨⟨⟨⟨⟨⟨⟨⟨⟨⟨fc13_wf,zq1⟩,zq2⟩,hp⟩,fc13_tie⟩,by kernel_rfl⟩,znu⟩,by kernel_rfl⟩,znv⟩,fc13_inp⟩,fc13_unf⟩,fc13_rec⟩,fc13_named⟩,by kernel_rfl⟩,by kernel_rfl⟩,by kernel_rfl⟩,by kernel_rfl⟩,by kernel_rfl⟩,by kernel_rfl⟩,by kernel_rfl⟩,by kernel_rfl⟩,by kernel_rfl⟩,zq3⟩,by kernel_rfl⟩,znw⟩,zvn⟩,zqz⟩,zq0⟩,by kernel_rfl⟩,by kernel_rfl⟩,by kernel_rfl⟩,by kernel_rfl⟩

theorem law13_row (law:∀ (B:Nat) (r0 c0:Int) (l0:List Int),(Lit.int .i64 r0).wf=true->(Lit.int .i64 c0).wf=true->l0.length<=maxLen->(∀ n∈l0,(Lit.int .i64 n).wf=true)->(CS Tryz.prog B).fn 13 (.of 13) [.agg [I r0,I c0,Go.Ev.encI l0]] .e .z dY=.ok True):Rows.LinesKindsSaid :=
  OpenClaim.holds_of_wide 13 Tryz.f13 rfl rfl rfl rfl rfl rfl rfl ⟨rfl,rfl,rfl,rfl,rfl⟩ rfl rfl rfl rfl rfl (by kernel_rfl) Tryz.func13 fc13
    (of_decide_eq_true (by kernel_rfl)) (by unfold Func.isWrapper;first | (rw [if_pos (by decide +kernel)];kernel_rfl) | (rw [if_neg (by decide +kernel)];exact ⟨rfl,rfl⟩))
    (fun os started H enc _=>law13_lifted law os started H enc)

theorem law13_card (law:∀ (B:Nat) (r0 c0:Int) (l0:List Int),(Lit.int .i64 r0).wf=true->(Lit.int .i64 c0).wf=true->l0.length<=maxLen->(∀ n∈l0,(Lit.int .i64 n).wf=true)->(CS Tryz.prog B).fn 13 (.of 13) [.agg [I r0,I c0,Go.Ev.encI l0]] .e .z dY=.ok True):Rows.LinesKindsCardSaid :=
  Claim7.holds_tied_plain_at .later [] [.data,.data,.data] true (true, "bfbd5c32764d1e82c9430f3864331234c98e0c76f769b4cd8b6b7ac3cca983d9") false
    (law13_row law) (fun _ h=>by cases h) fc13_wfT (fun _ h=>by cases h) linesKinds_row_tie rfl ⟨rfl,rfl⟩ zq4 rfl
    (fun f fn hf hfn=>by
      obtain rfl:f=13:=Option.some.inj ((show Tryz.prog.funcNamed "talisman/talismanlaw02.LinesKinds" = some 13 by kernel_rfl).symm.trans hf) |>.symm;obtain rfl:fn=Tryz.f13:=(Option.some.inj (Tryz.func13.symm.trans hfn)).symm
      exact ⟨znx,fun j t ht=>by
        rw [Tryz.params13] at ht;have hm:t∈([80]:List TypeId):=by simpa using Array.mem_of_getElem? ht
        have hall:(([80]:List TypeId).all fun u => !Tryz.prog.wantsStandIn u)=true:=by kernel_rfl
        exact (show Tryz.prog.wantsStandIn t=false by simpa using List.all_eq_true.1 hall t hm)⟩)
    fc13_goes
end Go.Proofs.YtfgpjkchdelphaaGreatDoor
/-
  The law of LinesKinds.
-/
namespace Go.Proofs.YtfgpjkchdelphaaGreatDoor
open Go Go.Ev
theorem zkq (B:Nat):JOk Tryz.prog B xY:=zn3 (fun blk off cap zs w hH hb hz=>Tryz.slices_Sort_int blk off cap zs w hH hb hz) (fun p cap w=>Tryz.slices_Sort_int_none p cap w)
theorem linesKinds_proved:Rows.LinesKindsCardSaid:=law13_card fun B r0 c0 l0 _ _ _ _=>by
  refine law13 zkq (fun {B}=>zq6) _ _ _ _ ?_;rintro _ rfl _;exact if_pos rfl
end Go.Proofs.YtfgpjkchdelphaaGreatDoor
