import Derived.Test.YtdclaaahnodljaaGreatDoorEvC
import Derived.Below
import Derived.Carry
import Derived.ChangeSame
import Derived.WideKeyArgs
import Derived.Test.YtdclaaahnodljaaGreatDoorCards
import Derived.Lib.LaidTab
import Derived.KernelRfl
import Derived.Test.YtdclaaahnodljaaGreatDoorEvD
import Derived.Deep.Matrix
import Derived.Lib.SmallJoins
import Derived.Test.YtdclaaahnodljaaGreatDoorWordsa
import Derived.Test.YtdclaaahnodljaaGreatDoorIrT
import Derived.Test.YtdclaaahnodljaaGreatDoorFcA
import Derived.Test.YtdclaaahnodljaaGreatDoorFcB
import Derived.Test.YtdclaaahnodljaaGreatDoorFcC
import Derived.Test.YtdclaaahnodljaaGreatDoorFcD
import Derived.Test.YtdclaaahnodljaaGreatDoorFact
import Derived.Test.YtdclaaahnodljaaGreatDoorTie
import Derived.ProofKit
import Derived.LaidMore
import Derived.OpenShut
import Derived.Stop.Joined
import Derived.SevenTiedAt
import Derived.Test.YtdclaaahnodljaaGreatDoorWake
import Derived.Test.YtdclaaahnodljaaGreatDoorWordsb
import Derived.Test.YtdclaaahnodljaaGreatDoorLaws
set_option linter.unusedSimpArgs false
set_option linter.unusedVariables false
namespace Go.Ev
open Go Go.RowKit Go.ChangeShapes
open Classical
def zcy (w:World):Prop:=∀ b i v,layC b i=some v->uA w b i=some v
def allE (w:World) (hl:zcy w):Env:=⟨fun _=>none,uA w,hl⟩
theorem HR.zo9 (P:Program) (w:World) (hl:zcy w):HR P w.heap.size (allE w hl) .e .z w:={
  blk id hid:=hid.elim (T.fB _ id)
  inj id id' b n n' h1:=(h1 (T.fB _ id)).elim
  fresh _ _:=rfl
  lt id b n hid:=by cases hid
  base:=Nat.le_refl _
  frz b i v h:=by
    refine ⟨?_,fun id n hid=>by cases hid⟩;have h:uA w b i=some v:=h;unfold uA at h;split at h
    · rename_i c ty fr hb;exact ⟨c,ty,fr,hb,h⟩
    · cases h }
noncomputable def mA:Kw Prop:=fun v _ _=>if v=.bool true then .ok True else .no 0
theorem zlz {P:Program} {f:Nat} {args:List AV} {vs:Array Value} {w:World} {hl:zcy w} (hv:VRL (allE w hl) args vs.toList) (h:(CS P w.heap.size).fn f (.of f) args .e .z mA=.ok True) :
    Go.Calls P f vs w fun e w'=>e=.returned (.bool true)/\Below w.heap.size w w':=by
  obtain ⟨_,_,_,_,h⟩:=zfi.fn (HR.zo9 P w hl) hv h;refine (callsIn_wide.1 (h 0)).mono fun e w' hc => ?_;cases e with
  | returned v =>
    obtain ⟨av,h',nx',E',h1,h2,h3,h4⟩:=hc;unfold mA at h1;split at h1
    · rename_i hav;subst hav;simp only [VR] at h2;subst h2;exact ⟨rfl,h4.os,h4.tape,h4.output,h4.size,fun k hk=>h4.keep k hk fun id n hid=>by cases hid⟩
    · cases h1
  | _=>exact hc.elim
section
variable {H:Type} {enc:TypeId×Value->H} {P:Program}
theorem wM (hl:laidOutB P=true) {W W':World} (hb:Below W.heap.size W W') (sp:Nat->Bool):∀ {ts:List TypeId} {vs:List Value} {ds:List (DataW H)} {ps:List MemPlace},
    (∀ t∈ts,P.readableRec t=true/\t<P.types.size)->DataW.TrodAll enc P W 0 (fun _=>true) true ts vs ds ps->(∀ x∈ps,x.block<W.heap.size)->(∀ x∈ps,sp x.block=true)->DataW.TrodAll enc P W' 0 sp true ts vs ds ps
  | [],vs,ds,ps,_,h,_,_=>by
    cases vs <;> cases ds <;> simp only [DataW.TrodAll] at h ⊢ <;> exact h
  | t::ts,vs,ds,ps,ht,h,hlt,hs=>by
    cases vs <;> cases ds <;> simp only [DataW.TrodAll] at h ⊢
    obtain ⟨p,q,h1,h2,rfl⟩:=h;refine ⟨p,q,WideElems.Trod_stays hl (ht t (by simp)).1 (ht t (by simp)).2 h1 (fun x hx=>hb.same (hlt x (by simp [hx]))) (fun x hx=>hs x (by simp [hx])),?_,rfl⟩;exact wM hl hb sp (fun t h=>ht t (by simp [h])) h2 (fun x hx=>hlt x (by simp [hx])) (fun x hx=>hs x (by simp [hx]))
theorem cD {w:World} {base:Nat} {sp:Nat->Bool} {held:Bool}:∀ {ts:List TypeId} {vs:List Value} {ds:List (DataW H)} {ps:List MemPlace},DataW.TrodAll enc P w base sp held ts vs ds ps->ds.length=ts.length
  | [],vs,ds,ps,h=>by cases vs <;> cases ds <;> simp only [DataW.TrodAll] at h <;> rfl
  | t::ts,vs,ds,ps,h=>by
    cases vs <;> cases ds <;> simp only [DataW.TrodAll] at h
    obtain ⟨p,q,_,h2,_⟩:=h;simp [cD h2]
theorem zl0 {f:Func} {s:ChangeSpec} {apart fresh handsOn again:Bool} {W W':World} {args:Array Value} {ds gs:List (DataW H)} {before:List MemPlace} {tb:TypeId}
    (hl:laidOutB P=true) (hts:∀ t∈f.params.toList,P.readableRec t=true/\t<P.types.size) (hvars:s.vars=[]) (hfn:∀ ds:List (DataW H),ds.length=f.params.size->s.fn H ds={ results:=[.lit (.bool true)],args:=ds })
    (hr:f.resultTypes = #[tb]) (htb:P.underlying tb=some .bool)
    (hW:DataW.Whole enc P f.params.toList s.vars apart W args.toList ds gs before) (hb:Below W.heap.size W W'):s.post enc P f apart fresh handsOn again W args (.bool true) W':=by
  have hW0:=hW;obtain ⟨p,q,h1,h2,hpq,hz,hn⟩:=hW;rw [hvars] at h2;obtain ⟨rfl,rfl⟩:=ChangeShapes.trodVars_none h2;have hlt:∀ x∈p,x.block<W.heap.size:=fun x hx=>by
    have:=hW0.lt x (by rw [hpq];simp [hx]);simpa using this
  have hs:s.fn H (ds++[])={ results:=[.lit (.bool true)],args:=ds }:=by
    rw [List.append_nil];exact hfn ds (by rw [cD h1];simp)
  have hres:∀ (b:Nat) (sp:Nat->Bool) (hd:Bool),DataW.TrodAll enc P W' b sp hd f.resultTypes.toList ((Value.bool true).resultList f.resultTypes.size) [.lit (.bool true)] []:=by
    intro b sp hd;rw [hr];exact ChangeShapes.trodAll_mk1 ⟨1,by simp [DataW.trod,Value.cells,htb]⟩
  subst hpq;refine ⟨ds,[],p++[],[],p,[],hW0,?_,?_,?_,hb.frame _,fun _=>⟨ok_one hr rfl (okWide_bool_mk htb _),[.lit (.bool true)]++ds,[],[]++p,?_,?_⟩⟩
  · rw [hs];exact hres _ _ _
  · rw [hs];exact wM hl hb _ hts h1 hlt (fun x hx=>by simpa using hlt x hx)
  · rw [hs,hvars];simp [DataW.TrodVars]
  · refine ⟨[]++p,[],trodAll_append (wM hl hb _ hts h1 hlt (fun _ _=>rfl)) (hres _ _ _),by rw [hvars];simp [DataW.TrodVars],by simp,?_,?_⟩
    · intro b off hp;have hp:MemPlace.cell b off∈p:=by simpa using hp
      rw [hb.frozen (hlt _ hp)];exact hz b off (by simpa using hp)
    · intro ha;have:=hn ha;simpa using this
  · intro x hx _;simpa using hx
end
end Go.Ev
namespace Go.Proofs.YtdclaaahnodljaaGreatDoor
open Go Go.Ev
abbrev zcz:List (String×DataW Unit):=[("math/bits.deBruijn32tab",Rows.laid_math_bits_deBruijn32tab),("math/bits.deBruijn64tab",Rows.laid_math_bits_deBruijn64tab),("internal/strconv.uint64pow10",Rows.laid_internal_strconv_uint64pow10)]
def powZ:List Int:=(layG 2).map fun (n:Nat)=>(n:Int)
theorem zt8 {W:World} (h:laidMetH Tryz.prog zcz W):zcy W:=by
  have h:laidMet Tryz.prog zcz W:=h;obtain ⟨ps,⟨_,_,_,_,_,_,_,_,_,_,⟨_,_,_,_,_,_,_,_,_,_,⟨g,t,cs,fuel,p,q,hg,ht,hvar,hd,_,_⟩,_⟩,_⟩,_⟩:=h;obtain rfl:2=g:=Option.some.inj ((show Tryz.prog.globalNamed "internal/strconv.uint64pow10" = some 2 by kernel_rfl).symm.trans hg);obtain rfl:308=t:=Option.some.inj ((show (Tryz.prog.globals[2]?).map (·.type)=some 308 by kernel_rfl).symm.trans ht);have e0:(Rows.laid_internal_strconv_uint64pow10:DataW Unit)=Lib.tabData .u64 powZ:=by kernel_rfl
  rw [e0] at hd;have hcs:cs.toList=powZ.map fun z=>Value.int .u64 z:=Lib.cells_of_tab (n:=20) (e:=229) Tryz.underlying308 Tryz.underlying229 (by kernel_rfl) (by kernel_rfl) hd;intro b i v hb;unfold layC at hb;by_cases hb2:b=2
  case neg =>
    have:layG b=[]:=by
      unfold layG
      rw [show Nat.beq b 2=false from by cases hq:Nat.beq b 2 with
        | false=>rfl
        | true=>exact absurd (Nat.eq_of_beq_eq_true hq) hb2];rfl
    rw [this] at hb;cases hb
  subst hb2;have hv:W.var? Tryz.prog "internal/strconv.uint64pow10" = some cs:=hvar;unfold World.var? at hv;rw [hg] at hv;simp only [Option.bind_some] at hv;unfold uA;split at hv
  · rename_i c ty fr hh;have hc:=Option.some.inj hv;rw [hh];simp only;rw [hc,<- Array.getElem?_toList,hcs];simp only [powZ,List.getElem?_map];cases hq:(layG 2)[i]? with
    | none=>rw [hq] at hb;cases hb
    | some n=>rw [hq] at hb;exact hb
  · cases hv
end Go.Proofs.YtdclaaahnodljaaGreatDoor
namespace Go.Ev
open Go Go.RowKit Go.ChangeShapes Go.WideShapes Go.Deep Go.Joins
variable {H:Type} {enc:TypeId×Value->H} {P:Program}
theorem wG {w:World} {a:Addr} {i:Nat} {v:Value} (h:w.cell? (a.add i)=some v):a=⟨a.block,a.off,a.spot⟩/\(i=0->a.spot=none)/\uA w a.block (a.off+i)=some v:=by
  unfold Addr.add at h;by_cases hi:i=0
  · subst hi;rw [if_pos rfl] at h;unfold World.cell? at h;split at h
    · rename_i c ty fr hb;split at h
      · cases h
      · rename_i hs;refine ⟨rfl,fun _=>by cases e:a.spot <;> simp_all,?_⟩;simp [uA,hb,h]
    · cases h
  · rw [if_neg hi] at h;unfold World.cell? at h;split at h
    · rename_i c ty fr hb;refine ⟨rfl,fun q=>absurd q hi,?_⟩;simp at h hb;simp [uA,hb,h]
    · cases h
theorem zpa {E:Env} {b:Nat}:∀ {l:List AV} {off:Nat},(∀ i a,l[i]? = some a->∃ v,E.fz b (off+i)=some v/\VR E a v)->VRF E l b off
  | [],_,_=>by simp only [VRF]
  | a::l,off,h=>by
    simp only [VRF];obtain ⟨v,h1,h2⟩:=h 0 a rfl;refine ⟨v,h1,h2,zpa fun i x hx => ?_⟩;obtain ⟨v',h3,h4⟩:=h (i+1) x (by simpa using hx);exact ⟨v',by rw [Nat.add_assoc,Nat.add_comm 1 i];exact h3,h4⟩
end Go.Ev
namespace Go.Ev
open Go Go.RowKit Go.ChangeShapes Go.WideShapes Go.Deep Go.Joins
variable {H:Type} {enc:TypeId×Value->H} {P:Program}
theorem zbt:∀ (q:List (Int×Int)) (i:Nat),(jZ q)[i]? = (q[i / 2]?).map fun p=>if i%2=0 then I p.1 else I p.2
  | [],i=>by simp [jZ]
  | p::q,0=>rfl
  | p::q,1=>rfl
  | p::q,i+2=>by
    show (I p.1::I p.2::jZ q)[i+2]? = _;rw [List.getElem?_cons_succ,List.getElem?_cons_succ,zbt q i,show (i+2) / 2=i / 2+1 by omega,show (i+2)%2=i%2 by omega,List.getElem?_cons_succ]
theorem zix {t e q:TypeId} {w:World} {hl:zcy w} {base:Nat} {held:Bool} {fuel:Nat} {cs:List Value} {x:DataW H×List MemPlace} (ht:P.underlying t=some (.slice e)) (he:P.underlying e=some (.array 2 q)) (hq:P.underlying q=some (.int .i64))
    (ce:P.cellsOf e=2) (cq:P.cellsOf q=1) (h:DataW.trod enc P w base (fun _=>true) held fuel t cs=some x) :
    ∃ (l:List (Int×Int)) (v:Value),cs=[v]/\VR (allE w hl) (ql l) v/\l.length<=maxLen:=by
  rcases open_slice ht h with ⟨rfl,_⟩ | ⟨a,len,cap,m,n,D,Pl,rfl,hb,hl,hm,hmm,_,hx⟩
  · exact ⟨[],_,rfl,by simp only [VR];exact ⟨rfl,rfl,none,0,rfl,.inl ⟨rfl,fun _=>rfl⟩⟩,by simp⟩
  · have each:∀ i,i<len->∃ p:Int×Int,w.cell? (a.add (i*2))=some (.int .i64 p.1)/\w.cell? (a.add (i*2+1))=some (.int .i64 p.2):=by
      intro i hi;obtain ⟨cs',h1,h2⟩:=hx i (by rw [hmm,if_pos rfl];omega);rw [ce] at h1;obtain ⟨_,hlen,hcell⟩:=World.cells?_some h1;obtain ⟨xs,k,hk,_,_,hxl,hf⟩:=DataW.trod_array he h2
      match xs,hxl,cs',hlen with
      | [y0,y1],_,[v0,v1],_ =>
        have g0:=hf 0 (by omega);have g1:=hf 1 (by omega);simp [cq] at g0 g1;obtain ⟨p0,q0,_⟩:=DataW.trod_int hq g0;obtain ⟨p1,q1,_⟩:=DataW.trod_int hq g1;simp only [List.cons.injEq,and_true] at q0 q1;subst q0 q1;have e0:=hcell 0 (by omega);have e1:=hcell 1 (by omega);rw [add_add] at e0 e1;exact ⟨(p0,p1),by simpa using e0,by simpa using e1⟩
    obtain ⟨Q,hQ⟩:=choose_lt each;refine ⟨(List.range len).map Q,_,rfl,?_,by simp;omega⟩;simp only [VR];refine ⟨ziy,zl1 _,some a,cap,by simp,?_⟩;by_cases h0:len=0
    · exact .inl ⟨by simp [h0],by intro q;cases q⟩
    · obtain ⟨_,hs,_⟩:=wG (hQ 0 (by omega)).1;obtain ⟨b,off,sp⟩:=a;have:sp=none:=hs (by omega);subst this;refine .inr ⟨b,off,rfl,by simpa using hl,zpa fun i x hx => ?_⟩;rw [zbt] at hx;have hi:i / 2<len:=by
        cases e:((List.range len).map Q)[i / 2]? with
        | none=>rw [e] at hx;cases hx
        | some y=>have:=(List.getElem?_eq_some_iff.1 e).1;simpa using this
      rw [List.getElem?_map,List.getElem?_range hi] at hx;have hx:=Option.some.inj hx;obtain ⟨g0,g1⟩:=hQ (i / 2) hi;by_cases c:i%2=0
      · simp only [if_pos c] at hx;obtain ⟨_,_,h3⟩:=wG g0;subst hx;refine ⟨_,(show off+i=off+i / 2*2 by omega) ▸ h3,by simp only [VR]⟩
      · simp only [if_neg c] at hx;obtain ⟨_,_,h3⟩:=wG g1;subst hx;refine ⟨_,(show off+i=off+(i / 2*2+1) by omega) ▸ h3,by simp only [VR]⟩
theorem ziz {r:Reach} {b0 base:Nat} {held:Bool} {w:World} {hl:zcy w} {t ti tl tr:TypeId} {f0 f1:Field} {v:Value} {d:DataW H} {p:List MemPlace} (hs:P.underlying t=some (.struct #[f0,f1])) (hone:oneCellFields P #[f0,f1]=true) (hC:P.cellsOf t=2)
    (e0:f0.type=ti) (e1:f1.type=tl) (u0:P.underlying ti=some (.int .i64)) (u1:P.underlying tl=some (.slice tr)) (u2:P.underlying tr=some (.array 2 ti)) (c1:P.cellsOf tr=2) (c2:P.cellsOf ti=1)
    (hv:Value.okWide P w r b0 t v) (h:DataW.Trod enc P w base (fun _=>true) held t v d p) :
    ∃ (c:Int) (l:List (Int×Int)),VR (allE w hl) (.agg [I c,ql l]) v/\(Lit.int .i64 c).wf=true/\l.length<=maxLen:=by
  obtain ⟨v0,v1,y0,y1,n,rfl,_,_,h0,h1⟩:=open_agg2 hs hone hC hv h;rw [e0] at h0;rw [e1] at h1;obtain ⟨x,hx,_,hw⟩:=DataW.trod_int u0 h0;simp only [List.cons.injEq,and_true] at hx;subst hx;obtain ⟨l,v',hv',g1,g2⟩:=zix u1 u2 u0 c1 c2 h1;simp only [List.cons.injEq,and_true] at hv';subst hv';refine ⟨x,l,?_,hw,g2⟩;simp only [VR];exact ⟨rfl,_,rfl,VRL.cons (by simp only [VR]) (VRL.cons g1 VRL.nil)⟩
end Go.Ev
/-
  For all arguments the law TopCharmLabels returns true: the program's functions return what the reference returns, the results or the errors.
  Conditions: none but those of the given statement.
-/
namespace Go.Proofs.YtdclaaahnodljaaGreatDoor
open Go Go.Ev Go.ChangeShapes Go.WideShapes Go.ChangeAt Go.RowKit

theorem ownK:ownKnob Tryz.prog.godebug=none:=by kernel_rfl
theorem laidOut:laidOutB Tryz.prog=true:=by kernel_rfl
theorem door_met (os:Os) (args:Array Value):laidMetH Tryz.prog zcz ((World.doorLaid Tryz.prog 4000 os).forCall (fun _ _=>0) ⟨#[],args,[]⟩).memory :=
  laidMetH_of_parts3 (fuel:=8) (laidMet_of_run' 8 (by kernel_rfl) (by kernel_rfl)) (by kernel_rfl) (by kernel_rfl)

set_option maxRecDepth 100000 in
theorem law3_lifted (law:∀ (B:Nat) (c0:Int) (l0:List (Int×Int)) (n1:Int),(Lit.int .i64 c0).wf=true->l0.length<=maxLen->(Lit.int .u8 n1).wf=true->(CS Tryz.prog B).fn 3 (.of 3) [.agg [I c0,ql l0],.int .u8 n1] .e .z mA=.ok True)
    (os:Os) (started:os.Started) (H:Type) (enc:TypeId×Value->H) :
    ReturnsInHanded {} Tryz.checked os 3 .any (fun w args=>(Rows.topCharmLabelsSpec.pre enc Tryz.prog Tryz.f3 [] false w args/\laidMetH Tryz.prog zcz w)/\sizedMet enc Tryz.prog Tryz.f3 (OpenSpec.ofChange Rows.topCharmLabelsSpec) false w args)
      (Rows.topCharmLabelsSpec.post enc Tryz.prog Tryz.f3 false true false false):=by
  refine returnsInHanded_of_change_and (C:=Tryz.checked) (X:=fun w _=>laidMetH Tryz.prog zcz w) (fun _ _ _ hh h=>h.of_heap hh) ownK started (by kernel_rfl) Tryz.func3
    (ChangeSpec.witness_shaped (enc:=enc) (C:=Tryz.checked) (os:=os) (X:=fun w _=>laidMetH Tryz.prog zcz w) false (World.doorLaid Tryz.prog 4000 os) #[.agg #[.int .i64 0,.slice none 0 0],.int .u8 0] 8 rfl (World.shaped_of_RefB (by kernel_rfl) (by kernel_rfl)) (by kernel_rfl) (by kernel_rfl) (by kernel_rfl) (door_met os _)) ?_
  intro W base args ds gs before hval0 hW _ _ hL _;have hval:∀ (j:Nat) t v,Tryz.f3.params[j]? = some t->args[j]? = some v->Value.okWide Tryz.prog W .any base t v:=hval0;have hW':=hW;obtain ⟨p,q,hA0,hV,rfl,hfz,hnd⟩:=hW;have hA:DataW.TrodAll enc Tryz.prog W 0 (fun _=>true) true Tryz.f3.params.toList args.toList ds p:=hA0;rw [Tryz.params3] at hA hval;obtain ⟨v0,v1,d0,d1,p0,p1,rfl,rfl,rfl,h0,h1⟩:=trodAll_two hA;obtain ⟨rfl,rfl⟩:=trodVars_none hV;obtain ⟨c0,l0,vr0,w0a,w0b⟩:=ziz (hl:=zt8 hL) Tryz.underlying24 (by kernel_rfl) (by kernel_rfl) rfl rfl Tryz.underlying3 Tryz.underlying22 Tryz.underlying35 (by kernel_rfl) (by kernel_rfl) (hval 0 24 v0 rfl rfl) h0;obtain ⟨n1,rfl,rfl,rfl,w1⟩:=open_int Tryz.underlying5 (hval 1 5 v1 rfl rfl) h1;refine (zlz (hl:=zt8 hL) (args:=[.agg [I c0,ql l0],.int .u8 n1]) (VRL.cons vr0 (VRL.cons (by simp only [VR]) VRL.nil)) (law _ c0 l0 n1 w0a w0b w1)).mono fun e W' ⟨he,hb⟩ => ?_;subst he
  exact ⟨_,rfl,zl0 laidOut (by
    rw [Tryz.params3];intro t ht;have h3:([24,5]:List TypeId).all (fun t=>Tryz.prog.readableRec t&&decide (t<Tryz.prog.types.size))=true:=by kernel_rfl
    have:=List.all_eq_true.1 h3 t (by simpa using ht);simp only [Bool.and_eq_true,decide_eq_true_eq] at this;exact this) rfl (fun ds h=>by
    rw [Tryz.params3] at h
    match ds,h with
    | [_,_],_=>rfl) (tb:=4) (by kernel_rfl) Tryz.underlying4 hW' hb⟩

theorem fc3:joinedFacts Tryz.prog 3 Tryz.f3 Rows.topCharmLabelsSpec Rows.topCharmLabelsRow=true:=by
  unfold joinedFacts;have hp:Tryz.f3.params.all (Tryz.prog.readableRec ·)=true:=by rw [Tryz.params3];kernel_rfl
  simp only [Bool.and_eq_true];exact ⟨⟨⟨⟨⟨⟨⟨⟨⟨⟨⟨⟨⟨⟨⟨⟨⟨⟨⟨⟨⟨⟨⟨⟨⟨⟨⟨⟨⟨⟨⟨fc3_wf,zse⟩,zsf⟩,hp⟩,fc3_tie⟩,by kernel_rfl⟩,zo3⟩,by kernel_rfl⟩,zo4⟩,fc3_inp⟩,fc3_unf⟩,fc3_rec⟩,fc3_named⟩,by kernel_rfl⟩,by kernel_rfl⟩,by kernel_rfl⟩,by kernel_rfl⟩,by kernel_rfl⟩,by kernel_rfl⟩,by kernel_rfl⟩,by kernel_rfl⟩,by kernel_rfl⟩,zsg⟩,by kernel_rfl⟩,zo5⟩,zv9⟩,zsc⟩,zsd⟩,by kernel_rfl⟩,by kernel_rfl⟩,by kernel_rfl⟩,by kernel_rfl⟩

theorem law3_row (law:∀ (B:Nat) (c0:Int) (l0:List (Int×Int)) (n1:Int),(Lit.int .i64 c0).wf=true->l0.length<=maxLen->(Lit.int .u8 n1).wf=true->(CS Tryz.prog B).fn 3 (.of 3) [.agg [I c0,ql l0],.int .u8 n1] .e .z mA=.ok True):Rows.TopCharmLabelsSaid :=
  OpenClaim.holds_of_wide 3 Tryz.f3 rfl rfl rfl rfl rfl rfl rfl ⟨rfl,rfl,rfl,rfl,rfl⟩ rfl rfl rfl rfl rfl (by kernel_rfl) Tryz.func3 fc3
    (of_decide_eq_true (by kernel_rfl)) (by unfold Func.isWrapper;first | (rw [if_pos (by decide +kernel)];kernel_rfl) | (rw [if_neg (by decide +kernel)];exact ⟨rfl,rfl⟩))
    (fun os started H enc _=>law3_lifted law os started H enc)

theorem law3_card (law:∀ (B:Nat) (c0:Int) (l0:List (Int×Int)) (n1:Int),(Lit.int .i64 c0).wf=true->l0.length<=maxLen->(Lit.int .u8 n1).wf=true->(CS Tryz.prog B).fn 3 (.of 3) [.agg [I c0,ql l0],.int .u8 n1] .e .z mA=.ok True):Rows.TopCharmLabelsCardSaid :=
  Claim7.holds_tied_plain_at .later [] [.data,.data,.data] true (true, "608fc5b6fd7369ebd95c868e2fd6f861134af690bc3705ffe8cabed3f1899156") false
    (law3_row law) (fun _ h=>by cases h) fc3_wfT (fun _ h=>by cases h) topCharmLabels_row_tie rfl ⟨rfl,rfl⟩ zsh rfl
    (fun f fn hf hfn=>by
      obtain rfl:f=3:=Option.some.inj ((show Tryz.prog.funcNamed "talisman/talismantop.TopCharmLabels" = some 3 by kernel_rfl).symm.trans hf) |>.symm;obtain rfl:fn=Tryz.f3:=(Option.some.inj (Tryz.func3.symm.trans hfn)).symm
      exact ⟨zo6,fun j t ht=>by
        rw [Tryz.params3] at ht;have hm:t∈([24,5]:List TypeId):=by simpa using Array.mem_of_getElem? ht
        have hall:(([24,5]:List TypeId).all fun u => !Tryz.prog.wantsStandIn u)=true:=by kernel_rfl
        exact (show Tryz.prog.wantsStandIn t=false by simpa using List.all_eq_true.1 hall t hm)⟩)
    fc3_goes
end Go.Proofs.YtdclaaahnodljaaGreatDoor
/-
  The law of TopCharmLabels.
-/
namespace Go.Proofs.YtdclaaahnodljaaGreatDoor
open Go Go.Ev
theorem zl2 (B:Nat):JOk Tryz.prog B kD:=zpb (fun blk off cap zs w hH hb hz=>Tryz.slices_Sort_int blk off cap zs w hH hb hz) (fun p cap w=>Tryz.slices_Sort_int_none p cap w)
theorem zl3 {n:Int} (h:(Lit.int .u8 n).wf=true):0<=n/\n<256:=by
  have e1:IntKind.u8.min=0:=by decide
  have e2:IntKind.u8.max=255:=by decide
  simp only [Lit.wf,Bool.and_eq_true,decide_eq_true_eq,e1,e2] at h;omega
theorem topCharmLabels_proved:Rows.TopCharmLabelsCardSaid:=law3_card fun B c0 l0 n1 _ _ h=>by
  obtain ⟨h1,h2⟩:=zl3 h;obtain ⟨z,rfl⟩:=Int.eq_ofNat_of_zero_le h1;refine law3 zl2 (by omega) (fun {B}=>zwa) _ _ _ _ ?_;rintro _ rfl _;exact if_pos rfl
end Go.Proofs.YtdclaaahnodljaaGreatDoor
