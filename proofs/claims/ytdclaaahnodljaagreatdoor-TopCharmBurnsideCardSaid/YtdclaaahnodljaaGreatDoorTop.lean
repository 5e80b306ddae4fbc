import Derived.Test.YtdclaaahnodljaaGreatDoorEvC
import Derived.Below
import Derived.Carry
import Derived.ChangeSame
import Derived.WideKeyArgs
import Derived.Test.YtdclaaahnodljaaGreatDoorCards
import Derived.Lib.LaidTab
import Derived.KernelRfl
import Derived.Test.YtdclaaahnodljaaGreatDoorEvD
import Derived.Deep.Matrix
import Derived.Lib.SmallJoins
import Derived.Deep.SlicePairs
import Derived.Test.YtdclaaahnodljaaGreatDoorIrT
import Derived.Test.YtdclaaahnodljaaGreatDoorFcA
import Derived.Test.YtdclaaahnodljaaGreatDoorFcB
import Derived.Test.YtdclaaahnodljaaGreatDoorFcC
import Derived.Test.YtdclaaahnodljaaGreatDoorFcD
import Derived.Test.YtdclaaahnodljaaGreatDoorFact
import Derived.Test.YtdclaaahnodljaaGreatDoorTie
import Derived.ProofKit
import Derived.LaidMore
import Derived.OpenShut
import Derived.Stop.Joined
import Derived.SevenTiedAt
import Derived.Test.YtdclaaahnodljaaGreatDoorWake
import Derived.Test.YtdclaaahnodljaaGreatDoorWordsb
set_option linter.unusedSimpArgs false
set_option linter.unusedVariables false
namespace Go.Ev
open Go Go.RowKit Go.ChangeShapes
open Classical
def zbj (w:World):Prop:=∀ b i v,oM b i=some v->gH w b i=some v
def allE (w:World) (hl:zbj w):Env:=⟨fun _=>none,gH w,hl⟩
theorem HR.znj (P:Program) (w:World) (hl:zbj w):HR P w.heap.size (allE w hl) .e .z w:={
  blk id hid:=hid.elim (T.vk _ id)
  inj id id' b n n' h1:=(h1 (T.vk _ id)).elim
  fresh _ _:=rfl
  lt id b n hid:=by cases hid
  base:=Nat.le_refl _
  frz b i v h:=by
    refine ⟨?_,fun id n hid=>by cases hid⟩;have h:gH w b i=some v:=h;unfold gH at h;split at h
    · rename_i c ty fr hb;exact ⟨c,ty,fr,hb,h⟩
    · cases h }
noncomputable def d6:Kw Prop:=fun v _ _=>if v=.bool true then .ok True else .no 0
theorem zke {P:Program} {f:Nat} {args:List AV} {vs:Array Value} {w:World} {hl:zbj w} (hv:VRL (allE w hl) args vs.toList) (h:(CS P w.heap.size).fn f (.of f) args .e .z d6=.ok True) :
    Go.Calls P f vs w fun e w'=>e=.returned (.bool true)/\Below w.heap.size w w':=by
  obtain ⟨_,_,_,_,h⟩:=ze2.fn (HR.znj P w hl) hv h;refine (callsIn_wide.1 (h 0)).mono fun e w' hc => ?_;cases e with
  | returned v =>
    obtain ⟨av,h',nx',E',h1,h2,h3,h4⟩:=hc;unfold d6 at h1;split at h1
    · rename_i hav;subst hav;simp only [VR] at h2;subst h2;exact ⟨rfl,h4.os,h4.tape,h4.output,h4.size,fun k hk=>h4.keep k hk fun id n hid=>by cases hid⟩
    · cases h1
  | _=>exact hc.elim
section
variable {H:Type} {enc:TypeId×Value->H} {P:Program}
theorem qZ (hl:laidOutB P=true) {W W':World} (hb:Below W.heap.size W W') (sp:Nat->Bool):∀ {ts:List TypeId} {vs:List Value} {ds:List (DataW H)} {ps:List MemPlace},
    (∀ t∈ts,P.readableRec t=true/\t<P.types.size)->DataW.TrodAll enc P W 0 (fun _=>true) true ts vs ds ps->(∀ x∈ps,x.block<W.heap.size)->(∀ x∈ps,sp x.block=true)->DataW.TrodAll enc P W' 0 sp true ts vs ds ps
  | [],vs,ds,ps,_,h,_,_=>by
    cases vs <;> cases ds <;> simp only [DataW.TrodAll] at h ⊢ <;> exact h
  | t::ts,vs,ds,ps,ht,h,hlt,hs=>by
    cases vs <;> cases ds <;> simp only [DataW.TrodAll] at h ⊢
    obtain ⟨p,q,h1,h2,rfl⟩:=h;refine ⟨p,q,WideElems.Trod_stays hl (ht t (by simp)).1 (ht t (by simp)).2 h1 (fun x hx=>hb.same (hlt x (by simp [hx]))) (fun x hx=>hs x (by simp [hx])),?_,rfl⟩;exact qZ hl hb sp (fun t h=>ht t (by simp [h])) h2 (fun x hx=>hlt x (by simp [hx])) (fun x hx=>hs x (by simp [hx]))
theorem mI {w:World} {base:Nat} {sp:Nat->Bool} {held:Bool}:∀ {ts:List TypeId} {vs:List Value} {ds:List (DataW H)} {ps:List MemPlace},DataW.TrodAll enc P w base sp held ts vs ds ps->ds.length=ts.length
  | [],vs,ds,ps,h=>by cases vs <;> cases ds <;> simp only [DataW.TrodAll] at h <;> rfl
  | t::ts,vs,ds,ps,h=>by
    cases vs <;> cases ds <;> simp only [DataW.TrodAll] at h
    obtain ⟨p,q,_,h2,_⟩:=h;simp [mI h2]
theorem zkf {f:Func} {s:ChangeSpec} {apart fresh handsOn again:Bool} {W W':World} {args:Array Value} {ds gs:List (DataW H)} {before:List MemPlace} {tb:TypeId}
    (hl:laidOutB P=true) (hts:∀ t∈f.params.toList,P.readableRec t=true/\t<P.types.size) (hvars:s.vars=[]) (hfn:∀ ds:List (DataW H),ds.length=f.params.size->s.fn H ds={ results:=[.lit (.bool true)],args:=ds })
    (hr:f.resultTypes = #[tb]) (htb:P.underlying tb=some .bool)
    (hW:DataW.Whole enc P f.params.toList s.vars apart W args.toList ds gs before) (hb:Below W.heap.size W W'):s.post enc P f apart fresh handsOn again W args (.bool true) W':=by
  have hW0:=hW;obtain ⟨p,q,h1,h2,hpq,hz,hn⟩:=hW;rw [hvars] at h2;obtain ⟨rfl,rfl⟩:=ChangeShapes.trodVars_none h2;have hlt:∀ x∈p,x.block<W.heap.size:=fun x hx=>by
    have:=hW0.lt x (by rw [hpq];simp [hx]);simpa using this
  have hs:s.fn H (ds++[])={ results:=[.lit (.bool true)],args:=ds }:=by
    rw [List.append_nil];exact hfn ds (by rw [mI h1];simp)
  have hres:∀ (b:Nat) (sp:Nat->Bool) (hd:Bool),DataW.TrodAll enc P W' b sp hd f.resultTypes.toList ((Value.bool true).resultList f.resultTypes.size) [.lit (.bool true)] []:=by
    intro b sp hd;rw [hr];exact ChangeShapes.trodAll_mk1 ⟨1,by simp [DataW.trod,Value.cells,htb]⟩
  subst hpq;refine ⟨ds,[],p++[],[],p,[],hW0,?_,?_,?_,hb.frame _,fun _=>⟨ok_one hr rfl (okWide_bool_mk htb _),[.lit (.bool true)]++ds,[],[]++p,?_,?_⟩⟩
  · rw [hs];exact hres _ _ _
  · rw [hs];exact qZ hl hb _ hts h1 hlt (fun x hx=>by simpa using hlt x hx)
  · rw [hs,hvars];simp [DataW.TrodVars]
  · refine ⟨[]++p,[],trodAll_append (qZ hl hb _ hts h1 hlt (fun _ _=>rfl)) (hres _ _ _),by rw [hvars];simp [DataW.TrodVars],by simp,?_,?_⟩
    · intro b off hp;have hp:MemPlace.cell b off∈p:=by simpa using hp
      rw [hb.frozen (hlt _ hp)];exact hz b off (by simpa using hp)
    · intro ha;have:=hn ha;simpa using this
  · intro x hx _;simpa using hx
end
end Go.Ev
namespace Go.Proofs.YtdclaaahnodljaaGreatDoor
open Go Go.Ev
abbrev zcg:List (String×DataW Unit):=[("math/bits.deBruijn32tab",Rows.laid_math_bits_deBruijn32tab),("math/bits.deBruijn64tab",Rows.laid_math_bits_deBruijn64tab),("internal/strconv.uint64pow10",Rows.laid_internal_strconv_uint64pow10)]
def powZ:List Int:=(layG 2).map fun (n:Nat)=>(n:Int)
theorem zrh {W:World} (h:laidMetH Tryz.prog zcg W):zbj W:=by
  have h:laidMet Tryz.prog zcg W:=h;obtain ⟨ps,⟨_,_,_,_,_,_,_,_,_,_,⟨_,_,_,_,_,_,_,_,_,_,⟨g,t,cs,fuel,p,q,hg,ht,hvar,hd,_,_⟩,_⟩,_⟩,_⟩:=h;obtain rfl:2=g:=Option.some.inj ((show Tryz.prog.globalNamed "internal/strconv.uint64pow10" = some 2 by kernel_rfl).symm.trans hg);obtain rfl:308=t:=Option.some.inj ((show (Tryz.prog.globals[2]?).map (·.type)=some 308 by kernel_rfl).symm.trans ht);have e0:(Rows.laid_internal_strconv_uint64pow10:DataW Unit)=Lib.tabData .u64 powZ:=by kernel_rfl
  rw [e0] at hd;have hcs:cs.toList=powZ.map fun z=>Value.int .u64 z:=Lib.cells_of_tab (n:=20) (e:=229) Tryz.underlying308 Tryz.underlying229 (by kernel_rfl) (by kernel_rfl) hd;intro b i v hb;unfold oM at hb;by_cases hb2:b=2
  case neg =>
    have:layG b=[]:=by
      unfold layG
      rw [show Nat.beq b 2=false from by cases hq:Nat.beq b 2 with
        | false=>rfl
        | true=>exact absurd (Nat.eq_of_beq_eq_true hq) hb2];rfl
    rw [this] at hb;cases hb
  subst hb2;have hv:W.var? Tryz.prog "internal/strconv.uint64pow10" = some cs:=hvar;unfold World.var? at hv;rw [hg] at hv;simp only [Option.bind_some] at hv;unfold gH;split at hv
  · rename_i c ty fr hh;have hc:=Option.some.inj hv;rw [hh];simp only;rw [hc,<- Array.getElem?_toList,hcs];simp only [powZ,List.getElem?_map];cases hq:(layG 2)[i]? with
    | none=>rw [hq] at hb;cases hb
    | some n=>rw [hq] at hb;exact hb
  · cases hv
end Go.Proofs.YtdclaaahnodljaaGreatDoor
namespace Go.Ev
open Go Go.RowKit Go.ChangeShapes Go.WideShapes Go.Deep Go.Joins
variable {H:Type} {enc:TypeId×Value->H} {P:Program}
theorem gO {w:World} {a:Addr} {i:Nat} {v:Value} (h:w.cell? (a.add i)=some v):a=⟨a.block,a.off,a.spot⟩/\(i=0->a.spot=none)/\gH w a.block (a.off+i)=some v:=by
  unfold Addr.add at h;by_cases hi:i=0
  · subst hi;rw [if_pos rfl] at h;unfold World.cell? at h;split at h
    · rename_i c ty fr hb;split at h
      · cases h
      · rename_i hs;refine ⟨rfl,fun _=>by cases e:a.spot <;> simp_all,?_⟩;simp [gH,hb,h]
    · cases h
  · rw [if_neg hi] at h;unfold World.cell? at h;split at h
    · rename_i c ty fr hb;refine ⟨rfl,fun q=>absurd q hi,?_⟩;simp at h hb;simp [gH,hb,h]
    · cases h
theorem zho {E:Env} {b:Nat}:∀ {l:List AV} {off:Nat},(∀ i a,l[i]? = some a->∃ v,E.fz b (off+i)=some v/\VR E a v)->VRF E l b off
  | [],_,_=>by simp only [VRF]
  | a::l,off,h=>by
    simp only [VRF];obtain ⟨v,h1,h2⟩:=h 0 a rfl;refine ⟨v,h1,h2,zho fun i x hx => ?_⟩;obtain ⟨v',h3,h4⟩:=h (i+1) x (by simpa using hx);exact ⟨v',by rw [Nat.add_assoc,Nat.add_comm 1 i];exact h3,h4⟩
theorem zs6 (l:List Int):(l.map I).all jd=true:=by
  rw [List.all_eq_true];intro v hv;obtain ⟨x,_,rfl⟩:=List.mem_map.1 hv;rfl
theorem zs7 {w:World} {hl:zbj w} {p:Option Addr} {L C:Nat} {Z:List Int} (hL:L<=C) (hZ:Z.length=C) (h0:p=none->C=0) (hc:∀ a,p=some a->∀ c,c<C->w.cell? (a.add c)=some (.int .i64 (Z.getD c 0))) :
    VR (allE w hl) (encI (Z.take L)) (.slice p L C):=by
  have hlen:(Z.take L).length=L:=by rw [List.length_take];omega
  simp only [VR];refine ⟨zs6 _,by simp,p,C,by rw [hlen],?_⟩;rw [hlen];cases p with
  | none=>exact .inl ⟨by have:=h0 rfl;omega,fun _=>h0 rfl⟩
  | some a =>
    by_cases hL0:L=0
    · exact .inl ⟨hL0,by intro q;cases q⟩
    · obtain ⟨_,hs,_⟩:=gO (hc a rfl 0 (by omega));obtain ⟨b,off,sp⟩:=a;have:sp=none:=hs rfl;subst this;refine .inr ⟨b,off,rfl,hL,zho fun i x hx => ?_⟩;rw [List.getElem?_map] at hx;have hi:i<L:=by
        cases e:(Z.take L)[i]? with
        | none=>rw [e] at hx;cases hx
        | some y=>have:=(List.getElem?_eq_some_iff.1 e).1;omega
      obtain ⟨_,_,h3⟩:=gO (hc _ rfl i (by omega));refine ⟨_,h3,?_⟩;rw [List.getElem?_take,if_pos hi] at hx;cases e:Z[i]? with
      | none=>rw [e] at hx;cases hx
      | some y =>
        rw [e] at hx;have hx:=Option.some.inj hx;subst hx;rw [List.getD_eq_getElem?_getD,e];simp only [VR,Option.getD_some]
theorem zhp {t e:TypeId} {w:World} {hl:zbj w} {base:Nat} {held:Bool} {fuel:Nat} {cs:List Value} {x:DataW H×List MemPlace} (ht:P.underlying t=some (.slice e)) (he:P.underlying e=some (.int .i64)) (hc:P.cellsOf e=1)
    (h:DataW.trod enc P w base (fun _=>true) held fuel t cs=some x):∃ (l:List Int) (v:Value),cs=[v]/\VR (allE w hl) (encI l) v/\l.length<=maxLen/\∀ n∈l,(Lit.int .i64 n).wf=true:=by
  rcases open_ints ht he hc h with ⟨rfl,_⟩ | ⟨a,len,cap,zs,rfl,hb,hl,hm,hz,_,hcell,hwz⟩
  · exact ⟨[],_,rfl,by simp only [VR];exact ⟨rfl,rfl,none,0,rfl,.inl ⟨rfl,fun _=>rfl⟩⟩,by simp,by simp⟩
  · simp only [if_true] at hz;refine ⟨zs.take len,_,rfl,zs7 hl hz (fun q=>by cases q) (fun a' q c hc=>by cases q;exact hcell c (by rw [hz];exact hc)),by rw [List.length_take];omega,fun n hn=>hwz n (List.mem_of_mem_take hn)⟩
end Go.Ev
namespace Go.Ev
open Go Go.RowKit Go.ChangeShapes Go.WideShapes Go.Deep Go.Joins
variable {H:Type} {enc:TypeId×Value->H} {P:Program}
abbrev SymS:=List Int×Bool
def xW (G:List SymS):List AV:=G.flatMap fun g=>[encI g.1,.bool g.2]
theorem zch:∀ q:List SymS,(xW q).length=q.length*2
  | []=>rfl
  | p::q=>by
    show (encI p.1::.bool p.2::xW q).length=_;rw [List.length_cons,List.length_cons,zch q,List.length_cons];omega
theorem zci:∀ (q:List SymS) (i:Nat),(xW q)[i]? = (q[i / 2]?).map fun p=>if i%2=0 then encI p.1 else .bool p.2
  | [],i=>by simp [xW]
  | p::q,0=>rfl
  | p::q,1=>rfl
  | p::q,i+2=>by
    show (encI p.1::.bool p.2::xW q)[i+2]? = _;rw [List.getElem?_cons_succ,List.getElem?_cons_succ,zci q i,show (i+2) / 2=i / 2+1 by omega,show (i+2)%2=i%2 by omega,List.getElem?_cons_succ]
theorem zhq (q:List SymS):(xW q).all jd=true:=by
  rw [List.all_eq_true];intro v hv;obtain ⟨x,_,h⟩:=List.mem_flatMap.1 hv;simp only [List.mem_cons,List.not_mem_nil,or_false] at h;rcases h with rfl | rfl <;> rfl
theorem zhr {r:Reach} {b0 base:Nat} {held:Bool} {w:World} {hlw:zbj w} {t e ti tl tb:TypeId} {f0 f1:Field} {v:Value} {d:DataW H} {p:List MemPlace} (ht:P.underlying t=some (.slice e)) (he:P.underlying e=some (.struct #[f0,f1]))
    (ce:P.cellsOf e=2) (o0:f0.offset=0) (o1:f1.offset=1) (c0:P.cellsOf f0.type=1) (c1:P.cellsOf f1.type=1)
    (e0:f0.type=tl) (e1:f1.type=tb) (u0:P.underlying tl=some (.slice ti)) (u1:P.underlying ti=some (.int .i64)) (u2:P.underlying tb=some .bool) (ci:P.cellsOf ti=1)
    (hv:Value.okWide P w r b0 t v) (h:DataW.Trod enc P w base (fun _=>true) held t v d p) :
    ∃ G:List SymS,VR (allE w hlw) (.lst 2 G.length (xW G)) v/\G.length<=maxLen/\∀ g∈G,g.1.length<=maxLen/\∀ n∈g.1,(Lit.int .i64 n).wf=true:=by
  obtain ⟨fuel,hf⟩:=h;obtain ⟨a,len,cap,rfl⟩:=okWide_slice ht hv;rcases open_slice_pairs ht he ce o0 o1 c0 c1 hf with ⟨hc,_⟩ | ⟨a,len,cap,m,n,V0,V1,D0,D1,P0,P1,hc,hb,hl,hm,hmm,_,hx⟩
  · simp only [Value.cells,List.cons.injEq,and_true] at hc;rw [hc];exact ⟨[],by simp only [VR];exact ⟨rfl,rfl,none,0,rfl,.inl ⟨rfl,fun _=>rfl⟩⟩,by simp,by simp⟩
  · simp only [Value.cells,List.cons.injEq,and_true] at hc;rw [hc];have each:∀ i,i<len->∃ g:SymS,w.cell? (a.add (i*2))=some (V0 i)/\VR (allE w hlw) (encI g.1) (V0 i)/\w.cell? (a.add (i*2+1))=some (.bool g.2)/\g.1.length<=maxLen/\∀ n∈g.1,(Lit.int .i64 n).wf=true:=by
      intro i hi;obtain ⟨h1,h2,h3,h4⟩:=hx i (by rw [hmm,if_pos rfl];omega);rw [e0] at h3;rw [e1] at h4;obtain ⟨l,v',hv',g1,g2,g3⟩:=zhp u0 u1 ci h3;obtain ⟨b,hb',_⟩:=DataW.trod_bool u2 h4;simp only [List.cons.injEq,and_true] at hv' hb';subst hv';rw [hb'] at h2;exact ⟨(l,b),h1,g1,h2,g2,g3⟩
    obtain ⟨Q,hQ⟩:=choose_lt each;refine ⟨(List.range len).map Q,?_,by simp;omega,fun g hg => ?_⟩
    · simp only [VR];refine ⟨zhq _,zch _,some a,cap,by simp,?_⟩;by_cases h0:len=0
      · exact .inl ⟨by simp [h0],by intro q;cases q⟩
      · obtain ⟨_,hs,_⟩:=gO (hQ 0 (by omega)).1;obtain ⟨b,off,sp⟩:=a;have:sp=none:=hs (by omega);subst this;refine .inr ⟨b,off,rfl,by simpa using hl,zho fun i x hx => ?_⟩;rw [zci] at hx;have hi:i / 2<len:=by
          cases e:((List.range len).map Q)[i / 2]? with
          | none=>rw [e] at hx;cases hx
          | some y=>have:=(List.getElem?_eq_some_iff.1 e).1;simpa using this
        rw [List.getElem?_map,List.getElem?_range hi] at hx;have hx:=Option.some.inj hx;obtain ⟨g0,g1,g2,_⟩:=hQ (i / 2) hi;by_cases c:i%2=0
        · simp only [if_pos c] at hx;obtain ⟨_,_,h3⟩:=gO g0;subst hx;exact ⟨_,(show off+i=off+i / 2*2 by omega) ▸ h3,g1⟩
        · simp only [if_neg c] at hx;obtain ⟨_,_,h3⟩:=gO g2;subst hx;exact ⟨_,(show off+i=off+(i / 2*2+1) by omega) ▸ h3,by simp only [VR]⟩
    · obtain ⟨i,hi,rfl⟩:=List.mem_map.1 hg;obtain ⟨_,_,_,g3,g4⟩:=hQ i (List.mem_range.1 hi);exact ⟨g3,g4⟩
end Go.Ev
/-
  For all arguments the law TopCharmBurnside returns true: the program's functions return what the reference returns, the results or the errors.
  Conditions: none but those of the given statement.
-/
namespace Go.Proofs.YtdclaaahnodljaaGreatDoor
open Go Go.Ev Go.ChangeShapes Go.WideShapes Go.ChangeAt Go.RowKit

theorem ownK:ownKnob Tryz.prog.godebug=none:=by kernel_rfl
theorem laidOut:laidOutB Tryz.prog=true:=by kernel_rfl
theorem door_met (os:Os) (args:Array Value):laidMetH Tryz.prog zcg ((World.doorLaid Tryz.prog 4000 os).forCall (fun _ _=>0) ⟨#[],args,[]⟩).memory :=
  laidMetH_of_parts3 (fuel:=8) (laidMet_of_run' 8 (by kernel_rfl) (by kernel_rfl)) (by kernel_rfl) (by kernel_rfl)

set_option maxRecDepth 100000 in
theorem law6_lifted (law:∀ (B:Nat) (r0:List SymS) (n1:Int),r0.length<=maxLen->(∀ g∈r0,g.1.length<=maxLen/\∀ n∈g.1,(Lit.int .i64 n).wf=true)->(Lit.int .u8 n1).wf=true->(CS Tryz.prog B).fn 6 (.of 6) [.lst 2 r0.length (xW r0),.int .u8 n1] .e .z d6=.ok True)
    (os:Os) (started:os.Started) (H:Type) (enc:TypeId×Value->H) :
    ReturnsInHanded {} Tryz.checked os 6 .any (fun w args=>(Rows.topCharmBurnsideSpec.pre enc Tryz.prog Tryz.f6 [] false w args/\laidMetH Tryz.prog zcg w)/\sizedMet enc Tryz.prog Tryz.f6 (OpenSpec.ofChange Rows.topCharmBurnsideSpec) false w args)
      (Rows.topCharmBurnsideSpec.post enc Tryz.prog Tryz.f6 false true false false):=by
  refine returnsInHanded_of_change_and (C:=Tryz.checked) (X:=fun w _=>laidMetH Tryz.prog zcg w) (fun _ _ _ hh h=>h.of_heap hh) ownK started (by kernel_rfl) Tryz.func6
    (ChangeSpec.witness_shaped (enc:=enc) (C:=Tryz.checked) (os:=os) (X:=fun w _=>laidMetH Tryz.prog zcg w) false (World.doorLaid Tryz.prog 4000 os) #[.slice none 0 0,.int .u8 0] 8 rfl (World.shaped_of_RefB (by kernel_rfl) (by kernel_rfl)) (by kernel_rfl) (by kernel_rfl) (by kernel_rfl) (door_met os _)) ?_
  intro W base args ds gs before hval0 hW _ _ hL _;have hval:∀ (j:Nat) t v,Tryz.f6.params[j]? = some t->args[j]? = some v->Value.okWide Tryz.prog W .any base t v:=hval0;have hW':=hW;obtain ⟨p,q,hA0,hV,rfl,hfz,hnd⟩:=hW;have hA:DataW.TrodAll enc Tryz.prog W 0 (fun _=>true) true Tryz.f6.params.toList args.toList ds p:=hA0;rw [Tryz.params6] at hA hval;obtain ⟨v0,v1,d0,d1,p0,p1,rfl,rfl,rfl,h0,h1⟩:=trodAll_two hA;obtain ⟨rfl,rfl⟩:=trodVars_none hV;obtain ⟨r0,vr0,w0a,w0b⟩:=zhr (hlw:=zrh hL) Tryz.underlying47 Tryz.underlying55 (by kernel_rfl) rfl rfl (by kernel_rfl) (by kernel_rfl) rfl rfl Tryz.underlying38 Tryz.underlying3 Tryz.underlying4 (by kernel_rfl) (hval 0 47 v0 rfl rfl) h0;obtain ⟨n1,rfl,rfl,rfl,w1⟩:=open_int Tryz.underlying5 (hval 1 5 v1 rfl rfl) h1;refine (zke (hl:=zrh hL) (args:=[.lst 2 r0.length (xW r0),.int .u8 n1]) (VRL.cons vr0 (VRL.cons (by simp only [VR]) VRL.nil)) (law _ r0 n1 w0a w0b w1)).mono fun e W' ⟨he,hb⟩ => ?_;subst he
  exact ⟨_,rfl,zkf laidOut (by
    rw [Tryz.params6];intro t ht;have h6:([47,5]:List TypeId).all (fun t=>Tryz.prog.readableRec t&&decide (t<Tryz.prog.types.size))=true:=by kernel_rfl
    have:=List.all_eq_true.1 h6 t (by simpa using ht);simp only [Bool.and_eq_true,decide_eq_true_eq] at this;exact this) rfl (fun ds h=>by
    rw [Tryz.params6] at h
    match ds,h with
    | [_,_],_=>rfl) (tb:=4) (by kernel_rfl) Tryz.underlying4 hW' hb⟩

theorem fc6:joinedFacts Tryz.prog 6 Tryz.f6 Rows.topCharmBurnsideSpec Rows.topCharmBurnsideRow=true:=by
  unfold joinedFacts;have hp:Tryz.f6.params.all (Tryz.prog.readableRec ·)=true:=by rw [Tryz.params6];kernel_rfl
  simp only [Bool.and_eq_true];exact ⟨⟨⟨⟨⟨⟨⟨⟨⟨⟨⟨⟨⟨⟨⟨⟨⟨⟨⟨⟨⟨⟨⟨⟨⟨⟨⟨⟨⟨⟨⟨fc6_wf,zpt⟩,zpu⟩,hp⟩,fc6_tie⟩,by kernel_rfl⟩,zne⟩,by kernel_rfl⟩,znf⟩,fc6_inp⟩,fc6_unf⟩,fc6_rec⟩,fc6_named⟩,by kernel_rfl⟩,by kernel_rfl⟩,by kernel_rfl⟩,by kernel_rfl⟩,by kernel_rfl⟩,by kernel_rfl⟩,by kernel_rfl⟩,by kernel_rfl⟩,by kernel_rfl⟩,zpv⟩,by kernel_rfl⟩,zng⟩,zs4⟩,zpr⟩,zps⟩,by kernel_rfl⟩,by kernel_rfl⟩,by kernel_rfl⟩,by kernel_rfl⟩

theorem law6_row (law:∀ (B:Nat) (r0:List SymS) (n1:Int),r0.length<=maxLen->(∀ g∈r0,g.1.length<=maxLen/\∀ n∈g.1,(Lit.int .i64 n).wf=true)->(Lit.int .u8 n1).wf=true->(CS Tryz.prog B).fn 6 (.of 6) [.lst 2 r0.length (xW r0),.int .u8 n1] .e .z d6=.ok True):Rows.TopCharmBurnsideSaid :=
  OpenClaim.holds_of_wide 6 Tryz.f6 rfl rfl rfl rfl rfl rfl rfl ⟨rfl,rfl,rfl,rfl,rfl⟩ rfl rfl rfl rfl rfl (by kernel_rfl) Tryz.func6 fc6
    (of_decide_eq_true (by kernel_rfl)) (by unfold Func.isWrapper;first | (rw [if_pos (by decide +kernel)];kernel_rfl) | (rw [if_neg (by decide +kernel)];exact ⟨rfl,rfl⟩))
    (fun os started H enc _=>law6_lifted law os started H enc)

theorem law6_card (law:∀ (B:Nat) (r0:List SymS) (n1:Int),r0.length<=maxLen->(∀ g∈r0,g.1.length<=maxLen/\∀ n∈g.1,(Lit.int .i64 n).wf=true)->(Lit.int .u8 n1).wf=true->(CS Tryz.prog B).fn 6 (.of 6) [.lst 2 r0.length (xW r0),.int .u8 n1] .e .z d6=.ok True):Rows.TopCharmBurnsideCardSaid :=
  Claim7.holds_tied_plain_at .later [] [.data,.data,.data] true (true, "608fc5b6fd7369ebd95c868e2fd6f861134af690bc3705ffe8cabed3f1899156") false
    (law6_row law) (fun _ h=>by cases h) fc6_wfT (fun _ h=>by cases h) topCharmBurnside_row_tie rfl ⟨rfl,rfl⟩ zpw rfl
    (fun f fn hf hfn=>by
      obtain rfl:f=6:=Option.some.inj ((show Tryz.prog.funcNamed "talisman/talismantop.TopCharmBurnside" = some 6 by kernel_rfl).symm.trans hf) |>.symm;obtain rfl:fn=Tryz.f6:=(Option.some.inj (Tryz.func6.symm.trans hfn)).symm
      exact ⟨znh,fun j t ht=>by
        rw [Tryz.params6] at ht;have hm:t∈([47,5]:List TypeId):=by simpa using Array.mem_of_getElem? ht
        have hall:(([47,5]:List TypeId).all fun u => !Tryz.prog.wantsStandIn u)=true:=by kernel_rfl
        exact (show Tryz.prog.wantsStandIn t=false by simpa using List.all_eq_true.1 hall t hm)⟩)
    fc6_goes
end Go.Proofs.YtdclaaahnodljaaGreatDoor
/-
  The law of TopCharmBurnside.
-/
namespace Go.Proofs.YtdclaaahnodljaaGreatDoor
open Go Go.Ev
theorem zkg {n:Int} (h:(Lit.int .u8 n).wf=true):0<=n/\n<256:=by
  have e1:IntKind.u8.min=0:=by decide
  have e2:IntKind.u8.max=255:=by decide
  simp only [Lit.wf,Bool.and_eq_true,decide_eq_true_eq,e1,e2] at h;omega
theorem topCharmBurnside_proved:Rows.TopCharmBurnsideCardSaid:=law6_card fun B r0 n1 _ _ h=>by
  obtain ⟨h1,h2⟩:=zkg h;obtain ⟨z,rfl⟩:=Int.eq_ofNat_of_zero_le h1;refine law6 (by omega) (fun {B}=>zs8) _ _ _ _ ?_;rintro _ rfl _;exact if_pos rfl
end Go.Proofs.YtdclaaahnodljaaGreatDoor
