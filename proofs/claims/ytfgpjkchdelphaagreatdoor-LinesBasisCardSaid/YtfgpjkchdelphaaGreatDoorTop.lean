import Derived.Test.YtfgpjkchdelphaaGreatDoorEvC
import Derived.Below
import Derived.Carry
import Derived.ChangeSame
import Derived.WideKeyArgs
import Derived.Test.YtfgpjkchdelphaaGreatDoorCards
import Derived.Lib.LaidTab
import Derived.KernelRfl
import Derived.Test.YtfgpjkchdelphaaGreatDoorEvD
import Derived.Deep.Matrix
import Derived.Lib.SmallJoins
import Derived.Test.YtfgpjkchdelphaaGreatDoorIrT
import Derived.Test.YtfgpjkchdelphaaGreatDoorFcA
import Derived.Test.YtfgpjkchdelphaaGreatDoorFcB
import Derived.Test.YtfgpjkchdelphaaGreatDoorFcC
import Derived.Test.YtfgpjkchdelphaaGreatDoorFcD
import Derived.Test.YtfgpjkchdelphaaGreatDoorFact
import Derived.Test.YtfgpjkchdelphaaGreatDoorTie
import Derived.ProofKit
import Derived.LaidMore
import Derived.OpenShut
import Derived.Stop.Joined
import Derived.SevenTiedAt
import Derived.Test.YtfgpjkchdelphaaGreatDoorWake
import Derived.Test.YtfgpjkchdelphaaGreatDoorWordsc
set_option linter.unusedSimpArgs false
set_option linter.unusedVariables false
namespace Go.Ev
open Go Go.RowKit Go.ChangeShapes
open Classical
def bF (w:World):Prop:=∀ b i v,layC b i=some v->uN w b i=some v
def allE (w:World) (hl:bF w):Env:=⟨λ_=>none,uN w,hl⟩
theorem HR.zpy (P:Program) (w:World) (hl:bF w):HR P w.heap.size (allE w hl) .e .z w:={
  blk id hid:=hid.elim (T.rV _ id)
  inj id id' b n n' h1:=(h1 (T.rV _ id)).elim
  fresh _ _:=rfl
  lt id b n hid:=by cases hid
  base:=Nat.le_refl _
  frz b i v h:=by
    refine ⟨?_,λid n hid=>by cases hid⟩;have h:uN w b i=some v:=h;unfold uN at h;split at h
    . rename_i c ty fr hb;exact ⟨c,ty,fr,hb,h⟩
    . cases h }
noncomputable def mF:Kw Prop:=λv _ _=>if v=.bool true then .ok True else .no 0
theorem zmg {P:Program} {f:Nat} {args:List AV} {vs:Array Value} {w:World} {hl:bF w} {fn:Func} (hf:P.funcs[f]? = some fn) (hb:fn.body.isNone=false) (hn:(fn.name == "runtime.NumGoroutine")=false) (hv:VRL (allE w hl) args vs.toList) (h:(CS P w.heap.size).fn f (.of f) args .e .z mF=.ok True) :
    Go.Calls P f vs w λe w'=>e=.returned (.bool true)/\Below w.heap.size w w':=by
  obtain ⟨_,_,_,_,h⟩:=zo4.fn (HR.zpy P w hl) hv h;rcases h 0 with ⟨_,_,_,_,h⟩ | ⟨_,v,h,_⟩
  case inr=>rw [uH hf hb hn] at h;cases h
  refine (callsIn_wide.1 h).mono λe w' hc => ?_;cases e with
  | returned v =>
    obtain ⟨av,h',nx',E',h1,h2,h3,h4⟩:=hc;unfold mF at h1;split at h1
    . rename_i hav;subst hav;simp only [VR] at h2;subst h2;exact ⟨rfl,h4.os,h4.tape,h4.output,h4.size,λk hk=>h4.keep k hk λid n hid=>by cases hid⟩
    . cases h1
  | _=>exact hc.elim
section
variable {H:Type} {enc:TypeId×Value->H} {P:Program}
theorem wW (hl:laidOutB P=true) {W W':World} (hb:Below W.heap.size W W') (sp:Nat->Bool):∀ {ts:List TypeId} {vs:List Value} {ds:List (DataW H)} {ps:List MemPlace},
    (∀ t∈ts,P.readableRec t=true/\t<P.types.size)->DataW.TrodAll enc P W 0 (λ_=>true) true ts vs ds ps->(∀ x∈ps,x.block<W.heap.size)->(∀ x∈ps,sp x.block=true)->DataW.TrodAll enc P W' 0 sp true ts vs ds ps
  | [],vs,ds,ps,_,h,_,_=>by
    cases vs <;> cases ds <;> simp only [DataW.TrodAll] at h ⊢ <;> exact h
  | t::ts,vs,ds,ps,ht,h,hlt,hs=>by
    cases vs <;> cases ds <;> simp only [DataW.TrodAll] at h ⊢
    obtain ⟨p,q,h1,h2,rfl⟩:=h;refine ⟨p,q,WideElems.Trod_stays hl (ht t (by simp)).1 (ht t (by simp)).2 h1 (λx hx=>hb.same (hlt x (by simp [hx]))) (λx hx=>hs x (by simp [hx])),?_,rfl⟩;exact wW hl hb sp (λt h=>ht t (by simp [h])) h2 (λx hx=>hlt x (by simp [hx])) (λx hx=>hs x (by simp [hx]))
theorem cG {w:World} {base:Nat} {sp:Nat->Bool} {held:Bool}:∀ {ts:List TypeId} {vs:List Value} {ds:List (DataW H)} {ps:List MemPlace},DataW.TrodAll enc P w base sp held ts vs ds ps->ds.length=ts.length
  | [],vs,ds,ps,h=>by cases vs <;> cases ds <;> simp only [DataW.TrodAll] at h <;> rfl
  | t::ts,vs,ds,ps,h=>by
    cases vs <;> cases ds <;> simp only [DataW.TrodAll] at h
    obtain ⟨p,q,_,h2,_⟩:=h;simp [cG h2]
theorem zmh {f:Func} {s:ChangeSpec} {apart fresh handsOn again:Bool} {W W':World} {args:Array Value} {ds gs:List (DataW H)} {before:List MemPlace} {tb:TypeId}
    (hl:laidOutB P=true) (hts:∀ t∈f.params.toList,P.readableRec t=true/\t<P.types.size) (hvars:s.vars=[]) (hfn:∀ ds:List (DataW H),ds.length=f.params.size->s.fn H ds={ results:=[.lit (.bool true)],args:=ds })
    (hr:f.resultTypes = #[tb]) (htb:P.underlying tb=some .bool)
    (hW:DataW.Whole enc P f.params.toList s.vars apart W args.toList ds gs before) (hb:Below W.heap.size W W'):s.post enc P f apart fresh handsOn again W args (.bool true) W':=by
  have hW0:=hW;obtain ⟨p,q,h1,h2,hpq,hz,hn⟩:=hW;rw [hvars] at h2;obtain ⟨rfl,rfl⟩:=ChangeShapes.trodVars_none h2;have hlt:∀ x∈p,x.block<W.heap.size:=λx hx=>by
    have:=hW0.lt x (by rw [hpq];simp [hx]);simpa using this
  have hs:s.fn H (ds++[])={ results:=[.lit (.bool true)],args:=ds }:=by
    rw [List.append_nil];exact hfn ds (by rw [cG h1];simp)
  have hres:∀ (b:Nat) (sp:Nat->Bool) (hd:Bool),DataW.TrodAll enc P W' b sp hd f.resultTypes.toList ((Value.bool true).resultList f.resultTypes.size) [.lit (.bool true)] []:=by
    intro b sp hd;rw [hr];exact ChangeShapes.trodAll_mk1 ⟨1,by simp [DataW.trod,Value.cells,htb]⟩
  subst hpq;refine ⟨ds,[],p++[],[],p,[],hW0,?_,?_,?_,hb.frame _,λ_=>⟨ok_one hr rfl (okWide_bool_mk htb _),[.lit (.bool true)]++ds,[],[]++p,?_,?_⟩⟩
  . rw [hs];exact hres _ _ _
  . rw [hs];exact wW hl hb _ hts h1 hlt (λx hx=>by simpa using hlt x hx)
  . rw [hs,hvars];simp [DataW.TrodVars]
  . refine ⟨[]++p,[],trodAll_append (wW hl hb _ hts h1 hlt (λ_ _=>rfl)) (hres _ _ _),by rw [hvars];simp [DataW.TrodVars],by simp,?_,?_⟩
    . intro b off hp;have hp:MemPlace.cell b off∈p:=by simpa using hp
      rw [hb.frozen (hlt _ hp)];exact hz b off (by simpa using hp)
    . intro ha;have:=hn ha;simpa using this
  . intro x hx _;simpa using hx
end
end Go.Ev
namespace Go.Proofs.YtfgpjkchdelphaaGreatDoor
open Go Go.Ev
abbrev zdf:List (String×DataW Unit):=[("math/bits.deBruijn32tab",Rows.laid_math_bits_deBruijn32tab),("math/bits.deBruijn64tab",Rows.laid_math_bits_deBruijn64tab),("internal/strconv.uint64pow10",Rows.laid_internal_strconv_uint64pow10)]
def powZ:List Int:=(layG 2).map λ(n:Nat)=>(n:Int)
theorem zpz {W:World} (h:laidMetH Tryz.prog zdf W):bF W:=by
  have h:laidMet Tryz.prog zdf W:=h;obtain ⟨ps,⟨_,_,_,_,_,_,_,_,_,_,⟨_,_,_,_,_,_,_,_,_,_,⟨g,t,cs,fuel,p,q,hg,ht,hvar,hd,_,_⟩,_⟩,_⟩,_⟩:=h;obtain rfl:2=g:=Option.some.inj ((show Tryz.prog.globalNamed "internal/strconv.uint64pow10" = some 2 by kernel_rfl).symm.trans hg);obtain rfl:334=t:=Option.some.inj ((show (Tryz.prog.globals[2]?).map (·.type)=some 334 by kernel_rfl).symm.trans ht);have e0:(Rows.laid_internal_strconv_uint64pow10:DataW Unit)=Lib.tabData .u64 powZ:=by kernel_rfl
  rw [e0] at hd;have hcs:cs.toList=powZ.map λz=>Value.int .u64 z:=Lib.cells_of_tab (n:=20) (e:=264) Tryz.underlying334 Tryz.underlying264 (by kernel_rfl) (by kernel_rfl) hd;intro b i v hb;unfold layC at hb;by_cases hb2:b=2
  case neg =>
    have:layG b=[]:=by
      unfold layG
      rw [show Nat.beq b 2=false from by cases hq:Nat.beq b 2 with
        | false=>rfl
        | true=>exact absurd (Nat.eq_of_beq_eq_true hq) hb2];rfl
    rw [this] at hb;cases hb
  subst hb2;have hv:W.var? Tryz.prog "internal/strconv.uint64pow10" = some cs:=hvar;unfold World.var? at hv;rw [hg] at hv;simp only [Option.bind_some] at hv;unfold uN;split at hv
  . rename_i c ty fr hh;have hc:=Option.some.inj hv;rw [hh];simp only;rw [hc,<- Array.getElem?_toList,hcs];simp only [powZ,List.getElem?_map];cases hq:(layG 2)[i]? with
    | none=>rw [hq] at hb;cases hb
    | some n=>rw [hq] at hb;exact hb
  . cases hv
end Go.Proofs.YtfgpjkchdelphaaGreatDoor
namespace Go.Ev
open Go Go.RowKit Go.ChangeShapes Go.WideShapes Go.Deep Go.Joins
variable {H:Type} {enc:TypeId×Value->H} {P:Program}
theorem kO {w:World} {a:Addr} {i:Nat} {v:Value} (h:w.cell? (a.add i)=some v):a=⟨a.block,a.off,a.spot⟩/\(i=0->a.spot=none)/\uN w a.block (a.off+i)=some v:=by
  unfold Addr.add at h;by_cases hi:i=0
  . subst hi;rw [if_pos rfl] at h;unfold World.cell? at h;split at h
    . rename_i c ty fr hb;split at h
      . cases h
      . rename_i hs;refine ⟨rfl,λ_=>by cases e:a.spot <;> simp_all,?_⟩;simp [uN,hb,h]
    . cases h
  . rw [if_neg hi] at h;unfold World.cell? at h;split at h
    . rename_i c ty fr hb;refine ⟨rfl,λq=>absurd q hi,?_⟩;simp at h hb;simp [uN,hb,h]
    . cases h
theorem zja {E:Env} {b:Nat}:∀ {l:List AV} {off:Nat},(∀ i a,l[i]? = some a->∃ v,E.fz b (off+i)=some v/\VR E a v)->VRF E l b off
  | [],_,_=>by simp only [VRF]
  | a::l,off,h=>by
    simp only [VRF];obtain ⟨v,h1,h2⟩:=h 0 a rfl;refine ⟨v,h1,h2,zja λi x hx => ?_⟩;obtain ⟨v',h3,h4⟩:=h (i+1) x (by simpa using hx);exact ⟨v',by rw [Nat.add_assoc,Nat.add_comm 1 i];exact h3,h4⟩
theorem zyh (l:List Int):(l.map I).all qb=true:=by
  rw [List.all_eq_true];intro v hv;obtain ⟨x,_,rfl⟩:=List.mem_map.1 hv;rfl
theorem zyi (l:List (List Int)):(l.map encI).all qb=true:=by
  rw [List.all_eq_true];intro v hv;obtain ⟨x,_,rfl⟩:=List.mem_map.1 hv;rfl
theorem zp0 {w:World} {hl:bF w} {p:Option Addr} {L C:Nat} {Z:List Int} (hL:L<=C) (hZ:Z.length=C) (h0:p=none->C=0) (hc:∀ a,p=some a->∀ c,c<C->w.cell? (a.add c)=some (.int .i64 (Z.getD c 0))) :
    VR (allE w hl) (encI (Z.take L)) (.slice p L C):=by
  have hlen:(Z.take L).length=L:=by rw [List.length_take];omega
  simp only [VR];refine ⟨zyh _,by simp,p,C,by rw [hlen],?_⟩;rw [hlen];cases p with
  | none=>exact .inl ⟨by have:=h0 rfl;omega,λ_=>h0 rfl⟩
  | some a =>
    by_cases hL0:L=0
    . exact .inl ⟨hL0,by intro q;cases q⟩
    . obtain ⟨_,hs,_⟩:=kO (hc a rfl 0 (by omega));obtain ⟨b,off,sp⟩:=a;have:sp=none:=hs rfl;subst this;refine .inr ⟨b,off,rfl,hL,zja λi x hx => ?_⟩;rw [List.getElem?_map] at hx;have hi:i<L:=by
        cases e:(Z.take L)[i]? with
        | none=>rw [e] at hx;cases hx
        | some y=>have:=(List.getElem?_eq_some_iff.1 e).1;omega
      obtain ⟨_,_,h3⟩:=kO (hc _ rfl i (by omega));refine ⟨_,h3,?_⟩;rw [List.getElem?_take,if_pos hi] at hx;cases e:Z[i]? with
      | none=>rw [e] at hx;cases hx
      | some y =>
        rw [e] at hx;have hx:=Option.some.inj hx;subst hx;rw [List.getD_eq_getElem?_getD,e];simp only [VR,Option.getD_some]
theorem zjb {t e:TypeId} {w:World} {hl:bF w} {base:Nat} {held:Bool} {fuel:Nat} {cs:List Value} {x:DataW H×List MemPlace} (ht:P.underlying t=some (.slice e)) (he:P.underlying e=some (.int .i64)) (hc:P.cellsOf e=1)
    (h:DataW.trod enc P w base (λ_=>true) held fuel t cs=some x):∃ (l:List Int) (v:Value),cs=[v]/\VR (allE w hl) (encI l) v/\l.length<=maxLen/\∀ n∈l,(Lit.int .i64 n).wf=true:=by
  rcases open_ints ht he hc h with ⟨rfl,_⟩ | ⟨a,len,cap,zs,rfl,hb,hl,hm,hz,_,hcell,hwz⟩
  . exact ⟨[],_,rfl,by simp only [VR];exact ⟨rfl,rfl,none,0,rfl,.inl ⟨rfl,λ_=>rfl⟩⟩,by simp,by simp⟩
  . simp only [if_true] at hz;refine ⟨zs.take len,_,rfl,zp0 hl hz (λq=>by cases q) (λa' q c hc=>by cases q;exact hcell c (by rw [hz];exact hc)),by rw [List.length_take];omega,λn hn=>hwz n (List.mem_of_mem_take hn)⟩
theorem zjc {r:Reach} {b0:Nat} {t e:TypeId} {w:World} {hl:bF w} {base:Nat} {held:Bool} {v:Value} {d:DataW H} {p:List MemPlace} (ht:P.underlying t=some (.slice e)) (he:P.underlying e=some (.int .i64)) (hc:P.cellsOf e=1)
    (hval:Value.okWide P w r b0 t v) (h:DataW.Trod enc P w base (λ_=>true) held t v d p):∃ l:List Int,VR (allE w hl) (encI l) v/\l.length<=maxLen/\∀ n∈l,(Lit.int .i64 n).wf=true:=by
  obtain ⟨fuel,hf⟩:=h;obtain ⟨a,len,cap,rfl⟩:=okWide_slice ht hval;obtain ⟨l,v',hv,h1,h2,h3⟩:=zjb ht he hc hf;simp only [Value.cells,List.cons.injEq,and_true] at hv;subst hv;exact ⟨l,h1,h2,h3⟩
theorem zjd {t e q:TypeId} {w:World} {hl:bF w} {base:Nat} {held:Bool} {fuel:Nat} {cs:List Value} {x:DataW H×List MemPlace} (ht:P.underlying t=some (.slice e)) (he:P.underlying e=some (.slice q)) (hq:P.underlying q=some (.int .i64))
    (ce:P.cellsOf e=1) (cq:P.cellsOf q=1) (h:DataW.trod enc P w base (λ_=>true) held fuel t cs=some x) :
    ∃ (ll:List (List Int)) (v:Value),cs=[v]/\VR (allE w hl) (uf ll) v/\ll.length<=maxLen/\∀ l∈ll,l.length<=maxLen/\∀ n∈l,(Lit.int .i64 n).wf=true:=by
  rcases open_int_rows ht he hq ce cq h with ⟨rfl,_⟩ | ⟨a,len,cap,A,L,C,Z,rfl,hb,hl,hm,_,hr⟩
  . exact ⟨[],_,rfl,by simp only [VR];exact ⟨rfl,rfl,none,0,rfl,.inl ⟨rfl,λ_=>rfl⟩⟩,by simp,by simp⟩
  . refine ⟨(List.range len).map λr=>(Z r).take (L r),_,rfl,?_,by simp;omega,λl hm' => ?_⟩
    . simp only [VR];refine ⟨zyi _,by simp,some a,cap,by simp,?_⟩;by_cases h0:len=0
      . exact .inl ⟨by simp [h0],by intro q;cases q⟩
      . obtain ⟨_,hs,_⟩:=kO (hr 0 (by omega)).1;obtain ⟨b,off,sp⟩:=a;have:sp=none:=hs rfl;subst this;refine .inr ⟨b,off,rfl,by simpa using hl,zja λi x hx => ?_⟩;rw [List.map_map,List.getElem?_map] at hx;have hi:i<len:=by
          cases e:(List.range len)[i]? with
          | none=>rw [e] at hx;cases hx
          | some y=>have:=(List.getElem?_eq_some_iff.1 e).1;simpa using this
        rw [List.getElem?_range hi] at hx;have hx:=Option.some.inj hx;subst hx;obtain ⟨g1,g2,g3,g4,_,g6,g7⟩:=hr i (by omega);obtain ⟨_,_,h3⟩:=kO g1;exact ⟨_,h3,zp0 g2 g4 g6 λa' q c hc=>(g7 a' q).2 c hc⟩
    . obtain ⟨r,hr',rfl⟩:=List.mem_map.1 hm';obtain ⟨_,g2,g3,g4,g5,_⟩:=hr r (by have:=List.mem_range.1 hr';omega);exact ⟨by rw [List.length_take];omega,λn hn=>g5 n (List.mem_of_mem_take hn)⟩
theorem zg0 {r:Reach} {b0 base:Nat} {held:Bool} {w:World} {hl:bF w} {t ti tl tr:TypeId} {f0 f1:Field} {v:Value} {d:DataW H} {p:List MemPlace} (hs:P.underlying t=some (.struct #[f0,f1])) (hone:oneCellFields P #[f0,f1]=true) (hC:P.cellsOf t=2)
    (e0:f0.type=ti) (e1:f1.type=tl) (u0:P.underlying ti=some (.int .i64)) (u1:P.underlying tl=some (.slice tr)) (u2:P.underlying tr=some (.slice ti)) (c1:P.cellsOf tr=1) (c2:P.cellsOf ti=1)
    (hv:Value.okWide P w r b0 t v) (h:DataW.Trod enc P w base (λ_=>true) held t v d p) :
    ∃ (cells:Int) (lines:List (List Int)),VR (allE w hl) (.agg [I cells,uf lines]) v/\(Lit.int .i64 cells).wf=true/\lines.length<=maxLen/\∀ l∈lines,l.length<=maxLen/\∀ n∈l,(Lit.int .i64 n).wf=true:=by
  obtain ⟨v0,v1,y0,y1,n,rfl,_,_,h0,h1⟩:=open_agg2 hs hone hC hv h;rw [e0] at h0;rw [e1] at h1;obtain ⟨x,hx,_,hw⟩:=DataW.trod_int u0 h0;simp only [List.cons.injEq,and_true] at hx;subst hx;obtain ⟨ll,v',hv',g1,g2,g3⟩:=zjd u1 u2 u0 c1 c2 h1;simp only [List.cons.injEq,and_true] at hv';subst hv';refine ⟨x,ll,?_,hw,g2,g3⟩;simp only [VR];exact ⟨rfl,_,rfl,VRL.cons (by simp only [VR]) (VRL.cons g1 VRL.nil)⟩
end Go.Ev
/-
  For all arguments the law LinesBasis returns true: the program's functions return what the reference returns, the results or the errors.
  Conditions: none but those of the given statement.
-/
namespace Go.Proofs.YtfgpjkchdelphaaGreatDoor
open Go Go.Ev Go.ChangeShapes Go.WideShapes Go.ChangeAt Go.RowKit

theorem ownK:ownKnob Tryz.prog.godebug=none:=by kernel_rfl
theorem laidOut:laidOutB Tryz.prog=true:=by kernel_rfl
theorem zp1 (os:Os) (args:Array Value):laidMetH Tryz.prog zdf ((World.doorLaid Tryz.prog 4000 os).forCall (λ_ _=>0) ⟨#[],args,[]⟩).memory :=
  laidMetH_of_parts3 (fuel:=8) (laidMet_of_run' 8 (by kernel_rfl) (by kernel_rfl)) (by kernel_rfl) (by kernel_rfl)

set_option maxRecDepth 100000 in
theorem law4_lifted (law:∀ (B:Nat) (c0:Int) (l0:List (List Int)) (l1:List Int),(Lit.int .i64 c0).wf=true->l0.length<=maxLen->(∀ l∈l0,l.length<=maxLen/\∀ n∈l,(Lit.int .i64 n).wf=true)->l1.length<=maxLen->(∀ n∈l1,(Lit.int .i64 n).wf=true)->(CS Tryz.prog B).fn 4 (.of 4) [.agg [I c0,uf l0],Go.Ev.encI l1] .e .z mF=.ok True)
    (os:Os) (started:os.Started) (H:Type) (enc:TypeId×Value->H) :
    ReturnsInHanded {} Tryz.checked os 4 .any (λw args=>(Rows.linesBasisSpec.pre enc Tryz.prog Tryz.f4 [] false w args/\laidMetH Tryz.prog zdf w)/\sizedMet enc Tryz.prog Tryz.f4 (OpenSpec.ofChange Rows.linesBasisSpec) false w args)
      (Rows.linesBasisSpec.post enc Tryz.prog Tryz.f4 false true false false):=by
  refine returnsInHanded_of_change_and (C:=Tryz.checked) (X:=λw _=>laidMetH Tryz.prog zdf w) (λ_ _ _ hh h=>h.of_heap hh) ownK started (by kernel_rfl) Tryz.func4
    (ChangeSpec.witness_shaped (enc:=enc) (C:=Tryz.checked) (os:=os) (X:=λw _=>laidMetH Tryz.prog zdf w) false (World.doorLaid Tryz.prog 4000 os) #[.agg #[.int .i64 0,.slice none 0 0],.slice none 0 0] 8 rfl (World.shaped_of_RefB (by kernel_rfl) (by kernel_rfl)) (by kernel_rfl) (by kernel_rfl) (by kernel_rfl) (zp1 os _)) ?_
  intro W base args ds gs before hval0 hW _ _ hL _;have hval:∀ (j:Nat) t v,Tryz.f4.params[j]? = some t->args[j]? = some v->Value.okWide Tryz.prog W .any base t v:=hval0;have hW':=hW;obtain ⟨p,q,hA0,hV,rfl,hfz,hnd⟩:=hW;have hA:DataW.TrodAll enc Tryz.prog W 0 (λ_=>true) true Tryz.f4.params.toList args.toList ds p:=hA0;rw [Tryz.params4] at hA hval;obtain ⟨v0,v1,d0,d1,p0,p1,rfl,rfl,rfl,h0,h1⟩:=trodAll_two hA;obtain ⟨rfl,rfl⟩:=trodVars_none hV;obtain ⟨c0,l0,vr0,w0a,w0b,w0c⟩:=zg0 (hl:=zpz hL) Tryz.underlying24 (by kernel_rfl) (by kernel_rfl) rfl rfl Tryz.underlying3 Tryz.underlying22 Tryz.underlying36 (by kernel_rfl) (by kernel_rfl) (hval 0 24 v0 rfl rfl) h0;obtain ⟨l1,vr1,w1a,w1b⟩:=zjc (hl:=zpz hL) Tryz.underlying36 Tryz.underlying3 (by kernel_rfl) (hval 1 36 v1 rfl rfl) h1;refine (zmg Tryz.func4 (by kernel_rfl) (by kernel_rfl) (hl:=zpz hL) (args:=[.agg [I c0,uf l0],Go.Ev.encI l1]) (VRL.cons vr0 (VRL.cons vr1 VRL.nil)) (law _ c0 l0 l1 w0a w0b w0c w1a w1b)).mono λe W' ⟨he,hb⟩ => ?_;subst he
  exact ⟨_,rfl,zmh laidOut (by
    rw [Tryz.params4];intro t ht;have h4:([24,36]:List TypeId).all (λt=>Tryz.prog.readableRec t&&decide (t<Tryz.prog.types.size))=true:=by kernel_rfl
    have:=List.all_eq_true.1 h4 t (by simpa using ht);simp only [Bool.and_eq_true,decide_eq_true_eq] at this;exact this) rfl (λds h=>by
    rw [Tryz.params4] at h
    match ds,h with
    | [_,_],_=>rfl) (tb:=4) (by kernel_rfl) Tryz.underlying4 hW' hb⟩

theorem fc4:joinedFacts Tryz.prog 4 Tryz.f4 Rows.linesBasisSpec Rows.linesBasisRow=true:=by
  unfold joinedFacts;have hp:Tryz.f4.params.all (Tryz.prog.readableRec ·)=true:=by rw [Tryz.params4];kernel_rfl
  simp only [Bool.and_eq_true];exact ⟨⟨⟨⟨⟨⟨⟨⟨⟨⟨⟨⟨⟨⟨⟨⟨⟨⟨⟨⟨⟨⟨⟨⟨⟨⟨⟨⟨⟨⟨⟨fc4_wf,zti⟩,ztj⟩,hp⟩,fc4_tie⟩,by kernel_rfl⟩,zpq⟩,by kernel_rfl⟩,zpr⟩,fc4_inp⟩,fc4_unf⟩,fc4_rec⟩,fc4_named⟩,by kernel_rfl⟩,by kernel_rfl⟩,by kernel_rfl⟩,by kernel_rfl⟩,by kernel_rfl⟩,by kernel_rfl⟩,by kernel_rfl⟩,by kernel_rfl⟩,by kernel_rfl⟩,ztk⟩,by kernel_rfl⟩,zps⟩,zyg⟩,ztg⟩,zth⟩,by kernel_rfl⟩,by kernel_rfl⟩,by kernel_rfl⟩,by kernel_rfl⟩

theorem law4_row (law:∀ (B:Nat) (c0:Int) (l0:List (List Int)) (l1:List Int),(Lit.int .i64 c0).wf=true->l0.length<=maxLen->(∀ l∈l0,l.length<=maxLen/\∀ n∈l,(Lit.int .i64 n).wf=true)->l1.length<=maxLen->(∀ n∈l1,(Lit.int .i64 n).wf=true)->(CS Tryz.prog B).fn 4 (.of 4) [.agg [I c0,uf l0],Go.Ev.encI l1] .e .z mF=.ok True):Rows.LinesBasisSaid :=
  OpenClaim.holds_of_wide 4 Tryz.f4 rfl rfl rfl rfl rfl rfl rfl ⟨rfl,rfl,rfl,rfl,rfl⟩ rfl rfl rfl rfl rfl (by kernel_rfl) Tryz.func4 fc4
    (of_decide_eq_true (by kernel_rfl)) (by unfold Func.isWrapper;first | (rw [if_pos (by decide +kernel)];kernel_rfl) | (rw [if_neg (by decide +kernel)];exact ⟨rfl,rfl⟩))
    (λos started H enc _=>law4_lifted law os started H enc)

theorem law4_card (law:∀ (B:Nat) (c0:Int) (l0:List (List Int)) (l1:List Int),(Lit.int .i64 c0).wf=true->l0.length<=maxLen->(∀ l∈l0,l.length<=maxLen/\∀ n∈l,(Lit.int .i64 n).wf=true)->l1.length<=maxLen->(∀ n∈l1,(Lit.int .i64 n).wf=true)->(CS Tryz.prog B).fn 4 (.of 4) [.agg [I c0,uf l0],Go.Ev.encI l1] .e .z mF=.ok True):Rows.LinesBasisCardSaid :=
  Claim7.holds_tied_plain_at .later [] [.data,.data,.data] true (true, "bfbd5c32764d1e82c9430f3864331234c98e0c76f769b4cd8b6b7ac3cca983d9") false
    (law4_row law) (λ_ h=>by cases h) fc4_wfT (λ_ h=>by cases h) linesBasis_row_tie rfl ⟨rfl,rfl⟩ ztl rfl
    (fun f fn hf hfn=>by
      obtain rfl:f=4:=Option.some.inj ((show Tryz.prog.funcNamed "talisman/talismanlaw02.LinesBasis" = some 4 by kernel_rfl).symm.trans hf) |>.symm;obtain rfl:fn=Tryz.f4:=(Option.some.inj (Tryz.func4.symm.trans hfn)).symm
      exact ⟨zpt,λj t ht=>by
        rw [Tryz.params4] at ht;have hm:t∈([24,36]:List TypeId):=by simpa using Array.mem_of_getElem? ht
        have hall:(([24,36]:List TypeId).all λu => !Tryz.prog.wantsStandIn u)=true:=by kernel_rfl
        exact (show Tryz.prog.wantsStandIn t=false by simpa using List.all_eq_true.1 hall t hm)⟩)
    fc4_goes
end Go.Proofs.YtfgpjkchdelphaaGreatDoor
/-
  The law of LinesBasis.
-/
namespace Go.Proofs.YtfgpjkchdelphaaGreatDoor
open Go Go.Ev
theorem linesBasis_proved:Rows.LinesBasisCardSaid:=law4_card λB c0 l0 l1 _ _ _ _ _=>by
  refine law4 (λ{B}=>ztm) _ _ _ _ ?_;rintro _ rfl _;exact if_pos rfl
end Go.Proofs.YtfgpjkchdelphaaGreatDoor
