import Derived.Test.YtlfhlkknakiafaaGreatDoorEvC
import Derived.Below
import Derived.Carry
import Derived.ChangeSame
import Derived.WideKeyArgs
import Derived.Test.YtlfhlkknakiafaaGreatDoorCards
import Derived.Lib.LaidTab
import Derived.KernelRfl
import Derived.Test.YtlfhlkknakiafaaGreatDoorEvD
import Derived.Deep.Matrix
import Derived.Lib.SmallJoins
import Derived.Test.YtlfhlkknakiafaaGreatDoorIrT
import Derived.Test.YtlfhlkknakiafaaGreatDoorFcA
import Derived.Test.YtlfhlkknakiafaaGreatDoorFcB
import Derived.Test.YtlfhlkknakiafaaGreatDoorFcC
import Derived.Test.YtlfhlkknakiafaaGreatDoorFcD
import Derived.Test.YtlfhlkknakiafaaGreatDoorFact
import Derived.Test.YtlfhlkknakiafaaGreatDoorTie
import Derived.ProofKit
import Derived.LaidMore
import Derived.OpenShut
import Derived.Stop.Joined
import Derived.SevenTiedAt
import Derived.Test.YtlfhlkknakiafaaGreatDoorLate
set_option linter.unusedSimpArgs false
set_option linter.unusedVariables false
namespace Go.Ev
open Go Go.RowKit Go.ChangeShapes
open Classical
def zkd (w:World):Prop:=∀ b i v,layC b i=some v->u5 w b i=some v
def allE (w:World) (hl:zkd w):Env:=⟨fun _=>none,u5 w,hl⟩
theorem HR.zrt (P:Program) (w:World) (hl:zkd w):HR P w.heap.size (allE w hl) .e .z w:={
  blk id hid:=hid.elim (T.bg _ id)
  inj id id' b n n' h1:=(h1 (T.bg _ id)).elim
  fresh _ _:=rfl
  lt id b n hid:=by cases hid
  base:=Nat.le_refl _
  frz b i v h:=by
    refine ⟨?_,fun id n hid=>by cases hid⟩;have h:u5 w b i=some v:=h;unfold u5 at h;split at h
    · rename_i c ty fr hb;exact ⟨c,ty,fr,hb,h⟩
    · cases h }
noncomputable def pO:Kw Prop:=fun v _ _=>if v=.bool true then .ok True else .no 0
theorem zmr {P:Program} {f:Nat} {args:List AV} {vs:Array Value} {w:World} {hl:zkd w} {fn:Func} (hf:P.funcs[f]? = some fn) (hb:fn.body.isNone=false) (hn:(fn.name == "runtime.NumGoroutine")=false) (hv:VRL (allE w hl) args vs.toList) (h:(CS P w.heap.size).fn f (.of f) args .e .z pO=.ok True) :
    Go.Calls P f vs w fun e w'=>e=.returned (.bool true)/\Below w.heap.size w w':=by
  obtain ⟨_,_,_,_,h⟩:=zfy.fn (HR.zrt P w hl) hv h;rcases h 0 with ⟨_,_,_,_,h⟩ | ⟨_,v,h,_⟩
  case inr=>rw [uA hf hb hn] at h;cases h
  refine (callsIn_wide.1 h).mono fun e w' hc => ?_;cases e with
  | returned v =>
    obtain ⟨av,h',nx',E',h1,h2,h3,h4⟩:=hc;unfold pO at h1;split at h1
    · rename_i hav;subst hav;simp only [VR] at h2;subst h2;exact ⟨rfl,h4.os,h4.tape,h4.output,h4.size,fun k hk=>h4.keep k hk fun id n hid=>by cases hid⟩
    · cases h1
  | _=>exact hc.elim
section
variable {H:Type} {enc:TypeId×Value->H} {P:Program}
theorem wM (hl:laidOutB P=true) {W W':World} (hb:Below W.heap.size W W') (sp:Nat->Bool):∀ {ts:List TypeId} {vs:List Value} {ds:List (DataW H)} {ps:List MemPlace},
    (∀ t∈ts,P.readableRec t=true/\t<P.types.size)->DataW.TrodAll enc P W 0 (fun _=>true) true ts vs ds ps->(∀ x∈ps,x.block<W.heap.size)->(∀ x∈ps,sp x.block=true)->DataW.TrodAll enc P W' 0 sp true ts vs ds ps
  | [],vs,ds,ps,_,h,_,_=>by
    cases vs <;> cases ds <;> simp only [DataW.TrodAll] at h ⊢ <;> exact h
  | t::ts,vs,ds,ps,ht,h,hlt,hs=>by
    cases vs <;> cases ds <;> simp only [DataW.TrodAll] at h ⊢
    obtain ⟨p,q,h1,h2,rfl⟩:=h;refine ⟨p,q,WideElems.Trod_stays hl (ht t (by simp)).1 (ht t (by simp)).2 h1 (fun x hx=>hb.same (hlt x (by simp [hx]))) (fun x hx=>hs x (by simp [hx])),?_,rfl⟩;exact wM hl hb sp (fun t h=>ht t (by simp [h])) h2 (fun x hx=>hlt x (by simp [hx])) (fun x hx=>hs x (by simp [hx]))
theorem m9 {w:World} {base:Nat} {sp:Nat->Bool} {held:Bool}:∀ {ts:List TypeId} {vs:List Value} {ds:List (DataW H)} {ps:List MemPlace},DataW.TrodAll enc P w base sp held ts vs ds ps->ds.length=ts.length
  | [],vs,ds,ps,h=>by cases vs <;> cases ds <;> simp only [DataW.TrodAll] at h <;> rfl
  | t::ts,vs,ds,ps,h=>by
    cases vs <;> cases ds <;> simp only [DataW.TrodAll] at h
    obtain ⟨p,q,_,h2,_⟩:=h;simp [m9 h2]
theorem zms {f:Func} {s:ChangeSpec} {apart fresh handsOn again:Bool} {W W':World} {args:Array Value} {ds gs:List (DataW H)} {before:List MemPlace} {tb:TypeId}
    (hl:laidOutB P=true) (hts:∀ t∈f.params.toList,P.readableRec t=true/\t<P.types.size) (hvars:s.vars=[]) (hfn:∀ ds:List (DataW H),ds.length=f.params.size->s.fn H ds={ results:=[.lit (.bool true)],args:=ds })
    (hr:f.resultTypes = #[tb]) (htb:P.underlying tb=some .bool)
    (hW:DataW.Whole enc P f.params.toList s.vars apart W args.toList ds gs before) (hb:Below W.heap.size W W'):s.post enc P f apart fresh handsOn again W args (.bool true) W':=by
  have hW0:=hW;obtain ⟨p,q,h1,h2,hpq,hz,hn⟩:=hW;rw [hvars] at h2;obtain ⟨rfl,rfl⟩:=ChangeShapes.trodVars_none h2;have hlt:∀ x∈p,x.block<W.heap.size:=fun x hx=>by
    have:=hW0.lt x (by rw [hpq];simp [hx]);simpa using this
  have hs:s.fn H (ds++[])={ results:=[.lit (.bool true)],args:=ds }:=by
    rw [List.append_nil];exact hfn ds (by rw [m9 h1];simp)
  have hres:∀ (b:Nat) (sp:Nat->Bool) (hd:Bool),DataW.TrodAll enc P W' b sp hd f.resultTypes.toList ((Value.bool true).resultList f.resultTypes.size) [.lit (.bool true)] []:=by
    intro b sp hd;rw [hr];exact ChangeShapes.trodAll_mk1 ⟨1,by simp [DataW.trod,Value.cells,htb]⟩
  subst hpq;refine ⟨ds,[],p++[],[],p,[],hW0,?_,?_,?_,hb.frame _,fun _=>⟨ok_one hr rfl (okWide_bool_mk htb _),[.lit (.bool true)]++ds,[],[]++p,?_,?_⟩⟩
  · rw [hs];exact hres _ _ _
  · rw [hs];exact wM hl hb _ hts h1 hlt (fun x hx=>by simpa using hlt x hx)
  · rw [hs,hvars];simp [DataW.TrodVars]
  · refine ⟨[]++p,[],trodAll_append (wM hl hb _ hts h1 hlt (fun _ _=>rfl)) (hres _ _ _),by rw [hvars];simp [DataW.TrodVars],by simp,?_,?_⟩
    · intro b off hp;have hp:MemPlace.cell b off∈p:=by simpa using hp
      rw [hb.frozen (hlt _ hp)];exact hz b off (by simpa using hp)
    · intro ha;have:=hn ha;simpa using this
  · intro x hx _;simpa using hx
end
end Go.Ev
namespace Go.Proofs.YtlfhlkknakiafaaGreatDoor
open Go Go.Ev
abbrev zc5:List (String×DataW Unit):=[("math/bits.deBruijn32tab",Rows.laid_math_bits_deBruijn32tab),("math/bits.deBruijn64tab",Rows.laid_math_bits_deBruijn64tab),("internal/strconv.uint64pow10",Rows.laid_internal_strconv_uint64pow10)]
def powZ:List Int:=(layG 2).map fun (n:Nat)=>(n:Int)
theorem qea {W:World} (h:laidMetH Tryz.prog zc5 W):zkd W:=by
  have h:laidMet Tryz.prog zc5 W:=h;obtain ⟨ps,⟨_,_,_,_,_,_,_,_,_,_,⟨_,_,_,_,_,_,_,_,_,_,⟨g,t,cs,fuel,p,q,hg,ht,hvar,hd,_,_⟩,_⟩,_⟩,_⟩:=h;obtain rfl:2=g:=Option.some.inj ((show Tryz.prog.globalNamed "internal/strconv.uint64pow10" = some 2 by kernel_rfl).symm.trans hg);obtain rfl:417=t:=Option.some.inj ((show (Tryz.prog.globals[2]?).map (·.type)=some 417 by kernel_rfl).symm.trans ht);have e0:(Rows.laid_internal_strconv_uint64pow10:DataW Unit)=Lib.tabData .u64 powZ:=by kernel_rfl
  rw [e0] at hd;have hcs:cs.toList=powZ.map fun z=>Value.int .u64 z:=Lib.cells_of_tab (n:=20) (e:=301) Tryz.underlying417 Tryz.underlying301 (by kernel_rfl) (by kernel_rfl) hd;intro b i v hb;unfold layC at hb;by_cases hb2:b=2
  case neg =>
    have:layG b=[]:=by
      unfold layG
      rw [show Nat.beq b 2=false from by cases hq:Nat.beq b 2 with
        | false=>rfl
        | true=>exact absurd (Nat.eq_of_beq_eq_true hq) hb2];rfl
    rw [this] at hb;cases hb
  subst hb2;have hv:W.var? Tryz.prog "internal/strconv.uint64pow10" = some cs:=hvar;unfold World.var? at hv;rw [hg] at hv;simp only [Option.bind_some] at hv;unfold u5;split at hv
  · rename_i c ty fr hh;have hc:=Option.some.inj hv;rw [hh];simp only;rw [hc,<- Array.getElem?_toList,hcs];simp only [powZ,List.getElem?_map];cases hq:(layG 2)[i]? with
    | none=>rw [hq] at hb;cases hb
    | some n=>rw [hq] at hb;exact hb
  · cases hv
end Go.Proofs.YtlfhlkknakiafaaGreatDoor
namespace Go.Ev
open Go Go.RowKit Go.ChangeShapes Go.WideShapes Go.Deep Go.Joins
variable {H:Type} {enc:TypeId×Value->H} {P:Program}
end Go.Ev
/-
  For all arguments the law TopLoomOrders returns true: the program's functions return what the reference returns, the results or the errors.
  Conditions: none but those of the given statement.
-/
namespace Go.Proofs.YtlfhlkknakiafaaGreatDoor
open Go Go.Ev Go.ChangeShapes Go.WideShapes Go.ChangeAt Go.RowKit

theorem ownK:ownKnob Tryz.prog.godebug=none:=by kernel_rfl
theorem laidOut:laidOutB Tryz.prog=true:=by kernel_rfl
theorem door_met (os:Os) (args:Array Value):laidMetH Tryz.prog zc5 ((World.doorLaid Tryz.prog 4000 os).forCall (fun _ _=>0) ⟨#[],args,[]⟩).memory :=
  laidMetH_of_parts3 (fuel:=8) (laidMet_of_run' 8 (by kernel_rfl) (by kernel_rfl)) (by kernel_rfl) (by kernel_rfl)

set_option maxRecDepth 100000 in
theorem law4_lifted (law:∀ (B:Nat) (n0:Int),(Lit.int .u8 n0).wf=true->(CS Tryz.prog B).fn 4 (.of 4) [.int .u8 n0] .e .z pO=.ok True)
    (os:Os) (started:os.Started) (H:Type) (enc:TypeId×Value->H) :
    ReturnsInHanded {} Tryz.checked os 4 .any (fun w args=>(Rows.topLoomOrdersSpec.pre enc Tryz.prog Tryz.f4 [] false w args/\laidMetH Tryz.prog zc5 w)/\sizedMet enc Tryz.prog Tryz.f4 (OpenSpec.ofChange Rows.topLoomOrdersSpec) false w args)
      (Rows.topLoomOrdersSpec.post enc Tryz.prog Tryz.f4 false true false false):=by
  refine returnsInHanded_of_change_and (C:=Tryz.checked) (X:=fun w _=>laidMetH Tryz.prog zc5 w) (fun _ _ _ hh h=>h.of_heap hh) ownK started (by kernel_rfl) Tryz.func4
    (ChangeSpec.witness_shaped (enc:=enc) (C:=Tryz.checked) (os:=os) (X:=fun w _=>laidMetH Tryz.prog zc5 w) false (World.doorLaid Tryz.prog 4000 os) #[.int .u8 0] 8 rfl (World.shaped_of_RefB (by kernel_rfl) (by kernel_rfl)) (by kernel_rfl) (by kernel_rfl) (by kernel_rfl) (door_met os _)) ?_
  intro W base args ds gs before hval0 hW _ _ hL _;have hval:∀ (j:Nat) t v,Tryz.f4.params[j]? = some t->args[j]? = some v->Value.okWide Tryz.prog W .any base t v:=hval0;have hW':=hW;obtain ⟨p,q,hA0,hV,rfl,hfz,hnd⟩:=hW;have hA:DataW.TrodAll enc Tryz.prog W 0 (fun _=>true) true Tryz.f4.params.toList args.toList ds p:=hA0;rw [Tryz.params4] at hA hval;obtain ⟨v0,d0,rfl,rfl,h0⟩:=trodAll_one hA;obtain ⟨rfl,rfl⟩:=trodVars_none hV;obtain ⟨n0,rfl,rfl,rfl,w0⟩:=open_int Tryz.underlying5 (hval 0 5 v0 rfl rfl) h0;refine (zmr Tryz.func4 (by kernel_rfl) (by kernel_rfl) (hl:=qea hL) (args:=[.int .u8 n0]) (VRL.cons (by simp only [VR]) VRL.nil) (law _ n0 w0)).mono fun e W' ⟨he,hb⟩ => ?_;subst he
  exact ⟨_,rfl,zms laidOut (by
    rw [Tryz.params4];intro t ht;have h4:([5]:List TypeId).all (fun t=>Tryz.prog.readableRec t&&decide (t<Tryz.prog.types.size))=true:=by kernel_rfl
    have:=List.all_eq_true.1 h4 t (by simpa using ht);simp only [Bool.and_eq_true,decide_eq_true_eq] at this;exact this) rfl (fun ds h=>by
    rw [Tryz.params4] at h
    match ds,h with
    | [_],_=>rfl) (tb:=4) (by kernel_rfl) Tryz.underlying4 hW' hb⟩

theorem fc4:joinedFacts Tryz.prog 4 Tryz.f4 Rows.topLoomOrdersSpec Rows.topLoomOrdersRow=true:=by
  unfold joinedFacts;have hp:Tryz.f4.params.all (Tryz.prog.readableRec ·)=true:=by rw [Tryz.params4];kernel_rfl
  simp only [Bool.and_eq_true];exact ⟨⟨⟨⟨⟨⟨⟨⟨⟨⟨⟨⟨⟨⟨⟨⟨⟨⟨⟨⟨⟨⟨⟨⟨⟨⟨⟨⟨⟨⟨⟨fc4_wf,zu7⟩,zu8⟩,hp⟩,fc4_tie⟩,by kernel_rfl⟩,zq9⟩,by kernel_rfl⟩,zra⟩,fc4_inp⟩,fc4_unf⟩,fc4_rec⟩,fc4_named⟩,by kernel_rfl⟩,by kernel_rfl⟩,by kernel_rfl⟩,by kernel_rfl⟩,by kernel_rfl⟩,by kernel_rfl⟩,by kernel_rfl⟩,by kernel_rfl⟩,by kernel_rfl⟩,zu9⟩,by kernel_rfl⟩,zrb⟩,zzv⟩,zu5⟩,zu6⟩,by kernel_rfl⟩,by kernel_rfl⟩,by kernel_rfl⟩,by kernel_rfl⟩

theorem law4_row (law:∀ (B:Nat) (n0:Int),(Lit.int .u8 n0).wf=true->(CS Tryz.prog B).fn 4 (.of 4) [.int .u8 n0] .e .z pO=.ok True):Rows.TopLoomOrdersSaid :=
  OpenClaim.holds_of_wide 4 Tryz.f4 rfl rfl rfl rfl rfl rfl rfl ⟨rfl,rfl,rfl,rfl,rfl⟩ rfl rfl rfl rfl rfl (by kernel_rfl) Tryz.func4 fc4
    (of_decide_eq_true (by kernel_rfl)) (by unfold Func.isWrapper;first | (rw [if_pos (by decide +kernel)];kernel_rfl) | (rw [if_neg (by decide +kernel)];exact ⟨rfl,rfl⟩))
    (fun os started H enc _=>law4_lifted law os started H enc)

theorem law4_card (law:∀ (B:Nat) (n0:Int),(Lit.int .u8 n0).wf=true->(CS Tryz.prog B).fn 4 (.of 4) [.int .u8 n0] .e .z pO=.ok True):Rows.TopLoomOrdersCardSaid :=
  Claim7.holds_tied_plain_at .later [] [.data,.data,.data] true (true, "19bc5398b2fb3c36bd9ef34bce8378c3e5217dc1170006dac49a33950ad85acf") false
    (law4_row law) (fun _ h=>by cases h) fc4_wfT (fun _ h=>by cases h) topLoomOrders_row_tie rfl ⟨rfl,rfl⟩ zva rfl
    (fun f fn hf hfn=>by
      obtain rfl:f=4:=Option.some.inj ((show Tryz.prog.funcNamed "talisman/talismantop.TopLoomOrders" = some 4 by kernel_rfl).symm.trans hf) |>.symm;obtain rfl:fn=Tryz.f4:=(Option.some.inj (Tryz.func4.symm.trans hfn)).symm
      exact ⟨zrd,fun j t ht=>by
        rw [Tryz.params4] at ht;have hm:t∈([5]:List TypeId):=by simpa using Array.mem_of_getElem? ht
        have hall:(([5]:List TypeId).all fun u => !Tryz.prog.wantsStandIn u)=true:=by kernel_rfl
        exact (show Tryz.prog.wantsStandIn t=false by simpa using List.all_eq_true.1 hall t hm)⟩)
    fc4_goes
end Go.Proofs.YtlfhlkknakiafaaGreatDoor
/-
  The law of TopLoomOrders.
-/
namespace Go.Proofs.YtlfhlkknakiafaaGreatDoor
open Go Go.Ev
theorem zmt {n:Int} (h:(Lit.int .u8 n).wf=true):0<=n/\n<256:=by
  have e1:IntKind.u8.min=0:=by decide
  have e2:IntKind.u8.max=255:=by decide
  simp only [Lit.wf,Bool.and_eq_true,decide_eq_true_eq,e1,e2] at h;omega
theorem topLoomOrders_proved:Rows.TopLoomOrdersCardSaid:=law4_card fun B n0 w0=>by
  obtain ⟨a1,a2⟩:=zmt w0;obtain ⟨a,rfl⟩:=Int.eq_ofNat_of_zero_le a1;refine zro (by omega) _ _ _ _ ?_;rintro _ rfl _;exact if_pos rfl
end Go.Proofs.YtlfhlkknakiafaaGreatDoor
