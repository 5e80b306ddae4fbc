import Derived.Test.YtlfhlkknakiafaaGreatDoorEvC
import Derived.Below
import Derived.Carry
import Derived.ChangeSame
import Derived.WideKeyArgs
import Derived.Test.YtlfhlkknakiafaaGreatDoorCards
import Derived.Lib.LaidTab
import Derived.KernelRfl
import Derived.Test.YtlfhlkknakiafaaGreatDoorEvD
import Derived.Deep.Matrix
import Derived.Lib.SmallJoins
import Derived.Test.YtlfhlkknakiafaaGreatDoorIrT
import Derived.Test.YtlfhlkknakiafaaGreatDoorFcA
import Derived.Test.YtlfhlkknakiafaaGreatDoorFcB
import Derived.Test.YtlfhlkknakiafaaGreatDoorFcC
import Derived.Test.YtlfhlkknakiafaaGreatDoorFcD
import Derived.Test.YtlfhlkknakiafaaGreatDoorFact
import Derived.Test.YtlfhlkknakiafaaGreatDoorTie
import Derived.ProofKit
import Derived.LaidMore
import Derived.OpenShut
import Derived.Stop.Joined
import Derived.SevenTiedAt
import Derived.Test.YtlfhlkknakiafaaGreatDoorLate
set_option linter.unusedSimpArgs false
set_option linter.unusedVariables false
namespace Go.Ev
open Go Go.RowKit Go.ChangeShapes
open Classical
def LaidW (w : World) : Prop := ∀ b i v, layC b i = some v → y3 w b i = some v
def allE (w : World) (hl : LaidW w) : Env := ⟨fun _ => none, y3 w, hl⟩
theorem HR.startAll (P : Program) (w : World) (hl : LaidW w) : HR P w.heap.size (allE w hl) .e .z w := {
  blk id hid := hid.elim (T.get_e _ id)
  inj id id' b n n' h1 := (h1 (T.get_e _ id)).elim
  fresh _ _ := rfl
  lt id b n hid := by cases hid
  base := Nat.le_refl _
  frz b i v h := by
    refine ⟨?_, fun id n hid => by cases hid⟩
    have h : y3 w b i = some v := h
    unfold y3 at h
    split at h
    · rename_i c ty fr hb
      exact ⟨c, ty, fr, hb, h⟩
    · cases h }
noncomputable def k9 : Kw Prop := fun v _ _ => if v = .bool true then .ok True else .no 0
theorem law_calls {P : Program} {f : Nat} {args : List AV} {vs : Array Value} {w : World} {hl : LaidW w} {fn : Func} (hf : P.funcs[f]? = some fn) (hb : fn.body.isNone = false) (hn : (fn.name == "runtime.NumGoroutine") = false) (hv : VRL (allE w hl) args vs.toList) (h : (CS P w.heap.size).fn f (.of f) args .e .z k9 = .ok True) :
    Go.Calls P f vs w fun e w' => e = .returned (.bool true) ∧ Below w.heap.size w w' := by
  obtain ⟨_, _, _, _, h⟩ := CS_ok.fn (HR.startAll P w hl) hv h
  rcases h 0 with ⟨_, _, _, _, h⟩ | ⟨_, v, h, _⟩
  case inr => rw [yH hf hb hn] at h; cases h
  refine (callsIn_wide.1 h).mono fun e w' hc => ?_
  cases e with
  | returned v =>
    obtain ⟨av, h', nx', E', h1, h2, h3, h4⟩ := hc
    unfold k9 at h1
    split at h1
    · rename_i hav
      subst hav
      simp only [VR] at h2
      subst h2
      exact ⟨rfl, h4.os, h4.tape, h4.output, h4.size, fun k hk => h4.keep k hk fun id n hid => by cases hid⟩
    · cases h1
  | _ => exact hc.elim
section
variable {H : Type} {enc : TypeId × Value → H} {P : Program}
theorem gI (hl : laidOutB P = true) {W W' : World} (hb : Below W.heap.size W W') (sp : Nat → Bool) : ∀ {ts : List TypeId} {vs : List Value} {ds : List (DataW H)} {ps : List MemPlace},
    (∀ t ∈ ts, P.readableRec t = true ∧ t < P.types.size) → DataW.TrodAll enc P W 0 (fun _ => true) true ts vs ds ps → (∀ x ∈ ps, x.block < W.heap.size) → (∀ x ∈ ps, sp x.block = true) → DataW.TrodAll enc P W' 0 sp true ts vs ds ps
  | [], vs, ds, ps, _, h, _, _ => by
    cases vs <;> cases ds <;> simp only [DataW.TrodAll] at h ⊢ <;> exact h
  | t :: ts, vs, ds, ps, ht, h, hlt, hs => by
    cases vs <;> cases ds <;> simp only [DataW.TrodAll] at h ⊢
    obtain ⟨p, q, h1, h2, rfl⟩ := h
    refine ⟨p, q, WideElems.Trod_stays hl (ht t (by simp)).1 (ht t (by simp)).2 h1 (fun x hx => hb.same (hlt x (by simp [hx]))) (fun x hx => hs x (by simp [hx])), ?_, rfl⟩
    exact gI hl hb sp (fun t h => ht t (by simp [h])) h2 (fun x hx => hlt x (by simp [hx])) (fun x hx => hs x (by simp [hx]))
theorem q8 {w : World} {base : Nat} {sp : Nat → Bool} {held : Bool} : ∀ {ts : List TypeId} {vs : List Value} {ds : List (DataW H)} {ps : List MemPlace}, DataW.TrodAll enc P w base sp held ts vs ds ps → ds.length = ts.length
  | [], vs, ds, ps, h => by cases vs <;> cases ds <;> simp only [DataW.TrodAll] at h <;> rfl
  | t :: ts, vs, ds, ps, h => by
    cases vs <;> cases ds <;> simp only [DataW.TrodAll] at h
    obtain ⟨p, q, _, h2, _⟩ := h
    simp [q8 h2]
theorem post_true {f : Func} {s : ChangeSpec} {apart fresh handsOn again : Bool} {W W' : World} {args : Array Value} {ds gs : List (DataW H)} {before : List MemPlace} {tb : TypeId}
    (hl : laidOutB P = true) (hts : ∀ t ∈ f.params.toList, P.readableRec t = true ∧ t < P.types.size) (hvars : s.vars = []) (hfn : ∀ ds : List (DataW H), ds.length = f.params.size → s.fn H ds = { results := [.lit (.bool true)], args := ds })
    (hr : f.resultTypes = #[tb]) (htb : P.underlying tb = some .bool)
    (hW : DataW.Whole enc P f.params.toList s.vars apart W args.toList ds gs before) (hb : Below W.heap.size W W') : s.post enc P f apart fresh handsOn again W args (.bool true) W' := by
  have hW0 := hW
  obtain ⟨p, q, h1, h2, hpq, hz, hn⟩ := hW
  rw [hvars] at h2
  obtain ⟨rfl, rfl⟩ := ChangeShapes.trodVars_none h2
  have hlt : ∀ x ∈ p, x.block < W.heap.size := fun x hx => by
    have := hW0.lt x (by rw [hpq]; simp [hx])
    simpa using this
  have hs : s.fn H (ds ++ []) = { results := [.lit (.bool true)], args := ds } := by
    rw [List.append_nil]; exact hfn ds (by rw [q8 h1]; simp)
  have hres : ∀ (b : Nat) (sp : Nat → Bool) (hd : Bool), DataW.TrodAll enc P W' b sp hd f.resultTypes.toList ((Value.bool true).resultList f.resultTypes.size) [.lit (.bool true)] [] := by
    intro b sp hd
    rw [hr]
    exact ChangeShapes.trodAll_mk1 ⟨1, by simp [DataW.trod, Value.cells, htb]⟩
  subst hpq
  refine ⟨ds, [], p ++ [], [], p, [], hW0, ?_, ?_, ?_, hb.frame _, fun _ => ⟨ok_one hr rfl (okWide_bool_mk htb _), [.lit (.bool true)] ++ ds, [], [] ++ p, ?_, ?_⟩⟩
  · rw [hs]; exact hres _ _ _
  · rw [hs]; exact gI hl hb _ hts h1 hlt (fun x hx => by simpa using hlt x hx)
  · rw [hs, hvars]; simp [DataW.TrodVars]
  · refine ⟨[] ++ p, [], trodAll_append (gI hl hb _ hts h1 hlt (fun _ _ => rfl)) (hres _ _ _), by rw [hvars]; simp [DataW.TrodVars], by simp, ?_, ?_⟩
    · intro b off hp
      have hp : MemPlace.cell b off ∈ p := by simpa using hp
      rw [hb.frozen (hlt _ hp)]
      exact hz b off (by simpa using hp)
    · intro ha
      have := hn ha
      simpa using this
  · intro x hx _
    simpa using hx
end
end Go.Ev
namespace Go.Proofs.YtlfhlkknakiafaaGreatDoor
open Go Go.Ev
abbrev laid3 : List (String × DataW Unit) := [("math/bits.deBruijn32tab", Rows.laid_math_bits_deBruijn32tab), ("math/bits.deBruijn64tab", Rows.laid_math_bits_deBruijn64tab), ("internal/strconv.uint64pow10", Rows.laid_internal_strconv_uint64pow10)]
def powZ : List Int := (layG 2).map fun (n : Nat) => (n : Int)
theorem laidW {W : World} (h : laidMetH Tryz.prog laid3 W) : LaidW W := by
  have h : laidMet Tryz.prog laid3 W := h
  obtain ⟨ps, ⟨_, _, _, _, _, _, _, _, _, _, ⟨_, _, _, _, _, _, _, _, _, _, ⟨g, t, cs, fuel, p, q, hg, ht, hvar, hd, _, _⟩, _⟩, _⟩, _⟩ := h
  obtain rfl : 2 = g := Option.some.inj ((show Tryz.prog.globalNamed "internal/strconv.uint64pow10" = some 2 by kernel_rfl).symm.trans hg)
  obtain rfl : 417 = t := Option.some.inj ((show (Tryz.prog.globals[2]?).map (·.type) = some 417 by kernel_rfl).symm.trans ht)
  have e0 : (Rows.laid_internal_strconv_uint64pow10 : DataW Unit) = Lib.tabData .u64 powZ := by kernel_rfl
  rw [e0] at hd
  have hcs : cs.toList = powZ.map fun z => Value.int .u64 z := Lib.cells_of_tab (n := 20) (e := 301) Tryz.underlying417 Tryz.underlying301 (by kernel_rfl) (by kernel_rfl) hd
  intro b i v hb
  unfold layC at hb
  by_cases hb2 : b = 2
  case neg =>
    have : layG b = [] := by
      unfold layG
      rw [show Nat.beq b 2 = false from by cases hq : Nat.beq b 2 with
        | false => rfl
        | true => exact absurd (Nat.eq_of_beq_eq_true hq) hb2]; rfl
    rw [this] at hb
    cases hb
  subst hb2
  have hv : W.var? Tryz.prog "internal/strconv.uint64pow10" = some cs := hvar
  unfold World.var? at hv
  rw [hg] at hv
  simp only [Option.bind_some] at hv
  unfold y3
  split at hv
  · rename_i c ty fr hh
    have hc := Option.some.inj hv
    rw [hh]
    simp only
    rw [hc, ← Array.getElem?_toList, hcs]
    simp only [powZ, List.getElem?_map]
    cases hq : (layG 2)[i]? with
    | none => rw [hq] at hb; cases hb
    | some n => rw [hq] at hb; exact hb
  · cases hv
end Go.Proofs.YtlfhlkknakiafaaGreatDoor
namespace Go.Ev
open Go Go.RowKit Go.ChangeShapes Go.WideShapes Go.Deep Go.Joins
variable {H : Type} {enc : TypeId × Value → H} {P : Program}
end Go.Ev
/-
  For all arguments the law TopLoomFields returns true: the program's functions return what the reference returns, the results or the errors.
  Conditions: none but those of the given statement.
-/
namespace Go.Proofs.YtlfhlkknakiafaaGreatDoor
open Go Go.Ev Go.ChangeShapes Go.WideShapes Go.ChangeAt Go.RowKit

theorem ownK : ownKnob Tryz.prog.godebug = none := by kernel_rfl
theorem laidOut : laidOutB Tryz.prog = true := by kernel_rfl
theorem door_met (os : Os) (args : Array Value) : laidMetH Tryz.prog laid3 ((World.doorLaid Tryz.prog 4000 os).forCall (fun _ _ => 0) ⟨#[], args, []⟩).memory :=
  laidMetH_of_parts3 (fuel := 8) (laidMet_of_run' 8 (by kernel_rfl) (by kernel_rfl)) (by kernel_rfl) (by kernel_rfl)

set_option maxRecDepth 100000 in
theorem law3_lifted (law : ∀ (B : Nat) (n0 : Int) (n1 : Int) (n2 : Int), (Lit.int .u8 n0).wf = true → (Lit.int .u8 n1).wf = true → (Lit.int .u8 n2).wf = true → (CS Tryz.prog B).fn 3 (.of 3) [.int .u8 n0, .int .u8 n1, .int .u8 n2] .e .z k9 = .ok True)
    (os : Os) (started : os.Started) (H : Type) (enc : TypeId × Value → H) :
    ReturnsInHanded {} Tryz.checked os 3 .any (fun w args => (Rows.topLoomFieldsSpec.pre enc Tryz.prog Tryz.f3 [] false w args ∧ laidMetH Tryz.prog laid3 w) ∧ sizedMet enc Tryz.prog Tryz.f3 (OpenSpec.ofChange Rows.topLoomFieldsSpec) false w args)
      (Rows.topLoomFieldsSpec.post enc Tryz.prog Tryz.f3 false true false false) := by
  refine returnsInHanded_of_change_and (C := Tryz.checked) (X := fun w _ => laidMetH Tryz.prog laid3 w) (fun _ _ _ hh h => h.of_heap hh) ownK started (by kernel_rfl) Tryz.func3
    (ChangeSpec.witness_shaped (enc := enc) (C := Tryz.checked) (os := os) (X := fun w _ => laidMetH Tryz.prog laid3 w) false (World.doorLaid Tryz.prog 4000 os) #[.int .u8 0, .int .u8 0, .int .u8 0] 8 rfl (World.shaped_of_RefB (by kernel_rfl) (by kernel_rfl)) (by kernel_rfl) (by kernel_rfl) (by kernel_rfl) (door_met os _)) ?_
  intro W base args ds gs before hval0 hW _ _ hL _
  have hval : ∀ (j : Nat) t v, Tryz.f3.params[j]? = some t → args[j]? = some v → Value.okWide Tryz.prog W .any base t v := hval0
  have hW' := hW
  obtain ⟨p, q, hA0, hV, rfl, hfz, hnd⟩ := hW
  have hA : DataW.TrodAll enc Tryz.prog W 0 (fun _ => true) true Tryz.f3.params.toList args.toList ds p := hA0
  rw [Tryz.params3] at hA hval
  obtain ⟨v0, v1, v2, d0, d1, d2, p0, p1, p2, rfl, rfl, rfl, h0, h1, h2⟩ := trodAll_three hA
  obtain ⟨rfl, rfl⟩ := trodVars_none hV
  obtain ⟨n0, rfl, rfl, rfl, w0⟩ := open_int Tryz.underlying5 (hval 0 5 v0 rfl rfl) h0
  obtain ⟨n1, rfl, rfl, rfl, w1⟩ := open_int Tryz.underlying5 (hval 1 5 v1 rfl rfl) h1
  obtain ⟨n2, rfl, rfl, rfl, w2⟩ := open_int Tryz.underlying5 (hval 2 5 v2 rfl rfl) h2
  refine (law_calls Tryz.func3 (by kernel_rfl) (by kernel_rfl) (hl := laidW hL) (args := [.int .u8 n0, .int .u8 n1, .int .u8 n2]) (VRL.cons (by simp only [VR]) (VRL.cons (by simp only [VR]) (VRL.cons (by simp only [VR]) VRL.nil))) (law _ n0 n1 n2 w0 w1 w2)).mono fun e W' ⟨he, hb⟩ => ?_
  subst he
  exact ⟨_, rfl, post_true laidOut (by
    rw [Tryz.params3]; intro t ht
    have h3 : ([5, 5, 5] : List TypeId).all (fun t => Tryz.prog.readableRec t && decide (t < Tryz.prog.types.size)) = true := by kernel_rfl
    have := List.all_eq_true.1 h3 t (by simpa using ht)
    simp only [Bool.and_eq_true, decide_eq_true_eq] at this
    exact this) rfl (fun ds h => by
    rw [Tryz.params3] at h
    match ds, h with
    | [_, _, _], _ => rfl) (tb := 4) (by kernel_rfl) Tryz.underlying4 hW' hb⟩

theorem fc3 : joinedFacts Tryz.prog 3 Tryz.f3 Rows.topLoomFieldsSpec Rows.topLoomFieldsRow = true := by
  unfold joinedFacts
  have hp : Tryz.f3.params.all (Tryz.prog.readableRec ·) = true := by rw [Tryz.params3]; kernel_rfl
  simp only [Bool.and_eq_true]
  exact ⟨⟨⟨⟨⟨⟨⟨⟨⟨⟨⟨⟨⟨⟨⟨⟨⟨⟨⟨⟨⟨⟨⟨⟨⟨⟨⟨⟨⟨⟨⟨fc3_wf, fc_laid⟩, fc_maps⟩, hp⟩, fc3_tie⟩, by kernel_rfl⟩, fc_stops⟩, by kernel_rfl⟩, fc_knobs⟩, fc3_inp⟩, fc3_unf⟩, fc3_rec⟩, fc3_named⟩, by kernel_rfl⟩, by kernel_rfl⟩, by kernel_rfl⟩, by kernel_rfl⟩, by kernel_rfl⟩, by kernel_rfl⟩, by kernel_rfl⟩, by kernel_rfl⟩, by kernel_rfl⟩, fc_keys⟩, by kernel_rfl⟩, fc_heard⟩, fc_may⟩, fc_lift⟩, fc_make⟩, by kernel_rfl⟩, by kernel_rfl⟩, by kernel_rfl⟩, by kernel_rfl⟩

theorem law3_row (law : ∀ (B : Nat) (n0 : Int) (n1 : Int) (n2 : Int), (Lit.int .u8 n0).wf = true → (Lit.int .u8 n1).wf = true → (Lit.int .u8 n2).wf = true → (CS Tryz.prog B).fn 3 (.of 3) [.int .u8 n0, .int .u8 n1, .int .u8 n2] .e .z k9 = .ok True) : Rows.TopLoomFieldsSaid :=
  OpenClaim.holds_of_wide 3 Tryz.f3 rfl rfl rfl rfl rfl rfl rfl ⟨rfl, rfl, rfl, rfl, rfl⟩ rfl rfl rfl rfl rfl (by kernel_rfl) Tryz.func3 fc3
    (of_decide_eq_true (by kernel_rfl)) (by unfold Func.isWrapper; first | (rw [if_pos (by decide +kernel)]; kernel_rfl) | (rw [if_neg (by decide +kernel)]; exact ⟨rfl, rfl⟩))
    (fun os started H enc _ => law3_lifted law os started H enc)

theorem law3_card (law : ∀ (B : Nat) (n0 : Int) (n1 : Int) (n2 : Int), (Lit.int .u8 n0).wf = true → (Lit.int .u8 n1).wf = true → (Lit.int .u8 n2).wf = true → (CS Tryz.prog B).fn 3 (.of 3) [.int .u8 n0, .int .u8 n1, .int .u8 n2] .e .z k9 = .ok True) : Rows.TopLoomFieldsCardSaid :=
  Claim7.holds_tied_plain_at .later [] [.data, .data, .data] true (true, "19bc5398b2fb3c36bd9ef34bce8378c3e5217dc1170006dac49a33950ad85acf") false
    (law3_row law) (fun _ h => by cases h) fc3_wfT (fun _ h => by cases h) topLoomFields_row_tie rfl ⟨rfl, rfl⟩ fc_main rfl
    (fun f fn hf hfn => by
      obtain rfl : f = 3 := Option.some.inj ((show Tryz.prog.funcNamed "talisman/talismantop.TopLoomFields" = some 3 by kernel_rfl).symm.trans hf) |>.symm
      obtain rfl : fn = Tryz.f3 := (Option.some.inj (Tryz.func3.symm.trans hfn)).symm
      exact ⟨fc_looks, fun j t ht => by
        rw [Tryz.params3] at ht
        have hm : t ∈ ([5, 5, 5] : List TypeId) := by simpa using Array.mem_of_getElem? ht
        have hall : (([5, 5, 5] : List TypeId).all fun u => !Tryz.prog.wantsStandIn u) = true := by kernel_rfl
        exact (show Tryz.prog.wantsStandIn t = false by simpa using List.all_eq_true.1 hall t hm)⟩)
    fc3_goes
end Go.Proofs.YtlfhlkknakiafaaGreatDoor
/-
  The law of TopLoomFields.
-/
namespace Go.Proofs.YtlfhlkknakiafaaGreatDoor
open Go Go.Ev
theorem qR {n : Int} (h : (Lit.int .u8 n).wf = true) : 0 ≤ n ∧ n < 256 := by
  have e1 : IntKind.u8.min = 0 := by decide
  have e2 : IntKind.u8.max = 255 := by decide
  simp only [Lit.wf, Bool.and_eq_true, decide_eq_true_eq, e1, e2] at h
  omega
theorem topLoomFields_proved : Rows.TopLoomFieldsCardSaid := law3_card fun B n0 n1 n2 w0 w1 w2 => by
  obtain ⟨a1, a2⟩ := qR w0
  obtain ⟨b1, b2⟩ := qR w1
  obtain ⟨c1, c2⟩ := qR w2
  obtain ⟨a, rfl⟩ := Int.eq_ofNat_of_zero_le a1
  obtain ⟨b, rfl⟩ := Int.eq_ofNat_of_zero_le b1
  obtain ⟨c, rfl⟩ := Int.eq_ofNat_of_zero_le c1
  refine lawTop3 (by omega) (by omega) (by omega) _ _ _ _ ?_
  rintro _ rfl _
  exact if_pos rfl
end Go.Proofs.YtlfhlkknakiafaaGreatDoor
