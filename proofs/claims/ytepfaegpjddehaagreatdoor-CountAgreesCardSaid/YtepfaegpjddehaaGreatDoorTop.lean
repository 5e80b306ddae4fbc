/-
  For all arguments the law CountAgrees returns true: the program's functions return what the reference returns, the results or the errors.
  Conditions: none but those of the given statement.
-/
import Derived.Test.YtepfaegpjddehaaGreatDoorEvD
import Derived.Test.YtepfaegpjddehaaGreatDoorWords
import Derived.Test.YtepfaegpjddehaaGreatDoorIrT
import Derived.Test.YtepfaegpjddehaaGreatDoorFcA
import Derived.Test.YtepfaegpjddehaaGreatDoorFcB
import Derived.Test.YtepfaegpjddehaaGreatDoorFcC
import Derived.Test.YtepfaegpjddehaaGreatDoorFcD
import Derived.Test.YtepfaegpjddehaaGreatDoorFact
import Derived.Test.YtepfaegpjddehaaGreatDoorTie
import Derived.Test.YtepfaegpjddehaaGreatDoorCards
import Derived.ProofKit
import Derived.LaidMore
import Derived.OpenShut
import Derived.Stop.Joined
import Derived.SevenTiedAt
import Derived.Test.YtepfaegpjddehaaGreatDoorWake
import Derived.Test.YtepfaegpjddehaaGreatDoorWorda
import Derived.Test.YtepfaegpjddehaaGreatDoorLaws
set_option linter.unusedSimpArgs false
set_option linter.unusedVariables false
namespace Go.Proofs.YtepfaegpjddehaaGreatDoor
open Go Go.Ev Go.ChangeShapes Go.WideShapes Go.ChangeAt Go.RowKit

theorem ownK : ownKnob Tryz.prog.godebug = none := by kernel_rfl
theorem laidOut : laidOutB Tryz.prog = true := by kernel_rfl
abbrev laid3 : List (String × DataW Unit) := [("math/bits.deBruijn32tab", Rows.laid_math_bits_deBruijn32tab), ("math/bits.deBruijn64tab", Rows.laid_math_bits_deBruijn64tab), ("internal/strconv.uint64pow10", Rows.laid_internal_strconv_uint64pow10)]
theorem door_met (os : Os) (args : Array Value) : laidMetH Tryz.prog laid3 ((World.doorLaid Tryz.prog 4000 os).forCall (fun _ _ => 0) ⟨#[], args, []⟩).memory :=
  laidMetH_of_parts3 (fuel := 8) (laidMet_of_run' 8 (by kernel_rfl) (by kernel_rfl)) (by kernel_rfl) (by kernel_rfl)

set_option maxRecDepth 100000 in
theorem law17_lifted (law : ∀ (B : Nat) (c0 : Int) (l0 : List (List Int)), (Lit.int .i64 c0).wf = true → l0.length ≤ maxLen → (∀ l ∈ l0, l.length ≤ maxLen ∧ ∀ n ∈ l, (Lit.int .i64 n).wf = true) → (CS Tryz.prog B).fn 17 (.of 17) [.agg [I c0, encT l0]] .e .z retTrue = .ok True)
    (os : Os) (started : os.Started) (H : Type) (enc : TypeId × Value → H) :
    ReturnsInHanded {} Tryz.checked os 17 .any (fun w args => (Rows.countAgreesSpec.pre enc Tryz.prog Tryz.f17 [] false w args ∧ laidMetH Tryz.prog laid3 w) ∧ sizedMet enc Tryz.prog Tryz.f17 (OpenSpec.ofChange Rows.countAgreesSpec) false w args)
      (Rows.countAgreesSpec.post enc Tryz.prog Tryz.f17 false true false false) := by
  refine returnsInHanded_of_change_and (C := Tryz.checked) (X := fun w _ => laidMetH Tryz.prog laid3 w) (fun _ _ _ hh h => h.of_heap hh) ownK started (by kernel_rfl) Tryz.func17
    (ChangeSpec.witness_shaped (enc := enc) (C := Tryz.checked) (os := os) (X := fun w _ => laidMetH Tryz.prog laid3 w) false (World.doorLaid Tryz.prog 4000 os) #[.agg #[.int .i64 0, .slice none 0 0]] 8 rfl (World.shaped_of_RefB (by kernel_rfl) (by kernel_rfl)) (by kernel_rfl) (by kernel_rfl) (by kernel_rfl) (door_met os _)) ?_
  intro W base args ds gs before hval0 hW _ _ hL _
  have hval : ∀ (j : Nat) t v, Tryz.f17.params[j]? = some t → args[j]? = some v → Value.okWide Tryz.prog W .any base t v := hval0
  have hW' := hW
  obtain ⟨p, q, hA0, hV, rfl, hfz, hnd⟩ := hW
  have hA : DataW.TrodAll enc Tryz.prog W 0 (fun _ => true) true Tryz.f17.params.toList args.toList ds p := hA0
  rw [Tryz.params17] at hA hval
  obtain ⟨v0, d0, rfl, rfl, h0⟩ := trodAll_one hA
  obtain ⟨rfl, rfl⟩ := trodVars_none hV
  obtain ⟨c0, l0, vr0, w0a, w0b, w0c⟩ := open_system Tryz.underlying35 (by kernel_rfl) (by kernel_rfl) rfl rfl Tryz.underlying3 Tryz.underlying23 Tryz.underlying46 (by kernel_rfl) (by kernel_rfl) (hval 0 35 v0 rfl rfl) h0
  refine (law_calls (args := [.agg [I c0, encT l0]]) (VRL.cons vr0 VRL.nil) (law _ c0 l0 w0a w0b w0c)).mono fun e W' ⟨he, hb⟩ => ?_
  subst he
  exact ⟨_, rfl, post_true laidOut (by
    rw [Tryz.params17]; intro t ht
    have h17 : ([35] : List TypeId).all (fun t => Tryz.prog.readableRec t && decide (t < Tryz.prog.types.size)) = true := by kernel_rfl
    have := List.all_eq_true.1 h17 t (by simpa using ht)
    simp only [Bool.and_eq_true, decide_eq_true_eq] at this
    exact this) rfl (fun ds h => by
    rw [Tryz.params17] at h
    match ds, h with
    | [_], _ => rfl) (tb := 4) (by kernel_rfl) Tryz.underlying4 hW' hb⟩

theorem fc17 : joinedFacts Tryz.prog 17 Tryz.f17 Rows.countAgreesSpec Rows.countAgreesRow = true := by
  unfold joinedFacts
  have hp : Tryz.f17.params.all (Tryz.prog.readableRec ·) = true := by rw [Tryz.params17]; kernel_rfl
  simp only [Bool.and_eq_true]
  exact ⟨⟨⟨⟨⟨⟨⟨⟨⟨⟨⟨⟨⟨⟨⟨⟨⟨⟨⟨⟨⟨⟨⟨⟨⟨⟨⟨⟨⟨⟨⟨fc17_wf, fc_laid⟩, fc_maps⟩, hp⟩, fc17_tie⟩, by kernel_rfl⟩, fc_stops⟩, by kernel_rfl⟩, fc_knobs⟩, fc17_inp⟩, fc17_unf⟩, fc17_rec⟩, fc17_named⟩, by kernel_rfl⟩, by kernel_rfl⟩, by kernel_rfl⟩, by kernel_rfl⟩, by kernel_rfl⟩, by kernel_rfl⟩, by kernel_rfl⟩, by kernel_rfl⟩, by kernel_rfl⟩, fc_keys⟩, by kernel_rfl⟩, fc_heard⟩, fc_may⟩, fc_lift⟩, fc_make⟩, by kernel_rfl⟩, by kernel_rfl⟩, by kernel_rfl⟩, by kernel_rfl⟩

theorem law17_row (law : ∀ (B : Nat) (c0 : Int) (l0 : List (List Int)), (Lit.int .i64 c0).wf = true → l0.length ≤ maxLen → (∀ l ∈ l0, l.length ≤ maxLen ∧ ∀ n ∈ l, (Lit.int .i64 n).wf = true) → (CS Tryz.prog B).fn 17 (.of 17) [.agg [I c0, encT l0]] .e .z retTrue = .ok True) : Rows.CountAgreesSaid :=
  OpenClaim.holds_of_wide 17 Tryz.f17 rfl rfl rfl rfl rfl rfl rfl ⟨rfl, rfl, rfl, rfl, rfl⟩ rfl rfl rfl rfl rfl (by kernel_rfl) Tryz.func17 fc17
    (of_decide_eq_true (by kernel_rfl)) (by unfold Func.isWrapper; first | (rw [if_pos (by decide +kernel)]; kernel_rfl) | (rw [if_neg (by decide +kernel)]; exact ⟨rfl, rfl⟩))
    (fun os started H enc _ => law17_lifted law os started H enc)

theorem law17_card (law : ∀ (B : Nat) (c0 : Int) (l0 : List (List Int)), (Lit.int .i64 c0).wf = true → l0.length ≤ maxLen → (∀ l ∈ l0, l.length ≤ maxLen ∧ ∀ n ∈ l, (Lit.int .i64 n).wf = true) → (CS Tryz.prog B).fn 17 (.of 17) [.agg [I c0, encT l0]] .e .z retTrue = .ok True) : Rows.CountAgreesCardSaid :=
  Claim7.holds_tied_plain_at .later [] [.data, .data, .data] true (true, "2fc464bbbf6b3a463d4eab77d903c5902ac939b6355f716b1a2034aeac3b7dac") false
    (law17_row law) (fun _ h => by cases h) fc17_wfT (fun _ h => by cases h) countAgrees_row_tie rfl ⟨rfl, rfl⟩ fc_main rfl
    (fun f fn hf hfn => by
      obtain rfl : f = 17 := Option.some.inj ((show Tryz.prog.funcNamed "talisman/talismanlaw07.CountAgrees" = some 17 by kernel_rfl).symm.trans hf) |>.symm
      obtain rfl : fn = Tryz.f17 := (Option.some.inj (Tryz.func17.symm.trans hfn)).symm
      exact ⟨fc_looks, fun j t ht => by
        rw [Tryz.params17] at ht
        have hm : t ∈ ([35] : List TypeId) := by simpa using Array.mem_of_getElem? ht
        have hall : (([35] : List TypeId).all fun u => !Tryz.prog.wantsStandIn u) = true := by kernel_rfl
        exact (show Tryz.prog.wantsStandIn t = false by simpa using List.all_eq_true.1 hall t hm)⟩)
    fc17_goes
end Go.Proofs.YtepfaegpjddehaaGreatDoor
/-
  The law of CountAgrees.
-/
namespace Go.Proofs.YtepfaegpjddehaaGreatDoor
open Go Go.Ev
theorem hookS_law (B : Nat) : JOk Tryz.prog B hookS := hookS_ok (fun blk off cap zs w hH hb hz => Tryz.slices_Sort_int blk off cap zs w hH hb hz) (fun p cap w => Tryz.slices_Sort_int_none p cap w)
theorem countAgrees_proved : Rows.CountAgreesCardSaid := law17_card fun B cells lines _ _ _ => by
  refine law17 hookS_law awake18 _ _ _ _ ?_
  rintro _ rfl _
  exact if_pos rfl
end Go.Proofs.YtepfaegpjddehaaGreatDoor
