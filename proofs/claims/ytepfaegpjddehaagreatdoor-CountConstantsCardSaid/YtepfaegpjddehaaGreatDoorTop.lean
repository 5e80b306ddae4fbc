/-
  For all arguments the law CountConstants returns true: the program's functions return what the reference returns, the results or the errors.
  Conditions: none but those of the given statement.
-/
import Derived.Test.YtepfaegpjddehaaGreatDoorEvD
import Derived.Test.YtepfaegpjddehaaGreatDoorWords
import Derived.Test.YtepfaegpjddehaaGreatDoorIrT
import Derived.Test.YtepfaegpjddehaaGreatDoorFcA
import Derived.Test.YtepfaegpjddehaaGreatDoorFcB
import Derived.Test.YtepfaegpjddehaaGreatDoorFcC
import Derived.Test.YtepfaegpjddehaaGreatDoorFcD
import Derived.Test.YtepfaegpjddehaaGreatDoorFact
import Derived.Test.YtepfaegpjddehaaGreatDoorTie
import Derived.Test.YtepfaegpjddehaaGreatDoorCards
import Derived.ProofKit
import Derived.LaidMore
import Derived.OpenShut
import Derived.Stop.Joined
import Derived.SevenTiedAt
import Derived.Test.YtepfaegpjddehaaGreatDoorWake
import Derived.Test.YtepfaegpjddehaaGreatDoorWorda
import Derived.Test.YtepfaegpjddehaaGreatDoorLaws
set_option linter.unusedSimpArgs false
set_option linter.unusedVariables false
namespace Go.Proofs.YtepfaegpjddehaaGreatDoor
open Go Go.Ev Go.ChangeShapes Go.WideShapes Go.ChangeAt Go.RowKit

theorem ownK : ownKnob Tryz.prog.godebug = none := by kernel_rfl
theorem laidOut : laidOutB Tryz.prog = true := by kernel_rfl
abbrev laid3 : List (String × DataW Unit) := [("math/bits.deBruijn32tab", Rows.laid_math_bits_deBruijn32tab), ("math/bits.deBruijn64tab", Rows.laid_math_bits_deBruijn64tab), ("internal/strconv.uint64pow10", Rows.laid_internal_strconv_uint64pow10)]
theorem door_met (os : Os) (args : Array Value) : laidMetH Tryz.prog laid3 ((World.doorLaid Tryz.prog 4000 os).forCall (fun _ _ => 0) ⟨#[], args, []⟩).memory :=
  laidMetH_of_parts3 (fuel := 8) (laidMet_of_run' 8 (by kernel_rfl) (by kernel_rfl)) (by kernel_rfl) (by kernel_rfl)

set_option maxRecDepth 100000 in
theorem law16_lifted (law : ∀ (B : Nat) (c0 : Int) (l0 : List (Int × Int)), (Lit.int .i64 c0).wf = true → l0.length ≤ maxLen → (CS Tryz.prog B).fn 16 (.of 16) [.agg [I c0, encP l0]] .e .z pC = .ok True)
    (os : Os) (started : os.Started) (H : Type) (enc : TypeId × Value → H) :
    ReturnsInHanded {} Tryz.checked os 16 .any (fun w args => (Rows.countConstantsSpec.pre enc Tryz.prog Tryz.f16 [] false w args ∧ laidMetH Tryz.prog laid3 w) ∧ sizedMet enc Tryz.prog Tryz.f16 (OpenSpec.ofChange Rows.countConstantsSpec) false w args)
      (Rows.countConstantsSpec.post enc Tryz.prog Tryz.f16 false true false false) := by
  refine returnsInHanded_of_change_and (C := Tryz.checked) (X := fun w _ => laidMetH Tryz.prog laid3 w) (fun _ _ _ hh h => h.of_heap hh) ownK started (by kernel_rfl) Tryz.func16
    (ChangeSpec.witness_shaped (enc := enc) (C := Tryz.checked) (os := os) (X := fun w _ => laidMetH Tryz.prog laid3 w) false (World.doorLaid Tryz.prog 4000 os) #[.agg #[.int .i64 0, .slice none 0 0]] 8 rfl (World.shaped_of_RefB (by kernel_rfl) (by kernel_rfl)) (by kernel_rfl) (by kernel_rfl) (by kernel_rfl) (door_met os _)) ?_
  intro W base args ds gs before hval0 hW _ _ hL _
  have hval : ∀ (j : Nat) t v, Tryz.f16.params[j]? = some t → args[j]? = some v → Value.okWide Tryz.prog W .any base t v := hval0
  have hW' := hW
  obtain ⟨p, q, hA0, hV, rfl, hfz, hnd⟩ := hW
  have hA : DataW.TrodAll enc Tryz.prog W 0 (fun _ => true) true Tryz.f16.params.toList args.toList ds p := hA0
  rw [Tryz.params16] at hA hval
  obtain ⟨v0, d0, rfl, rfl, h0⟩ := trodAll_one hA
  obtain ⟨rfl, rfl⟩ := trodVars_none hV
  obtain ⟨c0, l0, vr0, w0a, w0b⟩ := open_graph Tryz.underlying60 (by kernel_rfl) (by kernel_rfl) rfl rfl Tryz.underlying3 Tryz.underlying58 Tryz.underlying97 (by kernel_rfl) (by kernel_rfl) (hval 0 60 v0 rfl rfl) h0
  refine (law_calls (args := [.agg [I c0, encP l0]]) (VRL.cons vr0 VRL.nil) (law _ c0 l0 w0a w0b)).mono fun e W' ⟨he, hb⟩ => ?_
  subst he
  exact ⟨_, rfl, post_true laidOut (by
    rw [Tryz.params16]; intro t ht
    have h16 : ([60] : List TypeId).all (fun t => Tryz.prog.readableRec t && decide (t < Tryz.prog.types.size)) = true := by kernel_rfl
    have := List.all_eq_true.1 h16 t (by simpa using ht)
    simp only [Bool.and_eq_true, decide_eq_true_eq] at this
    exact this) rfl (fun ds h => by
    rw [Tryz.params16] at h
    match ds, h with
    | [_], _ => rfl) (tb := 4) (by kernel_rfl) Tryz.underlying4 hW' hb⟩

theorem fc16 : joinedFacts Tryz.prog 16 Tryz.f16 Rows.countConstantsSpec Rows.countConstantsRow = true := by
  unfold joinedFacts
  have hp : Tryz.f16.params.all (Tryz.prog.readableRec ·) = true := by rw [Tryz.params16]; kernel_rfl
  simp only [Bool.and_eq_true]
  exact ⟨⟨⟨⟨⟨⟨⟨⟨⟨⟨⟨⟨⟨⟨⟨⟨⟨⟨⟨⟨⟨⟨⟨⟨⟨⟨⟨⟨⟨⟨⟨fc16_wf, fc_laid⟩, fc_maps⟩, hp⟩, fc16_tie⟩, by kernel_rfl⟩, fc_stops⟩, by kernel_rfl⟩, fc_knobs⟩, fc16_inp⟩, fc16_unf⟩, fc16_rec⟩, fc16_named⟩, by kernel_rfl⟩, by kernel_rfl⟩, by kernel_rfl⟩, by kernel_rfl⟩, by kernel_rfl⟩, by kernel_rfl⟩, by kernel_rfl⟩, by kernel_rfl⟩, by kernel_rfl⟩, fc_keys⟩, by kernel_rfl⟩, fc_heard⟩, fc_may⟩, fc_lift⟩, fc_make⟩, by kernel_rfl⟩, by kernel_rfl⟩, by kernel_rfl⟩, by kernel_rfl⟩

theorem law16_row (law : ∀ (B : Nat) (c0 : Int) (l0 : List (Int × Int)), (Lit.int .i64 c0).wf = true → l0.length ≤ maxLen → (CS Tryz.prog B).fn 16 (.of 16) [.agg [I c0, encP l0]] .e .z pC = .ok True) : Rows.CountConstantsSaid :=
  OpenClaim.holds_of_wide 16 Tryz.f16 rfl rfl rfl rfl rfl rfl rfl ⟨rfl, rfl, rfl, rfl, rfl⟩ rfl rfl rfl rfl rfl (by kernel_rfl) Tryz.func16 fc16
    (of_decide_eq_true (by kernel_rfl)) (by unfold Func.isWrapper; first | (rw [if_pos (by decide +kernel)]; kernel_rfl) | (rw [if_neg (by decide +kernel)]; exact ⟨rfl, rfl⟩))
    (fun os started H enc _ => law16_lifted law os started H enc)

theorem law16_card (law : ∀ (B : Nat) (c0 : Int) (l0 : List (Int × Int)), (Lit.int .i64 c0).wf = true → l0.length ≤ maxLen → (CS Tryz.prog B).fn 16 (.of 16) [.agg [I c0, encP l0]] .e .z pC = .ok True) : Rows.CountConstantsCardSaid :=
  Claim7.holds_tied_plain_at .later [] [.data, .data, .data] true (true, "2fc464bbbf6b3a463d4eab77d903c5902ac939b6355f716b1a2034aeac3b7dac") false
    (law16_row law) (fun _ h => by cases h) fc16_wfT (fun _ h => by cases h) countConstants_row_tie rfl ⟨rfl, rfl⟩ fc_main rfl
    (fun f fn hf hfn => by
      obtain rfl : f = 16 := Option.some.inj ((show Tryz.prog.funcNamed "talisman/talismanlaw07.CountConstants" = some 16 by kernel_rfl).symm.trans hf) |>.symm
      obtain rfl : fn = Tryz.f16 := (Option.some.inj (Tryz.func16.symm.trans hfn)).symm
      exact ⟨fc_looks, fun j t ht => by
        rw [Tryz.params16] at ht
        have hm : t ∈ ([60] : List TypeId) := by simpa using Array.mem_of_getElem? ht
        have hall : (([60] : List TypeId).all fun u => !Tryz.prog.wantsStandIn u) = true := by kernel_rfl
        exact (show Tryz.prog.wantsStandIn t = false by simpa using List.all_eq_true.1 hall t hm)⟩)
    fc16_goes
end Go.Proofs.YtepfaegpjddehaaGreatDoor
/-
  The law of CountConstants.
-/
namespace Go.Proofs.YtepfaegpjddehaaGreatDoor
open Go Go.Ev
theorem hookS_law (B : Nat) : JOk Tryz.prog B kE := hookS_ok (fun blk off cap zs w hH hb hz => Tryz.slices_Sort_int blk off cap zs w hH hb hz) (fun p cap w => Tryz.slices_Sort_int_none p cap w)
theorem countConstants_proved : Rows.CountConstantsCardSaid := law16_card fun B c l _ _ => by
  refine law16 hookS_law (fun {B} => awake18) _ _ _ _ ?_
  rintro _ rfl _
  exact if_pos rfl
end Go.Proofs.YtepfaegpjddehaaGreatDoor
