/-
  For all whole numbers n, size and sum the law CountSets returns true: the program's Sets and SetCount return what the reference returns, the results or the errors.
  Conditions: none but those of the given statement.
-/
import Derived.Test.YtepfaegpjddehaaGreatDoorEvD
import Derived.Test.YtepfaegpjddehaaGreatDoorIrT
import Derived.Test.YtepfaegpjddehaaGreatDoorFcA
import Derived.Test.YtepfaegpjddehaaGreatDoorFcB
import Derived.Test.YtepfaegpjddehaaGreatDoorFcC
import Derived.Test.YtepfaegpjddehaaGreatDoorFcD
import Derived.Test.YtepfaegpjddehaaGreatDoorFact
import Derived.Test.YtepfaegpjddehaaGreatDoorTie
import Derived.Test.YtepfaegpjddehaaGreatDoorCards
import Derived.ProofKit
import Derived.LaidMore
import Derived.OpenShut
import Derived.Stop.Joined
import Derived.SevenTiedAt
import Derived.Test.YtepfaegpjddehaaGreatDoorWake
import Derived.Test.YtepfaegpjddehaaGreatDoorWords
set_option linter.unusedSimpArgs false
set_option linter.unusedVariables false
namespace Go.Proofs.YtepfaegpjddehaaGreatDoor
open Go Go.Ev Go.ChangeShapes Go.WideShapes Go.ChangeAt Go.RowKit

theorem ownK : ownKnob Tryz.prog.godebug = none := by kernel_rfl
theorem laidOut : laidOutB Tryz.prog = true := by kernel_rfl
abbrev laid3 : List (String × DataW Unit) := Rows.countSetsRow.laid
theorem door_met (os : Os) (args : Array Value) : laidMetH Tryz.prog laid3 ((World.doorLaid Tryz.prog 4000 os).forCall (fun _ _ => 0) ⟨#[], args, []⟩).memory :=
  laidMetH_of_parts3 (fuel := 8) (laidMet_of_run' 8 (by kernel_rfl) (by kernel_rfl)) (by kernel_rfl) (by kernel_rfl)

set_option maxRecDepth 100000 in
theorem countSets_lifted (law : ∀ (B : Nat) (n size sum : Int), (Lit.int .i64 n).wf = true → (Lit.int .i64 size).wf = true → (Lit.int .i64 sum).wf = true → (CS Tryz.prog B).fn 3 (.of 3) [.int .i64 n, .int .i64 size, .int .i64 sum] .e .z retTrue = .ok True)
    (os : Os) (started : os.Started) (H : Type) (enc : TypeId × Value → H) :
    ReturnsInHanded {} Tryz.checked os 3 .any (fun w args => (Rows.countSetsSpec.pre enc Tryz.prog Tryz.f3 [] false w args ∧ laidMetH Tryz.prog laid3 w) ∧ sizedMet enc Tryz.prog Tryz.f3 (OpenSpec.ofChange Rows.countSetsSpec) false w args)
      (Rows.countSetsSpec.post enc Tryz.prog Tryz.f3 false true false false) := by
  refine returnsInHanded_of_change_and (C := Tryz.checked) (X := fun w _ => laidMetH Tryz.prog laid3 w) (fun _ _ _ hh h => h.of_heap hh) ownK started (by kernel_rfl) Tryz.func3
    (ChangeSpec.witness_shaped (enc := enc) (C := Tryz.checked) (os := os) (X := fun w _ => laidMetH Tryz.prog laid3 w) false (World.doorLaid Tryz.prog 4000 os) #[.int .i64 0, .int .i64 0, .int .i64 0] 8 rfl (World.shaped_of_RefB (by kernel_rfl) (by kernel_rfl)) (by kernel_rfl) (by kernel_rfl) (by kernel_rfl) (door_met os _)) ?_
  intro W base args ds gs before hval0 hW _ _ hL _
  have hval : ∀ (j : Nat) t v, Tryz.f3.params[j]? = some t → args[j]? = some v → Value.okWide Tryz.prog W .any base t v := hval0
  have hW' := hW
  obtain ⟨p, q, hA0, hV, rfl, hfz, hnd⟩ := hW
  have hA : DataW.TrodAll enc Tryz.prog W 0 (fun _ => true) true Tryz.f3.params.toList args.toList ds p := hA0
  rw [Tryz.params3] at hA hval
  obtain ⟨v0, v1, v2, d0, d1, d2, p0, p1, p2, rfl, rfl, rfl, h0, h1, h2⟩ := trodAll_three hA
  obtain ⟨rfl, rfl⟩ := trodVars_none hV
  obtain ⟨a, rfl, rfl, rfl, wa⟩ := open_int Tryz.underlying3 (hval 0 3 v0 rfl rfl) h0
  obtain ⟨b, rfl, rfl, rfl, wb⟩ := open_int Tryz.underlying3 (hval 1 3 v1 rfl rfl) h1
  obtain ⟨c, rfl, rfl, rfl, wc⟩ := open_int Tryz.underlying3 (hval 2 3 v2 rfl rfl) h2
  refine (law_calls (args := [.int .i64 a, .int .i64 b, .int .i64 c]) (VRL.cons (by simp only [VR]) (VRL.cons (by simp only [VR]) (VRL.cons (by simp only [VR]) VRL.nil))) (law _ a b c wa wb wc)).mono fun e W' ⟨he, hb⟩ => ?_
  subst he
  exact ⟨_, rfl, post_true laidOut (by rw [Tryz.params3]; intro t ht; simp at ht; subst ht; exact ⟨by kernel_rfl, of_decide_eq_true (by kernel_rfl)⟩) rfl (fun ds h => by
    rw [Tryz.params3] at h
    match ds, h with
    | [_, _, _], _ => rfl) (tb := 4) (by kernel_rfl) Tryz.underlying4 hW' hb⟩

theorem fc3 : joinedFacts Tryz.prog 3 Tryz.f3 Rows.countSetsSpec Rows.countSetsRow = true := by
  unfold joinedFacts
  have hp : Tryz.f3.params.all (Tryz.prog.readableRec ·) = true := by rw [Tryz.params3]; kernel_rfl
  simp only [Bool.and_eq_true]
  exact ⟨⟨⟨⟨⟨⟨⟨⟨⟨⟨⟨⟨⟨⟨⟨⟨⟨⟨⟨⟨⟨⟨⟨⟨⟨⟨⟨⟨⟨⟨⟨fc3_wf, fc_laid⟩, fc_maps⟩, hp⟩, fc3_tie⟩, by kernel_rfl⟩, fc_stops⟩, by kernel_rfl⟩, fc_knobs⟩, fc3_inp⟩, fc3_unf⟩, fc3_rec⟩, fc3_named⟩, by kernel_rfl⟩, by kernel_rfl⟩, by kernel_rfl⟩, by kernel_rfl⟩, by kernel_rfl⟩, by kernel_rfl⟩, by kernel_rfl⟩, by kernel_rfl⟩, by kernel_rfl⟩, fc_keys⟩, by kernel_rfl⟩, fc_heard⟩, fc_may⟩, fc_lift⟩, fc_make⟩, by kernel_rfl⟩, by kernel_rfl⟩, by kernel_rfl⟩, by kernel_rfl⟩

theorem countSets_row (law : ∀ (B : Nat) (n size sum : Int), (Lit.int .i64 n).wf = true → (Lit.int .i64 size).wf = true → (Lit.int .i64 sum).wf = true → (CS Tryz.prog B).fn 3 (.of 3) [.int .i64 n, .int .i64 size, .int .i64 sum] .e .z retTrue = .ok True) : Rows.CountSetsSaid :=
  OpenClaim.holds_of_wide 3 Tryz.f3 rfl rfl rfl rfl rfl rfl rfl ⟨rfl, rfl, rfl, rfl, rfl⟩ rfl rfl rfl rfl rfl (by kernel_rfl) Tryz.func3 fc3
    (of_decide_eq_true (by kernel_rfl)) (by unfold Func.isWrapper; first | (rw [if_pos (by decide +kernel)]; kernel_rfl) | (rw [if_neg (by decide +kernel)]; exact ⟨rfl, rfl⟩))
    (fun os started H enc _ => countSets_lifted law os started H enc)

theorem countSets_card (law : ∀ (B : Nat) (n size sum : Int), (Lit.int .i64 n).wf = true → (Lit.int .i64 size).wf = true → (Lit.int .i64 sum).wf = true → (CS Tryz.prog B).fn 3 (.of 3) [.int .i64 n, .int .i64 size, .int .i64 sum] .e .z retTrue = .ok True) : Rows.CountSetsCardSaid :=
  Claim7.holds_tied_plain_at .later [] [.data, .data, .data] true (true, "2fc464bbbf6b3a463d4eab77d903c5902ac939b6355f716b1a2034aeac3b7dac") false
    (countSets_row law) (fun _ h => by cases h) fc3_wfT (fun _ h => by cases h) countSets_row_tie rfl ⟨rfl, rfl⟩ fc_main rfl
    (fun f fn hf hfn => by
      obtain rfl : f = 3 := Option.some.inj ((show Tryz.prog.funcNamed Rows.countSetsRow.func = some 3 by kernel_rfl).symm.trans hf) |>.symm
      obtain rfl : fn = Tryz.f3 := (Option.some.inj (Tryz.func3.symm.trans hfn)).symm
      exact ⟨fc_looks, fun j t ht => by
        rw [Tryz.params3] at ht
        have hm : t ∈ [3, 3, 3] := by simpa using Array.mem_of_getElem? ht
        have hall : ([3, 3, 3].all fun u => !Tryz.prog.wantsStandIn u) = true := by kernel_rfl
        exact (show Tryz.prog.wantsStandIn t = false by simpa using List.all_eq_true.1 hall t hm)⟩)
    fc3_goes
end Go.Proofs.YtepfaegpjddehaaGreatDoor
/-
  The law of CountSets.
-/
namespace Go.Proofs.YtepfaegpjddehaaGreatDoor
open Go Go.Ev
theorem int_bounds {n : Int} (h : (Lit.int .i64 n).wf = true) : -9223372036854775808 ≤ n ∧ n ≤ 9223372036854775807 := by
  have e1 : IntKind.i64.min = -9223372036854775808 := by decide
  have e2 : IntKind.i64.max = 9223372036854775807 := by decide
  simp only [Lit.wf, Bool.and_eq_true, decide_eq_true_eq, e1, e2] at h
  exact h
theorem countSets_proved : Rows.CountSetsCardSaid := countSets_card fun B n size sum _ _ h3 => by
  refine law3 awake18 (int_bounds h3).1 (int_bounds h3).2 _ _ _ _ ?_
  rintro _ rfl _
  exact if_pos rfl
end Go.Proofs.YtepfaegpjddehaaGreatDoor
