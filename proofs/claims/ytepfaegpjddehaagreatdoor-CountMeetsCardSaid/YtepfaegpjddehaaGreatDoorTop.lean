/-
  For all arguments the law CountMeets returns true: the program's functions return what the reference returns, the results or the errors.
  Conditions: none but those of the given statement.
-/
import Derived.Test.YtepfaegpjddehaaGreatDoorEvD
import Derived.Test.YtepfaegpjddehaaGreatDoorWords
import Derived.Test.YtepfaegpjddehaaGreatDoorIrT
import Derived.Test.YtepfaegpjddehaaGreatDoorFcA
import Derived.Test.YtepfaegpjddehaaGreatDoorFcB
import Derived.Test.YtepfaegpjddehaaGreatDoorFcC
import Derived.Test.YtepfaegpjddehaaGreatDoorFcD
import Derived.Test.YtepfaegpjddehaaGreatDoorFact
import Derived.Test.YtepfaegpjddehaaGreatDoorTie
import Derived.Test.YtepfaegpjddehaaGreatDoorCards
import Derived.ProofKit
import Derived.LaidMore
import Derived.OpenShut
import Derived.Stop.Joined
import Derived.SevenTiedAt
import Derived.Test.YtepfaegpjddehaaGreatDoorWake
set_option linter.unusedSimpArgs false
set_option linter.unusedVariables false
namespace Go.Proofs.YtepfaegpjddehaaGreatDoor
open Go Go.Ev Go.ChangeShapes Go.WideShapes Go.ChangeAt Go.RowKit

theorem ownK : ownKnob Tryz.prog.godebug = none := by kernel_rfl
theorem laidOut : laidOutB Tryz.prog = true := by kernel_rfl
abbrev laid3 : List (String × DataW Unit) := [("math/bits.deBruijn32tab", Rows.laid_math_bits_deBruijn32tab), ("math/bits.deBruijn64tab", Rows.laid_math_bits_deBruijn64tab), ("internal/strconv.uint64pow10", Rows.laid_internal_strconv_uint64pow10)]
theorem door_met (os : Os) (args : Array Value) : laidMetH Tryz.prog laid3 ((World.doorLaid Tryz.prog 4000 os).forCall (fun _ _ => 0) ⟨#[], args, []⟩).memory :=
  laidMetH_of_parts3 (fuel := 8) (laidMet_of_run' 8 (by kernel_rfl) (by kernel_rfl)) (by kernel_rfl) (by kernel_rfl)

set_option maxRecDepth 100000 in
theorem law9_lifted (law : ∀ (B : Nat) (c0 : Int) (l0 : List (List Int)) (l1 : List Int) (n2 : Int), (Lit.int .i64 c0).wf = true → l0.length ≤ maxLen → (∀ l ∈ l0, l.length ≤ maxLen ∧ ∀ n ∈ l, (Lit.int .i64 n).wf = true) → l1.length ≤ maxLen → (∀ n ∈ l1, (Lit.int .i64 n).wf = true) → (Lit.int .u8 n2).wf = true → (CS Tryz.prog B).fn 9 (.of 9) [.agg [I c0, encT l0], Go.Ev.encI l1, .int .u8 n2] .e .z retTrue = .ok True)
    (os : Os) (started : os.Started) (H : Type) (enc : TypeId × Value → H) :
    ReturnsInHanded {} Tryz.checked os 9 .any (fun w args => (Rows.countMeetsSpec.pre enc Tryz.prog Tryz.f9 [] false w args ∧ laidMetH Tryz.prog laid3 w) ∧ sizedMet enc Tryz.prog Tryz.f9 (OpenSpec.ofChange Rows.countMeetsSpec) false w args)
      (Rows.countMeetsSpec.post enc Tryz.prog Tryz.f9 false true false false) := by
  refine returnsInHanded_of_change_and (C := Tryz.checked) (X := fun w _ => laidMetH Tryz.prog laid3 w) (fun _ _ _ hh h => h.of_heap hh) ownK started (by kernel_rfl) Tryz.func9
    (ChangeSpec.witness_shaped (enc := enc) (C := Tryz.checked) (os := os) (X := fun w _ => laidMetH Tryz.prog laid3 w) false (World.doorLaid Tryz.prog 4000 os) #[.agg #[.int .i64 0, .slice none 0 0], .slice none 0 0, .int .u8 0] 8 rfl (World.shaped_of_RefB (by kernel_rfl) (by kernel_rfl)) (by kernel_rfl) (by kernel_rfl) (by kernel_rfl) (door_met os _)) ?_
  intro W base args ds gs before hval0 hW _ _ hL _
  have hval : ∀ (j : Nat) t v, Tryz.f9.params[j]? = some t → args[j]? = some v → Value.okWide Tryz.prog W .any base t v := hval0
  have hW' := hW
  obtain ⟨p, q, hA0, hV, rfl, hfz, hnd⟩ := hW
  have hA : DataW.TrodAll enc Tryz.prog W 0 (fun _ => true) true Tryz.f9.params.toList args.toList ds p := hA0
  rw [Tryz.params9] at hA hval
  obtain ⟨v0, v1, v2, d0, d1, d2, p0, p1, p2, rfl, rfl, rfl, h0, h1, h2⟩ := trodAll_three hA
  obtain ⟨rfl, rfl⟩ := trodVars_none hV
  obtain ⟨c0, l0, vr0, w0a, w0b, w0c⟩ := open_system Tryz.underlying35 (by kernel_rfl) (by kernel_rfl) rfl rfl Tryz.underlying3 Tryz.underlying23 Tryz.underlying46 (by kernel_rfl) (by kernel_rfl) (hval 0 35 v0 rfl rfl) h0
  obtain ⟨l1, vr1, w1a, w1b⟩ := open_listV Tryz.underlying46 Tryz.underlying3 (by kernel_rfl) (hval 1 46 v1 rfl rfl) h1
  obtain ⟨n2, rfl, rfl, rfl, w2⟩ := open_int Tryz.underlying5 (hval 2 5 v2 rfl rfl) h2
  refine (law_calls (args := [.agg [I c0, encT l0], Go.Ev.encI l1, .int .u8 n2]) (VRL.cons vr0 (VRL.cons vr1 (VRL.cons (by simp only [VR]) VRL.nil))) (law _ c0 l0 l1 n2 w0a w0b w0c w1a w1b w2)).mono fun e W' ⟨he, hb⟩ => ?_
  subst he
  exact ⟨_, rfl, post_true laidOut (by
    rw [Tryz.params9]; intro t ht
    have h9 : ([35, 46, 5] : List TypeId).all (fun t => Tryz.prog.readableRec t && decide (t < Tryz.prog.types.size)) = true := by kernel_rfl
    have := List.all_eq_true.1 h9 t (by simpa using ht)
    simp only [Bool.and_eq_true, decide_eq_true_eq] at this
    exact this) rfl (fun ds h => by
    rw [Tryz.params9] at h
    match ds, h with
    | [_, _, _], _ => rfl) (tb := 4) (by kernel_rfl) Tryz.underlying4 hW' hb⟩

theorem fc9 : joinedFacts Tryz.prog 9 Tryz.f9 Rows.countMeetsSpec Rows.countMeetsRow = true := by
  unfold joinedFacts
  have hp : Tryz.f9.params.all (Tryz.prog.readableRec ·) = true := by rw [Tryz.params9]; kernel_rfl
  simp only [Bool.and_eq_true]
  exact ⟨⟨⟨⟨⟨⟨⟨⟨⟨⟨⟨⟨⟨⟨⟨⟨⟨⟨⟨⟨⟨⟨⟨⟨⟨⟨⟨⟨⟨⟨⟨fc9_wf, fc_laid⟩, fc_maps⟩, hp⟩, fc9_tie⟩, by kernel_rfl⟩, fc_stops⟩, by kernel_rfl⟩, fc_knobs⟩, fc9_inp⟩, fc9_unf⟩, fc9_rec⟩, fc9_named⟩, by kernel_rfl⟩, by kernel_rfl⟩, by kernel_rfl⟩, by kernel_rfl⟩, by kernel_rfl⟩, by kernel_rfl⟩, by kernel_rfl⟩, by kernel_rfl⟩, by kernel_rfl⟩, fc_keys⟩, by kernel_rfl⟩, fc_heard⟩, fc_may⟩, fc_lift⟩, fc_make⟩, by kernel_rfl⟩, by kernel_rfl⟩, by kernel_rfl⟩, by kernel_rfl⟩

theorem law9_row (law : ∀ (B : Nat) (c0 : Int) (l0 : List (List Int)) (l1 : List Int) (n2 : Int), (Lit.int .i64 c0).wf = true → l0.length ≤ maxLen → (∀ l ∈ l0, l.length ≤ maxLen ∧ ∀ n ∈ l, (Lit.int .i64 n).wf = true) → l1.length ≤ maxLen → (∀ n ∈ l1, (Lit.int .i64 n).wf = true) → (Lit.int .u8 n2).wf = true → (CS Tryz.prog B).fn 9 (.of 9) [.agg [I c0, encT l0], Go.Ev.encI l1, .int .u8 n2] .e .z retTrue = .ok True) : Rows.CountMeetsSaid :=
  OpenClaim.holds_of_wide 9 Tryz.f9 rfl rfl rfl rfl rfl rfl rfl ⟨rfl, rfl, rfl, rfl, rfl⟩ rfl rfl rfl rfl rfl (by kernel_rfl) Tryz.func9 fc9
    (of_decide_eq_true (by kernel_rfl)) (by unfold Func.isWrapper; first | (rw [if_pos (by decide +kernel)]; kernel_rfl) | (rw [if_neg (by decide +kernel)]; exact ⟨rfl, rfl⟩))
    (fun os started H enc _ => law9_lifted law os started H enc)

theorem law9_card (law : ∀ (B : Nat) (c0 : Int) (l0 : List (List Int)) (l1 : List Int) (n2 : Int), (Lit.int .i64 c0).wf = true → l0.length ≤ maxLen → (∀ l ∈ l0, l.length ≤ maxLen ∧ ∀ n ∈ l, (Lit.int .i64 n).wf = true) → l1.length ≤ maxLen → (∀ n ∈ l1, (Lit.int .i64 n).wf = true) → (Lit.int .u8 n2).wf = true → (CS Tryz.prog B).fn 9 (.of 9) [.agg [I c0, encT l0], Go.Ev.encI l1, .int .u8 n2] .e .z retTrue = .ok True) : Rows.CountMeetsCardSaid :=
  Claim7.holds_tied_plain_at .later [] [.data, .data, .data] true (true, "2fc464bbbf6b3a463d4eab77d903c5902ac939b6355f716b1a2034aeac3b7dac") false
    (law9_row law) (fun _ h => by cases h) fc9_wfT (fun _ h => by cases h) countMeets_row_tie rfl ⟨rfl, rfl⟩ fc_main rfl
    (fun f fn hf hfn => by
      obtain rfl : f = 9 := Option.some.inj ((show Tryz.prog.funcNamed "talisman/talismanlaw07.CountMeets" = some 9 by kernel_rfl).symm.trans hf) |>.symm
      obtain rfl : fn = Tryz.f9 := (Option.some.inj (Tryz.func9.symm.trans hfn)).symm
      exact ⟨fc_looks, fun j t ht => by
        rw [Tryz.params9] at ht
        have hm : t ∈ ([35, 46, 5] : List TypeId) := by simpa using Array.mem_of_getElem? ht
        have hall : (([35, 46, 5] : List TypeId).all fun u => !Tryz.prog.wantsStandIn u) = true := by kernel_rfl
        exact (show Tryz.prog.wantsStandIn t = false by simpa using List.all_eq_true.1 hall t hm)⟩)
    fc9_goes
end Go.Proofs.YtepfaegpjddehaaGreatDoor
/-
  The law of CountMeets.
-/
namespace Go.Proofs.YtepfaegpjddehaaGreatDoor
open Go Go.Ev
theorem u8_bounds {n : Int} (h : (Lit.int .u8 n).wf = true) : 0 ≤ n ∧ n < 256 := by
  have e1 : IntKind.u8.min = 0 := by decide
  have e2 : IntKind.u8.max = 255 := by decide
  simp only [Lit.wf, Bool.and_eq_true, decide_eq_true_eq, e1, e2] at h
  omega
theorem countMeets_proved : Rows.CountMeetsCardSaid := law9_card fun B c l to n _ _ _ _ _ h => by
  refine law9 (u8_bounds h) (fun {B} => awake18) _ _ _ _ ?_
  rintro _ rfl _
  exact if_pos rfl
end Go.Proofs.YtepfaegpjddehaaGreatDoor
