/-
  For all arguments the law CountClasses returns true: the program's functions return what the reference returns, the results or the errors.
  Conditions: none but those of the given statement.
-/
import Derived.Test.YtepfaegpjddehaaGreatDoorEvD
import Derived.Test.YtepfaegpjddehaaGreatDoorWords
import Derived.Test.YtepfaegpjddehaaGreatDoorIrT
import Derived.Test.YtepfaegpjddehaaGreatDoorFcA
import Derived.Test.YtepfaegpjddehaaGreatDoorFcB
import Derived.Test.YtepfaegpjddehaaGreatDoorFcC
import Derived.Test.YtepfaegpjddehaaGreatDoorFcD
import Derived.Test.YtepfaegpjddehaaGreatDoorFact
import Derived.Test.YtepfaegpjddehaaGreatDoorTie
import Derived.Test.YtepfaegpjddehaaGreatDoorCards
import Derived.ProofKit
import Derived.LaidMore
import Derived.OpenShut
import Derived.Stop.Joined
import Derived.SevenTiedAt
import Derived.Test.YtepfaegpjddehaaGreatDoorWake
import Derived.Test.YtepfaegpjddehaaGreatDoorWorda
set_option linter.unusedSimpArgs false
set_option linter.unusedVariables false
namespace Go.Proofs.YtepfaegpjddehaaGreatDoor
open Go Go.Ev Go.ChangeShapes Go.WideShapes Go.ChangeAt Go.RowKit

theorem ownK : ownKnob Tryz.prog.godebug = none := by kernel_rfl
theorem laidOut : laidOutB Tryz.prog = true := by kernel_rfl
abbrev laid3 : List (String × DataW Unit) := [("math/bits.deBruijn32tab", Rows.laid_math_bits_deBruijn32tab), ("math/bits.deBruijn64tab", Rows.laid_math_bits_deBruijn64tab), ("internal/strconv.uint64pow10", Rows.laid_internal_strconv_uint64pow10)]
theorem door_met (os : Os) (args : Array Value) : laidMetH Tryz.prog laid3 ((World.doorLaid Tryz.prog 4000 os).forCall (fun _ _ => 0) ⟨#[], args, []⟩).memory :=
  laidMetH_of_parts3 (fuel := 8) (laidMet_of_run' 8 (by kernel_rfl) (by kernel_rfl)) (by kernel_rfl) (by kernel_rfl)

set_option maxRecDepth 100000 in
theorem law12_lifted (law : ∀ (B : Nat) (r0 : List SymS) (t1 : List (List Int)), r0.length ≤ maxLen → (∀ g ∈ r0, g.1.length ≤ maxLen ∧ ∀ n ∈ g.1, (Lit.int .i64 n).wf = true) → t1.length ≤ maxLen → (∀ l ∈ t1, l.length ≤ maxLen ∧ ∀ n ∈ l, (Lit.int .i64 n).wf = true) → (CS Tryz.prog B).fn 12 (.of 12) [.lst 2 r0.length (flatS r0), encT t1] .e .z retTrue = .ok True)
    (os : Os) (started : os.Started) (H : Type) (enc : TypeId × Value → H) :
    ReturnsInHanded {} Tryz.checked os 12 .any (fun w args => (Rows.countClassesSpec.pre enc Tryz.prog Tryz.f12 [] false w args ∧ laidMetH Tryz.prog laid3 w) ∧ sizedMet enc Tryz.prog Tryz.f12 (OpenSpec.ofChange Rows.countClassesSpec) false w args)
      (Rows.countClassesSpec.post enc Tryz.prog Tryz.f12 false true false false) := by
  refine returnsInHanded_of_change_and (C := Tryz.checked) (X := fun w _ => laidMetH Tryz.prog laid3 w) (fun _ _ _ hh h => h.of_heap hh) ownK started (by kernel_rfl) Tryz.func12
    (ChangeSpec.witness_shaped (enc := enc) (C := Tryz.checked) (os := os) (X := fun w _ => laidMetH Tryz.prog laid3 w) false (World.doorLaid Tryz.prog 4000 os) #[.slice none 0 0, .slice none 0 0] 8 rfl (World.shaped_of_RefB (by kernel_rfl) (by kernel_rfl)) (by kernel_rfl) (by kernel_rfl) (by kernel_rfl) (door_met os _)) ?_
  intro W base args ds gs before hval0 hW _ _ hL _
  have hval : ∀ (j : Nat) t v, Tryz.f12.params[j]? = some t → args[j]? = some v → Value.okWide Tryz.prog W .any base t v := hval0
  have hW' := hW
  obtain ⟨p, q, hA0, hV, rfl, hfz, hnd⟩ := hW
  have hA : DataW.TrodAll enc Tryz.prog W 0 (fun _ => true) true Tryz.f12.params.toList args.toList ds p := hA0
  rw [Tryz.params12] at hA hval
  obtain ⟨v0, v1, d0, d1, p0, p1, rfl, rfl, rfl, h0, h1⟩ := trodAll_two hA
  obtain ⟨rfl, rfl⟩ := trodVars_none hV
  obtain ⟨r0, vr0, w0a, w0b⟩ := open_group Tryz.underlying81 Tryz.underlying71 (by kernel_rfl) rfl rfl (by kernel_rfl) (by kernel_rfl) rfl rfl Tryz.underlying46 Tryz.underlying3 Tryz.underlying4 (by kernel_rfl) (hval 0 81 v0 rfl rfl) h0
  obtain ⟨t1, vr1, w1a, w1b⟩ := open_lists Tryz.underlying23 Tryz.underlying46 Tryz.underlying3 (by kernel_rfl) (by kernel_rfl) (hval 1 23 v1 rfl rfl) h1
  refine (law_calls (args := [.lst 2 r0.length (flatS r0), encT t1]) (VRL.cons vr0 (VRL.cons vr1 VRL.nil)) (law _ r0 t1 w0a w0b w1a w1b)).mono fun e W' ⟨he, hb⟩ => ?_
  subst he
  exact ⟨_, rfl, post_true laidOut (by
    rw [Tryz.params12]; intro t ht
    have h12 : ([81, 23] : List TypeId).all (fun t => Tryz.prog.readableRec t && decide (t < Tryz.prog.types.size)) = true := by kernel_rfl
    have := List.all_eq_true.1 h12 t (by simpa using ht)
    simp only [Bool.and_eq_true, decide_eq_true_eq] at this
    exact this) rfl (fun ds h => by
    rw [Tryz.params12] at h
    match ds, h with
    | [_, _], _ => rfl) (tb := 4) (by kernel_rfl) Tryz.underlying4 hW' hb⟩

theorem fc12 : joinedFacts Tryz.prog 12 Tryz.f12 Rows.countClassesSpec Rows.countClassesRow = true := by
  unfold joinedFacts
  have hp : Tryz.f12.params.all (Tryz.prog.readableRec ·) = true := by rw [Tryz.params12]; kernel_rfl
  simp only [Bool.and_eq_true]
  exact ⟨⟨⟨⟨⟨⟨⟨⟨⟨⟨⟨⟨⟨⟨⟨⟨⟨⟨⟨⟨⟨⟨⟨⟨⟨⟨⟨⟨⟨⟨⟨fc12_wf, fc_laid⟩, fc_maps⟩, hp⟩, fc12_tie⟩, by kernel_rfl⟩, fc_stops⟩, by kernel_rfl⟩, fc_knobs⟩, fc12_inp⟩, fc12_unf⟩, fc12_rec⟩, fc12_named⟩, by kernel_rfl⟩, by kernel_rfl⟩, by kernel_rfl⟩, by kernel_rfl⟩, by kernel_rfl⟩, by kernel_rfl⟩, by kernel_rfl⟩, by kernel_rfl⟩, by kernel_rfl⟩, fc_keys⟩, by kernel_rfl⟩, fc_heard⟩, fc_may⟩, fc_lift⟩, fc_make⟩, by kernel_rfl⟩, by kernel_rfl⟩, by kernel_rfl⟩, by kernel_rfl⟩

theorem law12_row (law : ∀ (B : Nat) (r0 : List SymS) (t1 : List (List Int)), r0.length ≤ maxLen → (∀ g ∈ r0, g.1.length ≤ maxLen ∧ ∀ n ∈ g.1, (Lit.int .i64 n).wf = true) → t1.length ≤ maxLen → (∀ l ∈ t1, l.length ≤ maxLen ∧ ∀ n ∈ l, (Lit.int .i64 n).wf = true) → (CS Tryz.prog B).fn 12 (.of 12) [.lst 2 r0.length (flatS r0), encT t1] .e .z retTrue = .ok True) : Rows.CountClassesSaid :=
  OpenClaim.holds_of_wide 12 Tryz.f12 rfl rfl rfl rfl rfl rfl rfl ⟨rfl, rfl, rfl, rfl, rfl⟩ rfl rfl rfl rfl rfl (by kernel_rfl) Tryz.func12 fc12
    (of_decide_eq_true (by kernel_rfl)) (by unfold Func.isWrapper; first | (rw [if_pos (by decide +kernel)]; kernel_rfl) | (rw [if_neg (by decide +kernel)]; exact ⟨rfl, rfl⟩))
    (fun os started H enc _ => law12_lifted law os started H enc)

theorem law12_card (law : ∀ (B : Nat) (r0 : List SymS) (t1 : List (List Int)), r0.length ≤ maxLen → (∀ g ∈ r0, g.1.length ≤ maxLen ∧ ∀ n ∈ g.1, (Lit.int .i64 n).wf = true) → t1.length ≤ maxLen → (∀ l ∈ t1, l.length ≤ maxLen ∧ ∀ n ∈ l, (Lit.int .i64 n).wf = true) → (CS Tryz.prog B).fn 12 (.of 12) [.lst 2 r0.length (flatS r0), encT t1] .e .z retTrue = .ok True) : Rows.CountClassesCardSaid :=
  Claim7.holds_tied_plain_at .later [] [.data, .data, .data] true (true, "2fc464bbbf6b3a463d4eab77d903c5902ac939b6355f716b1a2034aeac3b7dac") false
    (law12_row law) (fun _ h => by cases h) fc12_wfT (fun _ h => by cases h) countClasses_row_tie rfl ⟨rfl, rfl⟩ fc_main rfl
    (fun f fn hf hfn => by
      obtain rfl : f = 12 := Option.some.inj ((show Tryz.prog.funcNamed "talisman/talismanlaw07.CountClasses" = some 12 by kernel_rfl).symm.trans hf) |>.symm
      obtain rfl : fn = Tryz.f12 := (Option.some.inj (Tryz.func12.symm.trans hfn)).symm
      exact ⟨fc_looks, fun j t ht => by
        rw [Tryz.params12] at ht
        have hm : t ∈ ([81, 23] : List TypeId) := by simpa using Array.mem_of_getElem? ht
        have hall : (([81, 23] : List TypeId).all fun u => !Tryz.prog.wantsStandIn u) = true := by kernel_rfl
        exact (show Tryz.prog.wantsStandIn t = false by simpa using List.all_eq_true.1 hall t hm)⟩)
    fc12_goes
end Go.Proofs.YtepfaegpjddehaaGreatDoor
/-
  The law of CountClasses.
-/
namespace Go.Proofs.YtepfaegpjddehaaGreatDoor
open Go Go.Ev
theorem countClasses_proved : Rows.CountClassesCardSaid := law12_card fun B r t _ _ _ _ => by
  refine law12 (fun {B} => awake18) _ _ _ _ ?_
  rintro _ rfl _
  exact if_pos rfl
end Go.Proofs.YtepfaegpjddehaaGreatDoor
