import Derived.Test.YtfgpjkchdelphaaGreatDoorEvD
import Derived.Test.YtfgpjkchdelphaaGreatDoorCards
import Derived.Lib.LaidTab
import Derived.KernelRfl
import Derived.Test.YtfgpjkchdelphaaGreatDoorWords
import Derived.Test.YtfgpjkchdelphaaGreatDoorIrT
import Derived.Test.YtfgpjkchdelphaaGreatDoorFcA
import Derived.Test.YtfgpjkchdelphaaGreatDoorFcB
import Derived.Test.YtfgpjkchdelphaaGreatDoorFcC
import Derived.Test.YtfgpjkchdelphaaGreatDoorFcD
import Derived.Test.YtfgpjkchdelphaaGreatDoorFact
import Derived.Test.YtfgpjkchdelphaaGreatDoorTie
import Derived.ProofKit
import Derived.LaidMore
import Derived.OpenShut
import Derived.Stop.Joined
import Derived.SevenTiedAt
import Derived.Test.YtfgpjkchdelphaaGreatDoorWake
import Derived.Test.YtfgpjkchdelphaaGreatDoorWorda
import Derived.Test.YtfgpjkchdelphaaGreatDoorLaws
set_option linter.unusedSimpArgs false
set_option linter.unusedVariables false
namespace Go.Proofs.YtfgpjkchdelphaaGreatDoor
open Go Go.Ev
abbrev laid3 : List (String × DataW Unit) := [("math/bits.deBruijn32tab", Rows.laid_math_bits_deBruijn32tab), ("math/bits.deBruijn64tab", Rows.laid_math_bits_deBruijn64tab), ("internal/strconv.uint64pow10", Rows.laid_internal_strconv_uint64pow10)]
def powZ : List Int := (layG 2).map fun (n : Nat) => (n : Int)
theorem laidW {W : World} (h : laidMetH Tryz.prog laid3 W) : LaidW W := by
  have h : laidMet Tryz.prog laid3 W := h
  obtain ⟨ps, ⟨_, _, _, _, _, _, _, _, _, _, ⟨_, _, _, _, _, _, _, _, _, _, ⟨g, t, cs, fuel, p, q, hg, ht, hvar, hd, _, _⟩, _⟩, _⟩, _⟩ := h
  obtain rfl : 2 = g := Option.some.inj ((show Tryz.prog.globalNamed "internal/strconv.uint64pow10" = some 2 by kernel_rfl).symm.trans hg)
  obtain rfl : 334 = t := Option.some.inj ((show (Tryz.prog.globals[2]?).map (·.type) = some 334 by kernel_rfl).symm.trans ht)
  have e0 : (Rows.laid_internal_strconv_uint64pow10 : DataW Unit) = Lib.tabData .u64 powZ := by kernel_rfl
  rw [e0] at hd
  have hcs : cs.toList = powZ.map fun z => Value.int .u64 z := Lib.cells_of_tab (n := 20) (e := 264) Tryz.underlying334 Tryz.underlying264 (by kernel_rfl) (by kernel_rfl) hd
  intro b i v hb
  unfold layC at hb
  by_cases hb2 : b = 2
  case neg =>
    have : layG b = [] := by
      unfold layG
      rw [show Nat.beq b 2 = false from by cases hq : Nat.beq b 2 with
        | false => rfl
        | true => exact absurd (Nat.eq_of_beq_eq_true hq) hb2]; rfl
    rw [this] at hb
    cases hb
  subst hb2
  have hv : W.var? Tryz.prog "internal/strconv.uint64pow10" = some cs := hvar
  unfold World.var? at hv
  rw [hg] at hv
  simp only [Option.bind_some] at hv
  unfold cellOf
  split at hv
  · rename_i c ty fr hh
    have hc := Option.some.inj hv
    rw [hh]
    simp only
    rw [hc, ← Array.getElem?_toList, hcs]
    simp only [powZ, List.getElem?_map]
    cases hq : (layG 2)[i]? with
    | none => rw [hq] at hb; cases hb
    | some n => rw [hq] at hb; exact hb
  · cases hv
end Go.Proofs.YtfgpjkchdelphaaGreatDoor
/-
  For all arguments the law LinesTurned returns true: the program's functions return what the reference returns, the results or the errors.
  Conditions: none but those of the given statement.
-/
namespace Go.Proofs.YtfgpjkchdelphaaGreatDoor
open Go Go.Ev Go.ChangeShapes Go.WideShapes Go.ChangeAt Go.RowKit

theorem ownK : ownKnob Tryz.prog.godebug = none := by kernel_rfl
theorem laidOut : laidOutB Tryz.prog = true := by kernel_rfl
theorem door_met (os : Os) (args : Array Value) : laidMetH Tryz.prog laid3 ((World.doorLaid Tryz.prog 4000 os).forCall (fun _ _ => 0) ⟨#[], args, []⟩).memory :=
  laidMetH_of_parts3 (fuel := 8) (laidMet_of_run' 8 (by kernel_rfl) (by kernel_rfl)) (by kernel_rfl) (by kernel_rfl)

set_option maxRecDepth 100000 in
theorem law10_lifted (law : ∀ (B : Nat) (r0 c0 : Int) (l0 : List Int) (n1 : Int), (Lit.int .i64 r0).wf = true → (Lit.int .i64 c0).wf = true → l0.length ≤ maxLen → (∀ n ∈ l0, (Lit.int .i64 n).wf = true) → (Lit.int .i64 n1).wf = true → (CS Tryz.prog B).fn 10 (.of 10) [.agg [I r0, I c0, Go.Ev.encI l0], I n1] .e .z retTrue = .ok True)
    (os : Os) (started : os.Started) (H : Type) (enc : TypeId × Value → H) :
    ReturnsInHanded {} Tryz.checked os 10 .any (fun w args => (Rows.linesTurnedSpec.pre enc Tryz.prog Tryz.f10 [] false w args ∧ laidMetH Tryz.prog laid3 w) ∧ sizedMet enc Tryz.prog Tryz.f10 (OpenSpec.ofChange Rows.linesTurnedSpec) false w args)
      (Rows.linesTurnedSpec.post enc Tryz.prog Tryz.f10 false true false false) := by
  refine returnsInHanded_of_change_and (C := Tryz.checked) (X := fun w _ => laidMetH Tryz.prog laid3 w) (fun _ _ _ hh h => h.of_heap hh) ownK started (by kernel_rfl) Tryz.func10
    (ChangeSpec.witness_shaped (enc := enc) (C := Tryz.checked) (os := os) (X := fun w _ => laidMetH Tryz.prog laid3 w) false (World.doorLaid Tryz.prog 4000 os) #[.agg #[.int .i64 0, .int .i64 0, .slice none 0 0], .int .i64 0] 8 rfl (World.shaped_of_RefB (by kernel_rfl) (by kernel_rfl)) (by kernel_rfl) (by kernel_rfl) (by kernel_rfl) (door_met os _)) ?_
  intro W base args ds gs before hval0 hW _ _ hL _
  have hval : ∀ (j : Nat) t v, Tryz.f10.params[j]? = some t → args[j]? = some v → Value.okWide Tryz.prog W .any base t v := hval0
  have hW' := hW
  obtain ⟨p, q, hA0, hV, rfl, hfz, hnd⟩ := hW
  have hA : DataW.TrodAll enc Tryz.prog W 0 (fun _ => true) true Tryz.f10.params.toList args.toList ds p := hA0
  rw [Tryz.params10] at hA hval
  obtain ⟨v0, v1, d0, d1, p0, p1, rfl, rfl, rfl, h0, h1⟩ := trodAll_two hA
  obtain ⟨rfl, rfl⟩ := trodVars_none hV
  obtain ⟨r0, c0, l0, vr0, w0a, w0b, w0c, w0d⟩ := open_grid (hl := laidW hL) Tryz.underlying80 (by kernel_rfl) (by kernel_rfl) rfl rfl rfl Tryz.underlying3 Tryz.underlying36 (by kernel_rfl) (hval 0 80 v0 rfl rfl) h0
  obtain ⟨n1, rfl, rfl, rfl, w1⟩ := open_int Tryz.underlying3 (hval 1 3 v1 rfl rfl) h1
  refine (law_calls (hl := laidW hL) (args := [.agg [I r0, I c0, Go.Ev.encI l0], I n1]) (VRL.cons vr0 (VRL.cons (by simp only [VR]) VRL.nil)) (law _ r0 c0 l0 n1 w0a w0b w0c w0d w1)).mono fun e W' ⟨he, hb⟩ => ?_
  subst he
  exact ⟨_, rfl, post_true laidOut (by
    rw [Tryz.params10]; intro t ht
    have h10 : ([80, 3] : List TypeId).all (fun t => Tryz.prog.readableRec t && decide (t < Tryz.prog.types.size)) = true := by kernel_rfl
    have := List.all_eq_true.1 h10 t (by simpa using ht)
    simp only [Bool.and_eq_true, decide_eq_true_eq] at this
    exact this) rfl (fun ds h => by
    rw [Tryz.params10] at h
    match ds, h with
    | [_, _], _ => rfl) (tb := 4) (by kernel_rfl) Tryz.underlying4 hW' hb⟩

theorem fc10 : joinedFacts Tryz.prog 10 Tryz.f10 Rows.linesTurnedSpec Rows.linesTurnedRow = true := by
  unfold joinedFacts
  have hp : Tryz.f10.params.all (Tryz.prog.readableRec ·) = true := by rw [Tryz.params10]; kernel_rfl
  simp only [Bool.and_eq_true]
  exact ⟨⟨⟨⟨⟨⟨⟨⟨⟨⟨⟨⟨⟨⟨⟨⟨⟨⟨⟨⟨⟨⟨⟨⟨⟨⟨⟨⟨⟨⟨⟨fc10_wf, fc_laid⟩, fc_maps⟩, hp⟩, fc10_tie⟩, by kernel_rfl⟩, fc_stops⟩, by kernel_rfl⟩, fc_knobs⟩, fc10_inp⟩, fc10_unf⟩, fc10_rec⟩, fc10_named⟩, by kernel_rfl⟩, by kernel_rfl⟩, by kernel_rfl⟩, by kernel_rfl⟩, by kernel_rfl⟩, by kernel_rfl⟩, by kernel_rfl⟩, by kernel_rfl⟩, by kernel_rfl⟩, fc_keys⟩, by kernel_rfl⟩, fc_heard⟩, fc_may⟩, fc_lift⟩, fc_make⟩, by kernel_rfl⟩, by kernel_rfl⟩, by kernel_rfl⟩, by kernel_rfl⟩

theorem law10_row (law : ∀ (B : Nat) (r0 c0 : Int) (l0 : List Int) (n1 : Int), (Lit.int .i64 r0).wf = true → (Lit.int .i64 c0).wf = true → l0.length ≤ maxLen → (∀ n ∈ l0, (Lit.int .i64 n).wf = true) → (Lit.int .i64 n1).wf = true → (CS Tryz.prog B).fn 10 (.of 10) [.agg [I r0, I c0, Go.Ev.encI l0], I n1] .e .z retTrue = .ok True) : Rows.LinesTurnedSaid :=
  OpenClaim.holds_of_wide 10 Tryz.f10 rfl rfl rfl rfl rfl rfl rfl ⟨rfl, rfl, rfl, rfl, rfl⟩ rfl rfl rfl rfl rfl (by kernel_rfl) Tryz.func10 fc10
    (of_decide_eq_true (by kernel_rfl)) (by unfold Func.isWrapper; first | (rw [if_pos (by decide +kernel)]; kernel_rfl) | (rw [if_neg (by decide +kernel)]; exact ⟨rfl, rfl⟩))
    (fun os started H enc _ => law10_lifted law os started H enc)

theorem law10_card (law : ∀ (B : Nat) (r0 c0 : Int) (l0 : List Int) (n1 : Int), (Lit.int .i64 r0).wf = true → (Lit.int .i64 c0).wf = true → l0.length ≤ maxLen → (∀ n ∈ l0, (Lit.int .i64 n).wf = true) → (Lit.int .i64 n1).wf = true → (CS Tryz.prog B).fn 10 (.of 10) [.agg [I r0, I c0, Go.Ev.encI l0], I n1] .e .z retTrue = .ok True) : Rows.LinesTurnedCardSaid :=
  Claim7.holds_tied_plain_at .later [] [.data, .data, .data] true (true, "bfbd5c32764d1e82c9430f3864331234c98e0c76f769b4cd8b6b7ac3cca983d9") false
    (law10_row law) (fun _ h => by cases h) fc10_wfT (fun _ h => by cases h) linesTurned_row_tie rfl ⟨rfl, rfl⟩ fc_main rfl
    (fun f fn hf hfn => by
      obtain rfl : f = 10 := Option.some.inj ((show Tryz.prog.funcNamed "talisman/talismanlaw02.LinesTurned" = some 10 by kernel_rfl).symm.trans hf) |>.symm
      obtain rfl : fn = Tryz.f10 := (Option.some.inj (Tryz.func10.symm.trans hfn)).symm
      exact ⟨fc_looks, fun j t ht => by
        rw [Tryz.params10] at ht
        have hm : t ∈ ([80, 3] : List TypeId) := by simpa using Array.mem_of_getElem? ht
        have hall : (([80, 3] : List TypeId).all fun u => !Tryz.prog.wantsStandIn u) = true := by kernel_rfl
        exact (show Tryz.prog.wantsStandIn t = false by simpa using List.all_eq_true.1 hall t hm)⟩)
    fc10_goes
end Go.Proofs.YtfgpjkchdelphaaGreatDoor
/-
  The law of LinesTurned.
-/
namespace Go.Proofs.YtfgpjkchdelphaaGreatDoor
open Go Go.Ev
theorem hookS_law (B : Nat) : JOk Tryz.prog B hookS := hookS_ok (fun blk off cap zs w hH hb hz => Tryz.slices_Sort_int blk off cap zs w hH hb hz) (fun p cap w => Tryz.slices_Sort_int_none p cap w)
theorem linesTurned_proved : Rows.LinesTurnedCardSaid := law10_card fun B r0 c0 l0 n1 _ _ _ _ _ => by
  refine law10 hookS_law (fun {B} => awake17) _ _ _ _ ?_
  rintro _ rfl _
  exact if_pos rfl
end Go.Proofs.YtfgpjkchdelphaaGreatDoor
