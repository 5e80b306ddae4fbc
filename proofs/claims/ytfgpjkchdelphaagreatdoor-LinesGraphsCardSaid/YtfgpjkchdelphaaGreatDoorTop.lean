import Derived.Test.YtfgpjkchdelphaaGreatDoorEvD
import Derived.Test.YtfgpjkchdelphaaGreatDoorCards
import Derived.Lib.LaidTab
import Derived.KernelRfl
import Derived.Test.YtfgpjkchdelphaaGreatDoorWords
import Derived.Test.YtfgpjkchdelphaaGreatDoorIrT
import Derived.Test.YtfgpjkchdelphaaGreatDoorFcA
import Derived.Test.YtfgpjkchdelphaaGreatDoorFcB
import Derived.Test.YtfgpjkchdelphaaGreatDoorFcC
import Derived.Test.YtfgpjkchdelphaaGreatDoorFcD
import Derived.Test.YtfgpjkchdelphaaGreatDoorFact
import Derived.Test.YtfgpjkchdelphaaGreatDoorTie
import Derived.ProofKit
import Derived.LaidMore
import Derived.OpenShut
import Derived.Stop.Joined
import Derived.SevenTiedAt
import Derived.Test.YtfgpjkchdelphaaGreatDoorWake
import Derived.Test.YtfgpjkchdelphaaGreatDoorLaws
set_option linter.unusedSimpArgs false
set_option linter.unusedVariables false
namespace Go.Proofs.YtfgpjkchdelphaaGreatDoor
open Go Go.Ev
abbrev laid3 : List (String × DataW Unit) := [("math/bits.deBruijn32tab", Rows.laid_math_bits_deBruijn32tab), ("math/bits.deBruijn64tab", Rows.laid_math_bits_deBruijn64tab), ("internal/strconv.uint64pow10", Rows.laid_internal_strconv_uint64pow10)]
def powZ : List Int := (layG 2).map fun (n : Nat) => (n : Int)
theorem laidW {W : World} (h : laidMetH Tryz.prog laid3 W) : LaidW W := by
  have h : laidMet Tryz.prog laid3 W := h
  obtain ⟨ps, ⟨_, _, _, _, _, _, _, _, _, _, ⟨_, _, _, _, _, _, _, _, _, _, ⟨g, t, cs, fuel, p, q, hg, ht, hvar, hd, _, _⟩, _⟩, _⟩, _⟩ := h
  obtain rfl : 2 = g := Option.some.inj ((show Tryz.prog.globalNamed "internal/strconv.uint64pow10" = some 2 by kernel_rfl).symm.trans hg)
  obtain rfl : 334 = t := Option.some.inj ((show (Tryz.prog.globals[2]?).map (·.type) = some 334 by kernel_rfl).symm.trans ht)
  have e0 : (Rows.laid_internal_strconv_uint64pow10 : DataW Unit) = Lib.tabData .u64 powZ := by kernel_rfl
  rw [e0] at hd
  have hcs : cs.toList = powZ.map fun z => Value.int .u64 z := Lib.cells_of_tab (n := 20) (e := 264) Tryz.underlying334 Tryz.underlying264 (by kernel_rfl) (by kernel_rfl) hd
  intro b i v hb
  unfold layC at hb
  by_cases hb2 : b = 2
  case neg =>
    have : layG b = [] := by
      unfold layG
      rw [show Nat.beq b 2 = false from by cases hq : Nat.beq b 2 with
        | false => rfl
        | true => exact absurd (Nat.eq_of_beq_eq_true hq) hb2]; rfl
    rw [this] at hb
    cases hb
  subst hb2
  have hv : W.var? Tryz.prog "internal/strconv.uint64pow10" = some cs := hvar
  unfold World.var? at hv
  rw [hg] at hv
  simp only [Option.bind_some] at hv
  unfold cellOf
  split at hv
  · rename_i c ty fr hh
    have hc := Option.some.inj hv
    rw [hh]
    simp only
    rw [hc, ← Array.getElem?_toList, hcs]
    simp only [powZ, List.getElem?_map]
    cases hq : (layG 2)[i]? with
    | none => rw [hq] at hb; cases hb
    | some n => rw [hq] at hb; exact hb
  · cases hv
end Go.Proofs.YtfgpjkchdelphaaGreatDoor
/-
  For all arguments the law LinesGraphs returns true: the program's functions return what the reference returns, the results or the errors.
  Conditions: none but those of the given statement.
-/
namespace Go.Proofs.YtfgpjkchdelphaaGreatDoor
open Go Go.Ev Go.ChangeShapes Go.WideShapes Go.ChangeAt Go.RowKit

theorem ownK : ownKnob Tryz.prog.godebug = none := by kernel_rfl
theorem laidOut : laidOutB Tryz.prog = true := by kernel_rfl
theorem door_met (os : Os) (args : Array Value) : laidMetH Tryz.prog laid3 ((World.doorLaid Tryz.prog 4000 os).forCall (fun _ _ => 0) ⟨#[], args, []⟩).memory :=
  laidMetH_of_parts3 (fuel := 8) (laidMet_of_run' 8 (by kernel_rfl) (by kernel_rfl)) (by kernel_rfl) (by kernel_rfl)

set_option maxRecDepth 100000 in
theorem law15_lifted (law : ∀ (B : Nat) (c0 : Int) (l0 : List (Int × Int)) (l1 : List Int), (Lit.int .i64 c0).wf = true → l0.length ≤ maxLen → l1.length ≤ maxLen → (∀ n ∈ l1, (Lit.int .i64 n).wf = true) → (CS Tryz.prog B).fn 15 (.of 15) [.agg [I c0, encP l0], Go.Ev.encI l1] .e .z retTrue = .ok True)
    (os : Os) (started : os.Started) (H : Type) (enc : TypeId × Value → H) :
    ReturnsInHanded {} Tryz.checked os 15 .any (fun w args => (Rows.linesGraphsSpec.pre enc Tryz.prog Tryz.f15 [] false w args ∧ laidMetH Tryz.prog laid3 w) ∧ sizedMet enc Tryz.prog Tryz.f15 (OpenSpec.ofChange Rows.linesGraphsSpec) false w args)
      (Rows.linesGraphsSpec.post enc Tryz.prog Tryz.f15 false true false false) := by
  refine returnsInHanded_of_change_and (C := Tryz.checked) (X := fun w _ => laidMetH Tryz.prog laid3 w) (fun _ _ _ hh h => h.of_heap hh) ownK started (by kernel_rfl) Tryz.func15
    (ChangeSpec.witness_shaped (enc := enc) (C := Tryz.checked) (os := os) (X := fun w _ => laidMetH Tryz.prog laid3 w) false (World.doorLaid Tryz.prog 4000 os) #[.agg #[.int .i64 0, .slice none 0 0], .slice none 0 0] 8 rfl (World.shaped_of_RefB (by kernel_rfl) (by kernel_rfl)) (by kernel_rfl) (by kernel_rfl) (by kernel_rfl) (door_met os _)) ?_
  intro W base args ds gs before hval0 hW _ _ hL _
  have hval : ∀ (j : Nat) t v, Tryz.f15.params[j]? = some t → args[j]? = some v → Value.okWide Tryz.prog W .any base t v := hval0
  have hW' := hW
  obtain ⟨p, q, hA0, hV, rfl, hfz, hnd⟩ := hW
  have hA : DataW.TrodAll enc Tryz.prog W 0 (fun _ => true) true Tryz.f15.params.toList args.toList ds p := hA0
  rw [Tryz.params15] at hA hval
  obtain ⟨v0, v1, d0, d1, p0, p1, rfl, rfl, rfl, h0, h1⟩ := trodAll_two hA
  obtain ⟨rfl, rfl⟩ := trodVars_none hV
  obtain ⟨c0, l0, vr0, w0a, w0b⟩ := open_graph (hl := laidW hL) Tryz.underlying27 (by kernel_rfl) (by kernel_rfl) rfl rfl Tryz.underlying3 Tryz.underlying25 Tryz.underlying118 (by kernel_rfl) (by kernel_rfl) (hval 0 27 v0 rfl rfl) h0
  obtain ⟨l1, vr1, w1a, w1b⟩ := open_listV (hl := laidW hL) Tryz.underlying36 Tryz.underlying3 (by kernel_rfl) (hval 1 36 v1 rfl rfl) h1
  refine (law_calls (hl := laidW hL) (args := [.agg [I c0, encP l0], Go.Ev.encI l1]) (VRL.cons vr0 (VRL.cons vr1 VRL.nil)) (law _ c0 l0 l1 w0a w0b w1a w1b)).mono fun e W' ⟨he, hb⟩ => ?_
  subst he
  exact ⟨_, rfl, post_true laidOut (by
    rw [Tryz.params15]; intro t ht
    have h15 : ([27, 36] : List TypeId).all (fun t => Tryz.prog.readableRec t && decide (t < Tryz.prog.types.size)) = true := by kernel_rfl
    have := List.all_eq_true.1 h15 t (by simpa using ht)
    simp only [Bool.and_eq_true, decide_eq_true_eq] at this
    exact this) rfl (fun ds h => by
    rw [Tryz.params15] at h
    match ds, h with
    | [_, _], _ => rfl) (tb := 4) (by kernel_rfl) Tryz.underlying4 hW' hb⟩

theorem fc15 : joinedFacts Tryz.prog 15 Tryz.f15 Rows.linesGraphsSpec Rows.linesGraphsRow = true := by
  unfold joinedFacts
  have hp : Tryz.f15.params.all (Tryz.prog.readableRec ·) = true := by rw [Tryz.params15]; kernel_rfl
  simp only [Bool.and_eq_true]
  exact ⟨⟨⟨⟨⟨⟨⟨⟨⟨⟨⟨⟨⟨⟨⟨⟨⟨⟨⟨⟨⟨⟨⟨⟨⟨⟨⟨⟨⟨⟨⟨fc15_wf, fc_laid⟩, fc_maps⟩, hp⟩, fc15_tie⟩, by kernel_rfl⟩, fc_stops⟩, by kernel_rfl⟩, fc_knobs⟩, fc15_inp⟩, fc15_unf⟩, fc15_rec⟩, fc15_named⟩, by kernel_rfl⟩, by kernel_rfl⟩, by kernel_rfl⟩, by kernel_rfl⟩, by kernel_rfl⟩, by kernel_rfl⟩, by kernel_rfl⟩, by kernel_rfl⟩, by kernel_rfl⟩, fc_keys⟩, by kernel_rfl⟩, fc_heard⟩, fc_may⟩, fc_lift⟩, fc_make⟩, by kernel_rfl⟩, by kernel_rfl⟩, by kernel_rfl⟩, by kernel_rfl⟩

theorem law15_row (law : ∀ (B : Nat) (c0 : Int) (l0 : List (Int × Int)) (l1 : List Int), (Lit.int .i64 c0).wf = true → l0.length ≤ maxLen → l1.length ≤ maxLen → (∀ n ∈ l1, (Lit.int .i64 n).wf = true) → (CS Tryz.prog B).fn 15 (.of 15) [.agg [I c0, encP l0], Go.Ev.encI l1] .e .z retTrue = .ok True) : Rows.LinesGraphsSaid :=
  OpenClaim.holds_of_wide 15 Tryz.f15 rfl rfl rfl rfl rfl rfl rfl ⟨rfl, rfl, rfl, rfl, rfl⟩ rfl rfl rfl rfl rfl (by kernel_rfl) Tryz.func15 fc15
    (of_decide_eq_true (by kernel_rfl)) (by unfold Func.isWrapper; first | (rw [if_pos (by decide +kernel)]; kernel_rfl) | (rw [if_neg (by decide +kernel)]; exact ⟨rfl, rfl⟩))
    (fun os started H enc _ => law15_lifted law os started H enc)

theorem law15_card (law : ∀ (B : Nat) (c0 : Int) (l0 : List (Int × Int)) (l1 : List Int), (Lit.int .i64 c0).wf = true → l0.length ≤ maxLen → l1.length ≤ maxLen → (∀ n ∈ l1, (Lit.int .i64 n).wf = true) → (CS Tryz.prog B).fn 15 (.of 15) [.agg [I c0, encP l0], Go.Ev.encI l1] .e .z retTrue = .ok True) : Rows.LinesGraphsCardSaid :=
  Claim7.holds_tied_plain_at .later [] [.data, .data, .data] true (true, "bfbd5c32764d1e82c9430f3864331234c98e0c76f769b4cd8b6b7ac3cca983d9") false
    (law15_row law) (fun _ h => by cases h) fc15_wfT (fun _ h => by cases h) linesGraphs_row_tie rfl ⟨rfl, rfl⟩ fc_main rfl
    (fun f fn hf hfn => by
      obtain rfl : f = 15 := Option.some.inj ((show Tryz.prog.funcNamed "talisman/talismanlaw02.LinesGraphs" = some 15 by kernel_rfl).symm.trans hf) |>.symm
      obtain rfl : fn = Tryz.f15 := (Option.some.inj (Tryz.func15.symm.trans hfn)).symm
      exact ⟨fc_looks, fun j t ht => by
        rw [Tryz.params15] at ht
        have hm : t ∈ ([27, 36] : List TypeId) := by simpa using Array.mem_of_getElem? ht
        have hall : (([27, 36] : List TypeId).all fun u => !Tryz.prog.wantsStandIn u) = true := by kernel_rfl
        exact (show Tryz.prog.wantsStandIn t = false by simpa using List.all_eq_true.1 hall t hm)⟩)
    fc15_goes
end Go.Proofs.YtfgpjkchdelphaaGreatDoor
/-
  The law of LinesGraphs.
-/
namespace Go.Proofs.YtfgpjkchdelphaaGreatDoor
open Go Go.Ev
theorem hookS_law (B : Nat) : JOk Tryz.prog B hookS := hookS_ok (fun blk off cap zs w hH hb hz => Tryz.slices_Sort_int blk off cap zs w hH hb hz) (fun p cap w => Tryz.slices_Sort_int_none p cap w)
theorem linesGraphs_proved : Rows.LinesGraphsCardSaid := law15_card fun B c0 l0 l1 _ _ _ _ => by
  refine law15 hookS_law (fun {B} => awake17) _ _ _ _ ?_
  rintro _ rfl _
  exact if_pos rfl
end Go.Proofs.YtfgpjkchdelphaaGreatDoor
