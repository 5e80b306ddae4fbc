import Derived.Test.YtfgpjkchdelphaaGreatDoorEvD
import Derived.Test.YtfgpjkchdelphaaGreatDoorCards
import Derived.Lib.LaidTab
import Derived.KernelRfl
import Derived.Test.YtfgpjkchdelphaaGreatDoorWords
import Derived.Test.YtfgpjkchdelphaaGreatDoorIrT
import Derived.Test.YtfgpjkchdelphaaGreatDoorFcA
import Derived.Test.YtfgpjkchdelphaaGreatDoorFcB
import Derived.Test.YtfgpjkchdelphaaGreatDoorFcC
import Derived.Test.YtfgpjkchdelphaaGreatDoorFcD
import Derived.Test.YtfgpjkchdelphaaGreatDoorFact
import Derived.Test.YtfgpjkchdelphaaGreatDoorTie
import Derived.ProofKit
import Derived.LaidMore
import Derived.OpenShut
import Derived.Stop.Joined
import Derived.SevenTiedAt
import Derived.Test.YtfgpjkchdelphaaGreatDoorWake
set_option linter.unusedSimpArgs false
set_option linter.unusedVariables false
namespace Go.Proofs.YtfgpjkchdelphaaGreatDoor
open Go Go.Ev
abbrev laid3 : List (String × DataW Unit) := [("math/bits.deBruijn32tab", Rows.laid_math_bits_deBruijn32tab), ("math/bits.deBruijn64tab", Rows.laid_math_bits_deBruijn64tab), ("internal/strconv.uint64pow10", Rows.laid_internal_strconv_uint64pow10)]
def powZ : List Int := (layG 2).map fun (n : Nat) => (n : Int)
theorem laidW {W : World} (h : laidMetH Tryz.prog laid3 W) : LaidW W := by
  have h : laidMet Tryz.prog laid3 W := h
  obtain ⟨ps, ⟨_, _, _, _, _, _, _, _, _, _, ⟨_, _, _, _, _, _, _, _, _, _, ⟨g, t, cs, fuel, p, q, hg, ht, hvar, hd, _, _⟩, _⟩, _⟩, _⟩ := h
  obtain rfl : 2 = g := Option.some.inj ((show Tryz.prog.globalNamed "internal/strconv.uint64pow10" = some 2 by kernel_rfl).symm.trans hg)
  obtain rfl : 334 = t := Option.some.inj ((show (Tryz.prog.globals[2]?).map (·.type) = some 334 by kernel_rfl).symm.trans ht)
  have e0 : (Rows.laid_internal_strconv_uint64pow10 : DataW Unit) = Lib.tabData .u64 powZ := by kernel_rfl
  rw [e0] at hd
  have hcs : cs.toList = powZ.map fun z => Value.int .u64 z := Lib.cells_of_tab (n := 20) (e := 264) Tryz.underlying334 Tryz.underlying264 (by kernel_rfl) (by kernel_rfl) hd
  intro b i v hb
  unfold layC at hb
  by_cases hb2 : b = 2
  case neg =>
    have : layG b = [] := by
      unfold layG
      rw [show Nat.beq b 2 = false from by cases hq : Nat.beq b 2 with
        | false => rfl
        | true => exact absurd (Nat.eq_of_beq_eq_true hq) hb2]; rfl
    rw [this] at hb
    cases hb
  subst hb2
  have hv : W.var? Tryz.prog "internal/strconv.uint64pow10" = some cs := hvar
  unfold World.var? at hv
  rw [hg] at hv
  simp only [Option.bind_some] at hv
  unfold cellOf
  split at hv
  · rename_i c ty fr hh
    have hc := Option.some.inj hv
    rw [hh]
    simp only
    rw [hc, ← Array.getElem?_toList, hcs]
    simp only [powZ, List.getElem?_map]
    cases hq : (layG 2)[i]? with
    | none => rw [hq] at hb; cases hb
    | some n => rw [hq] at hb; exact hb
  · cases hv
end Go.Proofs.YtfgpjkchdelphaaGreatDoor
/-
  For all arguments the law LinesSystems returns true: the program's functions return what the reference returns, the results or the errors.
  Conditions: none but those of the given statement.
-/
namespace Go.Proofs.YtfgpjkchdelphaaGreatDoor
open Go Go.Ev Go.ChangeShapes Go.WideShapes Go.ChangeAt Go.RowKit

theorem ownK : ownKnob Tryz.prog.godebug = none := by kernel_rfl
theorem laidOut : laidOutB Tryz.prog = true := by kernel_rfl
theorem door_met (os : Os) (args : Array Value) : laidMetH Tryz.prog laid3 ((World.doorLaid Tryz.prog 4000 os).forCall (fun _ _ => 0) ⟨#[], args, []⟩).memory :=
  laidMetH_of_parts3 (fuel := 8) (laidMet_of_run' 8 (by kernel_rfl) (by kernel_rfl)) (by kernel_rfl) (by kernel_rfl)

set_option maxRecDepth 100000 in
theorem law14_lifted (law : ∀ (B : Nat) (s0 : List UInt8) (n1 : Int) (n2 : Int), s0.length ≤ maxLen → (Lit.int .i64 n1).wf = true → (Lit.int .i64 n2).wf = true → (CS Tryz.prog B).fn 14 (.of 14) [.str s0, I n1, I n2] .e .z retTrue = .ok True)
    (os : Os) (started : os.Started) (H : Type) (enc : TypeId × Value → H) :
    ReturnsInHanded {} Tryz.checked os 14 .any (fun w args => (Rows.linesSystemsSpec.pre enc Tryz.prog Tryz.f14 [] false w args ∧ laidMetH Tryz.prog laid3 w) ∧ sizedMet enc Tryz.prog Tryz.f14 (OpenSpec.ofChange Rows.linesSystemsSpec) false w args)
      (Rows.linesSystemsSpec.post enc Tryz.prog Tryz.f14 false true false false) := by
  refine returnsInHanded_of_change_and (C := Tryz.checked) (X := fun w _ => laidMetH Tryz.prog laid3 w) (fun _ _ _ hh h => h.of_heap hh) ownK started (by kernel_rfl) Tryz.func14
    (ChangeSpec.witness_shaped (enc := enc) (C := Tryz.checked) (os := os) (X := fun w _ => laidMetH Tryz.prog laid3 w) false (World.doorLaid Tryz.prog 4000 os) #[.string ⟨#[]⟩, .int .i64 0, .int .i64 0] 8 rfl (World.shaped_of_RefB (by kernel_rfl) (by kernel_rfl)) (by kernel_rfl) (by kernel_rfl) (by kernel_rfl) (door_met os _)) ?_
  intro W base args ds gs before hval0 hW _ _ hL _
  have hval : ∀ (j : Nat) t v, Tryz.f14.params[j]? = some t → args[j]? = some v → Value.okWide Tryz.prog W .any base t v := hval0
  have hW' := hW
  obtain ⟨p, q, hA0, hV, rfl, hfz, hnd⟩ := hW
  have hA : DataW.TrodAll enc Tryz.prog W 0 (fun _ => true) true Tryz.f14.params.toList args.toList ds p := hA0
  rw [Tryz.params14] at hA hval
  obtain ⟨v0, v1, v2, d0, d1, d2, p0, p1, p2, rfl, rfl, rfl, h0, h1, h2⟩ := trodAll_three hA
  obtain ⟨rfl, rfl⟩ := trodVars_none hV
  obtain ⟨s0, rfl, rfl, rfl, w0⟩ := open_word Tryz.underlying9 (hval 0 9 v0 rfl rfl) h0
  obtain ⟨n1, rfl, rfl, rfl, w1⟩ := open_int Tryz.underlying3 (hval 1 3 v1 rfl rfl) h1
  obtain ⟨n2, rfl, rfl, rfl, w2⟩ := open_int Tryz.underlying3 (hval 2 3 v2 rfl rfl) h2
  refine (law_calls (hl := laidW hL) (args := [.str s0, I n1, I n2]) (VRL.cons (by simp only [VR]) (VRL.cons (by simp only [VR]) (VRL.cons (by simp only [VR]) VRL.nil))) (law _ s0 n1 n2 w0 w1 w2)).mono fun e W' ⟨he, hb⟩ => ?_
  subst he
  exact ⟨_, rfl, post_true laidOut (by
    rw [Tryz.params14]; intro t ht
    have h14 : ([9, 3, 3] : List TypeId).all (fun t => Tryz.prog.readableRec t && decide (t < Tryz.prog.types.size)) = true := by kernel_rfl
    have := List.all_eq_true.1 h14 t (by simpa using ht)
    simp only [Bool.and_eq_true, decide_eq_true_eq] at this
    exact this) rfl (fun ds h => by
    rw [Tryz.params14] at h
    match ds, h with
    | [_, _, _], _ => rfl) (tb := 4) (by kernel_rfl) Tryz.underlying4 hW' hb⟩

theorem fc14 : joinedFacts Tryz.prog 14 Tryz.f14 Rows.linesSystemsSpec Rows.linesSystemsRow = true := by
  unfold joinedFacts
  have hp : Tryz.f14.params.all (Tryz.prog.readableRec ·) = true := by rw [Tryz.params14]; kernel_rfl
  simp only [Bool.and_eq_true]
  exact ⟨⟨⟨⟨⟨⟨⟨⟨⟨⟨⟨⟨⟨⟨⟨⟨⟨⟨⟨⟨⟨⟨⟨⟨⟨⟨⟨⟨⟨⟨⟨fc14_wf, fc_laid⟩, fc_maps⟩, hp⟩, fc14_tie⟩, by kernel_rfl⟩, fc_stops⟩, by kernel_rfl⟩, fc_knobs⟩, fc14_inp⟩, fc14_unf⟩, fc14_rec⟩, fc14_named⟩, by kernel_rfl⟩, by kernel_rfl⟩, by kernel_rfl⟩, by kernel_rfl⟩, by kernel_rfl⟩, by kernel_rfl⟩, by kernel_rfl⟩, by kernel_rfl⟩, by kernel_rfl⟩, fc_keys⟩, by kernel_rfl⟩, fc_heard⟩, fc_may⟩, fc_lift⟩, fc_make⟩, by kernel_rfl⟩, by kernel_rfl⟩, by kernel_rfl⟩, by kernel_rfl⟩

theorem law14_row (law : ∀ (B : Nat) (s0 : List UInt8) (n1 : Int) (n2 : Int), s0.length ≤ maxLen → (Lit.int .i64 n1).wf = true → (Lit.int .i64 n2).wf = true → (CS Tryz.prog B).fn 14 (.of 14) [.str s0, I n1, I n2] .e .z retTrue = .ok True) : Rows.LinesSystemsSaid :=
  OpenClaim.holds_of_wide 14 Tryz.f14 rfl rfl rfl rfl rfl rfl rfl ⟨rfl, rfl, rfl, rfl, rfl⟩ rfl rfl rfl rfl rfl (by kernel_rfl) Tryz.func14 fc14
    (of_decide_eq_true (by kernel_rfl)) (by unfold Func.isWrapper; first | (rw [if_pos (by decide +kernel)]; kernel_rfl) | (rw [if_neg (by decide +kernel)]; exact ⟨rfl, rfl⟩))
    (fun os started H enc _ => law14_lifted law os started H enc)

theorem law14_card (law : ∀ (B : Nat) (s0 : List UInt8) (n1 : Int) (n2 : Int), s0.length ≤ maxLen → (Lit.int .i64 n1).wf = true → (Lit.int .i64 n2).wf = true → (CS Tryz.prog B).fn 14 (.of 14) [.str s0, I n1, I n2] .e .z retTrue = .ok True) : Rows.LinesSystemsCardSaid :=
  Claim7.holds_tied_plain_at .later [] [.data, .data, .data] true (true, "bfbd5c32764d1e82c9430f3864331234c98e0c76f769b4cd8b6b7ac3cca983d9") false
    (law14_row law) (fun _ h => by cases h) fc14_wfT (fun _ h => by cases h) linesSystems_row_tie rfl ⟨rfl, rfl⟩ fc_main rfl
    (fun f fn hf hfn => by
      obtain rfl : f = 14 := Option.some.inj ((show Tryz.prog.funcNamed "talisman/talismanlaw02.LinesSystems" = some 14 by kernel_rfl).symm.trans hf) |>.symm
      obtain rfl : fn = Tryz.f14 := (Option.some.inj (Tryz.func14.symm.trans hfn)).symm
      exact ⟨fc_looks, fun j t ht => by
        rw [Tryz.params14] at ht
        have hm : t ∈ ([9, 3, 3] : List TypeId) := by simpa using Array.mem_of_getElem? ht
        have hall : (([9, 3, 3] : List TypeId).all fun u => !Tryz.prog.wantsStandIn u) = true := by kernel_rfl
        exact (show Tryz.prog.wantsStandIn t = false by simpa using List.all_eq_true.1 hall t hm)⟩)
    fc14_goes
end Go.Proofs.YtfgpjkchdelphaaGreatDoor
/-
  The law of LinesSystems.
-/
namespace Go.Proofs.YtfgpjkchdelphaaGreatDoor
open Go Go.Ev
theorem linesSystems_proved : Rows.LinesSystemsCardSaid := law14_card fun B s0 n1 n2 _ _ _ => by
  refine law14 (fun {B} => awake17) _ _ _ _ ?_
  rintro _ rfl _
  exact if_pos rfl
end Go.Proofs.YtfgpjkchdelphaaGreatDoor
