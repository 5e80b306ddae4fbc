import Derived.Test.YtepfaegpjddehaaGreatDoorWords
import Derived.Test.YtepfaegpjddehaaGreatDoorLaws
import Derived.Test.YtepfaegpjddehaaGreatDoorEvD
import Derived.KernelRfl
set_option linter.unusedSimpArgs false
set_option linter.unusedVariables false
namespace Go.Ev
open Go Go.Proofs
variable {B : Nat}
def twoL : List (List Int) := [[0, 1], [2, 3]]
abbrev twoV : AV := .agg [I (4 : Nat), encT twoL]
def noS (_ : Nat) : Bool := false
set_option maxRecDepth 100000 in
theorem two87 : Pure Tryz.prog B 87 [twoV, I (2 : Nat)] (· = I 0) :=
  closed_pureF (S := noS) (J := hookJ) (fuel := 1000) (n := 40) tbl_ok mixed (fun _ => hookJ_ok) (by kernel_rfl) (by kernel_rfl)
set_option maxRecDepth 100000 in
theorem two88 : Pure Tryz.prog B 88 [I ((4 - 4 / 2 : Nat) : Int), I (2 : Nat)] (· = .bool false) :=
  closed_pureF (S := noS) (J := hookJ) (fuel := 1000) (n := 40) tbl_ok mixed (fun _ => hookJ_ok) (by kernel_rfl) (by kernel_rfl)
theorem two_sum : bsum twoL 2 2 (4 / 2) 4 = 9 := by decide +kernel
theorem two31 : Pure Tryz.prog B 31 [twoV, I (2 : Nat), I 2] (· = .tup [I 9, I 0]) := by
  have := bounded31 (B := B) (lines := twoL) (cells := 4) (most := 2) (s := 2) (by decide) (by decide) (by decide) (by decide) (by decide) (by decide) two87 two88
  rw [if_neg (by decide), show (2 : Int).toNat = 2 from rfl, two_sum] at this
  exact this
def exp31 : List AV := [twoV, I (2 : Nat), I 2]
noncomputable def hookB (f : Nat) (args : List AV) (h : T Blk) : Option (AV × T Blk) := bif Nat.beq f 31 then (match args.mapM (fzB 20 .e h) with
  | some a => bif avEq (.tup a) (.tup exp31) then some (.tup [I 9, I 0], h) else none
  | none => none) else hookJ f args h
theorem hookB_ok {B : Nat} : JOk Tryz.prog B hookB := by
  intro E h nx w f args vs v h2 H hv hj
  unfold hookB at hj
  cases hf : Nat.beq f 31 with
  | false => rw [hf, cond_false] at hj; exact hookJ_ok H hv hj
  | true =>
    obtain rfl := of_beq hf
    rw [hf, cond_true] at hj
    cases ha : args.mapM (fzB 20 .e h) with
    | none => simp [ha] at hj
    | some a =>
      simp only [ha] at hj
      cases hq : avEq (.tup a) (.tup exp31) with
      | false => simp [hq] at hj
      | true =>
        rw [hq, cond_true] at hj
        obtain ⟨rfl, rfl⟩ : AV.tup [I 9, I 0] = v ∧ h = h2 := by simpa using hj
        have e : a = exp31 := AV.tup.inj (avEq_eq hq)
        subst e
        exact law_plain H hv (fzB_list ha) (by kernel_rfl) (fun B => two31) (.tup _ fun x hx => by
          simp at hx
          rcases hx with rfl | rfl <;> exact .int _ _)
end Go.Ev
