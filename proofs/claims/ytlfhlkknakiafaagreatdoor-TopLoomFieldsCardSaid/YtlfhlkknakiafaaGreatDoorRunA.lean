import Derived.Test.YtlfhlkknakiafaaGreatDoorIrT
import Derived.Test.YtlfhlkknakiafaaGreatDoorWordsa
import Derived.Test.YtlfhlkknakiafaaGreatDoorEvD
import Derived.KernelRfl
set_option linter.unusedSimpArgs false
set_option linter.unusedVariables false
namespace Go.Ev
open Go Go.Proofs
set_option maxRecDepth 100000
def noSl (_ : Nat) : Bool := false
noncomputable def rk (J : Nat → List AV → T Blk → Option (AV × T Blk)) (f : Nat) (args : List AV) (res : AV) : Bool := nns args && match (uW noSl J tbl 100000 60).fn f (.of f) args .e .z endK with
  | .ok v => avEq v res
  | .no _ => false
theorem yS {J : Nat → List AV → T Blk → Option (AV × T Blk)} {f : Nat} {args : List AV} {res : AV} {B : Nat} (hJ : ∀ B, JOk Tryz.prog B J) (h : rk J f args res = true) : Pure Tryz.prog B f args (· = res) := by
  unfold rk at h
  rw [Bool.and_eq_true] at h
  obtain ⟨ha, h⟩ := h
  cases hq : (uW noSl J tbl 100000 60).fn f (.of f) args .e .z endK with
  | no n => rw [hq] at h; cases h
  | ok v =>
    rw [hq] at h
    have e := uH h
    subst e
    exact closed_pureF tbl_ok mixed hJ ha hq
def mul4 : List Nat := [0, 0, 0, 0, 0, 1, 2, 3, 0, 2, 3, 1, 0, 3, 1, 2]
def add4 : List Nat := [0, 1, 2, 3, 1, 0, 3, 2, 2, 3, 0, 1, 3, 2, 1, 0]
def mulF (n a b : Nat) : Nat := if n = 4 then mul4.getD (4 * a + b) 0 else a * b % n
def addF (n a b : Nat) : Nat := if n = 4 then add4.getD (4 * a + b) 0 else (a + b) % n
def fam (n k : Nat) : List Int := (List.range (n * n)).map fun x => ((addF n (mulF n k (x / n)) (x % n) : Nat) : Int)
noncomputable def gV (n : Nat) (l : List Int) : AV := .agg [I (n : Int), I (n : Int), encI l]
noncomputable def famC (n : Nat) : List AV := (List.range (n - 1)).flatMap fun k => [I (n : Int), I (n : Int), encI (fam n (k + 1))]
def fdL (n : Nat) (a b : List Int) : List Int := List.zipWith (fun x y => x + (n : Int) * y + 1) a b
def prL (n : Nat) (a : List Int) (m : Nat) (b : List Int) : List Int := (List.range (n * m * (n * m))).map fun x => (m : Int) * a.getD (n * (x / (n * m) / m) + x % (n * m) / m) 0 + b.getD (m * (x / (n * m) % m) + x % (n * m) % m) 0
def sem : List UInt8 := [115, 101, 109, 105, 109, 97, 103, 105, 99]
def norl : List UInt8 := [110, 111, 114, 109, 97, 108]
def rcL (n : Nat) : List (List Int) := ((List.range n).map fun i => (List.range n).map fun k => ((n * i + k : Nat) : Int)) ++ ((List.range n).map fun k => (List.range n).map fun i => ((n * i + k : Nat) : Int))
noncomputable def sysV (n : Nat) : AV := .agg [I ((n * n : Nat) : Int), encT (rcL n)]
def wB (f : Nat → Nat → Nat → Bool) : Bool := [3, 4, 5].all fun n => (List.range (n - 1)).all fun i => (List.range (n - 1)).all fun k => f n i k
theorem jY {f : Nat → Nat → Nat → Bool} (h : wB f = true) {n i k : Nat} (hn : n = 3 ∨ n = 4 ∨ n = 5) (hi : i < n - 1) (hk : k < n - 1) : f n i k = true := by
  have h1 := List.all_eq_true.1 h n (by rcases hn with rfl | rfl | rfl <;> simp)
  have h2 := List.all_eq_true.1 h1 i (List.mem_range.2 hi)
  exact List.all_eq_true.1 h2 k (List.mem_range.2 hk)
noncomputable def run8 (n : Nat) : Bool := rk gG 8 [I (n : Int)] (.tup [.lst 3 (n - 1) (famC n), I 0])
theorem run8_3 : run8 3 = true := by kernel_rfl
theorem run8_4 : run8 4 = true := by kernel_rfl
theorem run8_5 : run8 5 = true := by kernel_rfl
theorem fam8 {B n : Nat} (hn : n = 3 ∨ n = 4 ∨ n = 5) : Pure Tryz.prog B 8 [I (n : Int)] (· = .tup [.lst 3 (n - 1) (famC n), I 0]) := by
  rcases hn with rfl | rfl | rfl
  · exact yS (fun _ => yG) run8_3
  · exact yS (fun _ => yG) run8_4
  · exact yS (fun _ => yG) run8_5
noncomputable def run9 (n i k : Nat) : Bool := rk gG 9 [gV n (fam n (i + 1)), gV n (fam n (k + 1))] (if i = k then .tup [.agg [I 0, I 0, .nils], I 9] else .tup [gV n (fdL n (fam n (i + 1)) (fam n (k + 1))), I 0])
theorem run9_ok : wB run9 = true := by kernel_rfl
noncomputable def run11 (n i k : Nat) : Bool := if i = k then true else rk gG 11 [gV n (fdL n (fam n (i + 1)) (fam n (k + 1)))] (.tup [gV n (fam n (i + 1)), gV n (fam n (k + 1)), I 0])
theorem run11_ok : wB run11 = true := by kernel_rfl
noncomputable def run13 (n i k : Nat) : Bool := if k = 0 then rk gG 13 [gV n (fam n (i + 1)), gV n (fam n (i + 1))] (.bool true) else true
theorem run13_ok : wB run13 = true := by kernel_rfl
noncomputable def run12 (n i k : Nat) : Bool := if i = 0 ∧ k = 0 then rk gG 12 [.str sem, I (n : Int)] (.tup [sysV n, I 0]) else true
theorem run12_ok : wB run12 = true := by kernel_rfl
noncomputable def run14 (n i k : Nat) : Bool := if i = k then true else rk gG 14 [sysV n, encI (fdL n (fam n (i + 1)) (fam n (k + 1)))] (.tup [.bool true, I 0])
theorem run14_ok : wB run14 = true := by kernel_rfl
noncomputable def run15 (n i k : Nat) : Bool := if n < 5 ∧ k < 2 then rk gG 15 [gV n (fam n (i + 1)), gV 3 (fam 3 (k + 1))] (.tup [gV (n * 3) (prL n (fam n (i + 1)) 3 (fam 3 (k + 1))), I 0]) else true
theorem run15_ok : wB run15 = true := by kernel_rfl
def big (n i k : Nat) : List Int := fdL (n * 3) (prL n (fam n (i + 1)) 3 (fam 3 1)) (prL n (fam n (k + 1)) 3 (fam 3 2))
noncomputable def run9b (n i k : Nat) : Bool := if n < 5 ∧ i ≠ k then rk gG 9 [gV (n * 3) (prL n (fam n (i + 1)) 3 (fam 3 1)), gV (n * 3) (prL n (fam n (k + 1)) 3 (fam 3 2))] (.tup [gV (n * 3) (big n i k), I 0]) else true
theorem run9b_ok : wB run9b = true := by kernel_rfl
noncomputable def run10 : Bool := rk gG 10 [] (.bool true)
theorem run10_ok : run10 = true := by kernel_rfl
theorem pairs10 {B : Nat} : Pure Tryz.prog B 10 [] (· = .bool true) := yS (fun _ => yG) run10_ok
end Go.Ev
