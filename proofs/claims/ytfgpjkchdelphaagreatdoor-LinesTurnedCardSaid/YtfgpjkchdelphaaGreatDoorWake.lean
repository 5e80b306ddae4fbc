import Derived.Test.YtfgpjkchdelphaaGreatDoorEvD
import Derived.Test.YtfgpjkchdelphaaGreatDoorLaws
import Derived.Test.YtfgpjkchdelphaaGreatDoorIrT
import Derived.KernelRfl
set_option linter.unusedSimpArgs false
set_option linter.unusedVariables false
namespace Go.Ev
open Go Go.Proofs
def noS (_ : Nat) : Bool := false
theorem m_mul0 {B : Nat} : Pure Tryz.prog B 119 [.agg [I (-2), .nils, I 1, .nils], .agg [I 1, .nils, I 2, .nils]] (· = .agg [I (-1), .nils, I 1, .nils]) :=
  closed_pureF (S := noS) (J := hookJ) (fuel := 1000) (n := 40) tbl_ok mixed (fun _ => hookJ_ok) (by kernel_rfl) (by kernel_rfl)
theorem m_mul1 {B : Nat} : Pure Tryz.prog B 119 [.agg [I (-2), .nils, I 1, .nils], .agg [I 1, .nils, I 1, .nils]] (· = .agg [I (-2), .nils, I 1, .nils]) :=
  closed_pureF (S := noS) (J := hookJ) (fuel := 1000) (n := 40) tbl_ok mixed (fun _ => hookJ_ok) (by kernel_rfl) (by kernel_rfl)
theorem m_mul2 {B : Nat} : Pure Tryz.prog B 119 [.agg [I (-3), .nils, I 2, .nils], .agg [I (-2), .nils, I 3, .nils]] (· = .agg [I 1, .nils, I 1, .nils]) :=
  closed_pureF (S := noS) (J := hookJ) (fuel := 1000) (n := 40) tbl_ok mixed (fun _ => hookJ_ok) (by kernel_rfl) (by kernel_rfl)
theorem m_mul3 {B : Nat} : Pure Tryz.prog B 119 [.agg [I (-1), .nils, I 1, .nils], .agg [I (-1), .nils, I 1, .nils]] (· = .agg [I 1, .nils, I 1, .nils]) :=
  closed_pureF (S := noS) (J := hookJ) (fuel := 1000) (n := 40) tbl_ok mixed (fun _ => hookJ_ok) (by kernel_rfl) (by kernel_rfl)
theorem m_mul4 {B : Nat} : Pure Tryz.prog B 119 [.agg [I (-1), .nils, I 1, .nils], .agg [I (-2), .nils, I 3, .nils]] (· = .agg [I 2, .nils, I 3, .nils]) :=
  closed_pureF (S := noS) (J := hookJ) (fuel := 1000) (n := 40) tbl_ok mixed (fun _ => hookJ_ok) (by kernel_rfl) (by kernel_rfl)
theorem m_mul5 {B : Nat} : Pure Tryz.prog B 119 [.agg [I (-1), .nils, I 1, .nils], .agg [I (-1), .nils, I 2, .nils]] (· = .agg [I 1, .nils, I 2, .nils]) :=
  closed_pureF (S := noS) (J := hookJ) (fuel := 1000) (n := 40) tbl_ok mixed (fun _ => hookJ_ok) (by kernel_rfl) (by kernel_rfl)
theorem m_mul6 {B : Nat} : Pure Tryz.prog B 119 [.agg [I (-1), .nils, I 1, .nils], .agg [I 1, .nils, I 2, .nils]] (· = .agg [I (-1), .nils, I 2, .nils]) :=
  closed_pureF (S := noS) (J := hookJ) (fuel := 1000) (n := 40) tbl_ok mixed (fun _ => hookJ_ok) (by kernel_rfl) (by kernel_rfl)
theorem m_mul7 {B : Nat} : Pure Tryz.prog B 119 [.agg [I (-1), .nils, I 1, .nils], .agg [I 1, .nils, I 1, .nils]] (· = .agg [I (-1), .nils, I 1, .nils]) :=
  closed_pureF (S := noS) (J := hookJ) (fuel := 1000) (n := 40) tbl_ok mixed (fun _ => hookJ_ok) (by kernel_rfl) (by kernel_rfl)
theorem m_mul8 {B : Nat} : Pure Tryz.prog B 119 [.agg [I (-1), .nils, I 2, .nils], .agg [I (-4), .nils, I 3, .nils]] (· = .agg [I 2, .nils, I 3, .nils]) :=
  closed_pureF (S := noS) (J := hookJ) (fuel := 1000) (n := 40) tbl_ok mixed (fun _ => hookJ_ok) (by kernel_rfl) (by kernel_rfl)
theorem m_mul9 {B : Nat} : Pure Tryz.prog B 119 [.agg [I (-1), .nils, I 2, .nils], .agg [I (-1), .nils, I 3, .nils]] (· = .agg [I 1, .nils, I 6, .nils]) :=
  closed_pureF (S := noS) (J := hookJ) (fuel := 1000) (n := 40) tbl_ok mixed (fun _ => hookJ_ok) (by kernel_rfl) (by kernel_rfl)
theorem m_mul10 {B : Nat} : Pure Tryz.prog B 119 [.agg [I (-1), .nils, I 2, .nils], .agg [I 2, .nils, I 3, .nils]] (· = .agg [I (-1), .nils, I 3, .nils]) :=
  closed_pureF (S := noS) (J := hookJ) (fuel := 1000) (n := 40) tbl_ok mixed (fun _ => hookJ_ok) (by kernel_rfl) (by kernel_rfl)
theorem m_mul11 {B : Nat} : Pure Tryz.prog B 119 [.agg [I (-1), .nils, I 2, .nils], .agg [I 1, .nils, I 1, .nils]] (· = .agg [I (-1), .nils, I 2, .nils]) :=
  closed_pureF (S := noS) (J := hookJ) (fuel := 1000) (n := 40) tbl_ok mixed (fun _ => hookJ_ok) (by kernel_rfl) (by kernel_rfl)
theorem m_mul12 {B : Nat} : Pure Tryz.prog B 119 [.agg [I 0, .nils, I 1, .nils], .agg [I (-2), .nils, I 1, .nils]] (· = .agg [I 0, .nils, I 1, .nils]) :=
  closed_pureF (S := noS) (J := hookJ) (fuel := 1000) (n := 40) tbl_ok mixed (fun _ => hookJ_ok) (by kernel_rfl) (by kernel_rfl)
theorem m_mul13 {B : Nat} : Pure Tryz.prog B 119 [.agg [I 0, .nils, I 1, .nils], .agg [I (-1), .nils, I 1, .nils]] (· = .agg [I 0, .nils, I 1, .nils]) :=
  closed_pureF (S := noS) (J := hookJ) (fuel := 1000) (n := 40) tbl_ok mixed (fun _ => hookJ_ok) (by kernel_rfl) (by kernel_rfl)
theorem m_mul14 {B : Nat} : Pure Tryz.prog B 119 [.agg [I 0, .nils, I 1, .nils], .agg [I (-1), .nils, I 2, .nils]] (· = .agg [I 0, .nils, I 1, .nils]) :=
  closed_pureF (S := noS) (J := hookJ) (fuel := 1000) (n := 40) tbl_ok mixed (fun _ => hookJ_ok) (by kernel_rfl) (by kernel_rfl)
theorem m_mul15 {B : Nat} : Pure Tryz.prog B 119 [.agg [I 0, .nils, I 1, .nils], .agg [I 1, .nils, I 2, .nils]] (· = .agg [I 0, .nils, I 1, .nils]) :=
  closed_pureF (S := noS) (J := hookJ) (fuel := 1000) (n := 40) tbl_ok mixed (fun _ => hookJ_ok) (by kernel_rfl) (by kernel_rfl)
theorem m_mul16 {B : Nat} : Pure Tryz.prog B 119 [.agg [I 0, .nils, I 1, .nils], .agg [I 1, .nils, I 1, .nils]] (· = .agg [I 0, .nils, I 1, .nils]) :=
  closed_pureF (S := noS) (J := hookJ) (fuel := 1000) (n := 40) tbl_ok mixed (fun _ => hookJ_ok) (by kernel_rfl) (by kernel_rfl)
theorem m_mul17 {B : Nat} : Pure Tryz.prog B 119 [.agg [I 0, .nils, I 1, .nils], .agg [I 2, .nils, I 1, .nils]] (· = .agg [I 0, .nils, I 1, .nils]) :=
  closed_pureF (S := noS) (J := hookJ) (fuel := 1000) (n := 40) tbl_ok mixed (fun _ => hookJ_ok) (by kernel_rfl) (by kernel_rfl)
theorem m_mul18 {B : Nat} : Pure Tryz.prog B 119 [.agg [I 1, .nils, I 2, .nils], .agg [I (-4), .nils, I 3, .nils]] (· = .agg [I (-2), .nils, I 3, .nils]) :=
  closed_pureF (S := noS) (J := hookJ) (fuel := 1000) (n := 40) tbl_ok mixed (fun _ => hookJ_ok) (by kernel_rfl) (by kernel_rfl)
theorem m_mul19 {B : Nat} : Pure Tryz.prog B 119 [.agg [I 1, .nils, I 2, .nils], .agg [I (-2), .nils, I 3, .nils]] (· = .agg [I (-1), .nils, I 3, .nils]) :=
  closed_pureF (S := noS) (J := hookJ) (fuel := 1000) (n := 40) tbl_ok mixed (fun _ => hookJ_ok) (by kernel_rfl) (by kernel_rfl)
theorem m_mul20 {B : Nat} : Pure Tryz.prog B 119 [.agg [I 1, .nils, I 2, .nils], .agg [I (-1), .nils, I 3, .nils]] (· = .agg [I (-1), .nils, I 6, .nils]) :=
  closed_pureF (S := noS) (J := hookJ) (fuel := 1000) (n := 40) tbl_ok mixed (fun _ => hookJ_ok) (by kernel_rfl) (by kernel_rfl)
theorem m_mul21 {B : Nat} : Pure Tryz.prog B 119 [.agg [I 1, .nils, I 2, .nils], .agg [I 2, .nils, I 3, .nils]] (· = .agg [I 1, .nils, I 3, .nils]) :=
  closed_pureF (S := noS) (J := hookJ) (fuel := 1000) (n := 40) tbl_ok mixed (fun _ => hookJ_ok) (by kernel_rfl) (by kernel_rfl)
theorem m_mul22 {B : Nat} : Pure Tryz.prog B 119 [.agg [I 1, .nils, I 2, .nils], .agg [I 1, .nils, I 1, .nils]] (· = .agg [I 1, .nils, I 2, .nils]) :=
  closed_pureF (S := noS) (J := hookJ) (fuel := 1000) (n := 40) tbl_ok mixed (fun _ => hookJ_ok) (by kernel_rfl) (by kernel_rfl)
theorem m_mul23 {B : Nat} : Pure Tryz.prog B 119 [.agg [I 1, .nils, I 1, .nils], .agg [I (-2), .nils, I 1, .nils]] (· = .agg [I (-2), .nils, I 1, .nils]) :=
  closed_pureF (S := noS) (J := hookJ) (fuel := 1000) (n := 40) tbl_ok mixed (fun _ => hookJ_ok) (by kernel_rfl) (by kernel_rfl)
theorem m_mul24 {B : Nat} : Pure Tryz.prog B 119 [.agg [I 1, .nils, I 1, .nils], .agg [I (-4), .nils, I 3, .nils]] (· = .agg [I (-4), .nils, I 3, .nils]) :=
  closed_pureF (S := noS) (J := hookJ) (fuel := 1000) (n := 40) tbl_ok mixed (fun _ => hookJ_ok) (by kernel_rfl) (by kernel_rfl)
theorem m_mul25 {B : Nat} : Pure Tryz.prog B 119 [.agg [I 1, .nils, I 1, .nils], .agg [I (-1), .nils, I 1, .nils]] (· = .agg [I (-1), .nils, I 1, .nils]) :=
  closed_pureF (S := noS) (J := hookJ) (fuel := 1000) (n := 40) tbl_ok mixed (fun _ => hookJ_ok) (by kernel_rfl) (by kernel_rfl)
theorem m_mul26 {B : Nat} : Pure Tryz.prog B 119 [.agg [I 1, .nils, I 1, .nils], .agg [I (-1), .nils, I 2, .nils]] (· = .agg [I (-1), .nils, I 2, .nils]) :=
  closed_pureF (S := noS) (J := hookJ) (fuel := 1000) (n := 40) tbl_ok mixed (fun _ => hookJ_ok) (by kernel_rfl) (by kernel_rfl)
theorem m_mul27 {B : Nat} : Pure Tryz.prog B 119 [.agg [I 1, .nils, I 1, .nils], .agg [I (-1), .nils, I 3, .nils]] (· = .agg [I (-1), .nils, I 3, .nils]) :=
  closed_pureF (S := noS) (J := hookJ) (fuel := 1000) (n := 40) tbl_ok mixed (fun _ => hookJ_ok) (by kernel_rfl) (by kernel_rfl)
theorem m_mul28 {B : Nat} : Pure Tryz.prog B 119 [.agg [I 1, .nils, I 1, .nils], .agg [I 1, .nils, I 2, .nils]] (· = .agg [I 1, .nils, I 2, .nils]) :=
  closed_pureF (S := noS) (J := hookJ) (fuel := 1000) (n := 40) tbl_ok mixed (fun _ => hookJ_ok) (by kernel_rfl) (by kernel_rfl)
theorem m_mul29 {B : Nat} : Pure Tryz.prog B 119 [.agg [I 1, .nils, I 1, .nils], .agg [I 2, .nils, I 3, .nils]] (· = .agg [I 2, .nils, I 3, .nils]) :=
  closed_pureF (S := noS) (J := hookJ) (fuel := 1000) (n := 40) tbl_ok mixed (fun _ => hookJ_ok) (by kernel_rfl) (by kernel_rfl)
theorem m_mul30 {B : Nat} : Pure Tryz.prog B 119 [.agg [I 1, .nils, I 1, .nils], .agg [I 1, .nils, I 1, .nils]] (· = .agg [I 1, .nils, I 1, .nils]) :=
  closed_pureF (S := noS) (J := hookJ) (fuel := 1000) (n := 40) tbl_ok mixed (fun _ => hookJ_ok) (by kernel_rfl) (by kernel_rfl)
theorem m_mul31 {B : Nat} : Pure Tryz.prog B 119 [.agg [I 1, .nils, I 1, .nils], .agg [I 2, .nils, I 1, .nils]] (· = .agg [I 2, .nils, I 1, .nils]) :=
  closed_pureF (S := noS) (J := hookJ) (fuel := 1000) (n := 40) tbl_ok mixed (fun _ => hookJ_ok) (by kernel_rfl) (by kernel_rfl)
theorem m_mul32 {B : Nat} : Pure Tryz.prog B 119 [.agg [I 2, .nils, I 1, .nils], .agg [I (-2), .nils, I 3, .nils]] (· = .agg [I (-4), .nils, I 3, .nils]) :=
  closed_pureF (S := noS) (J := hookJ) (fuel := 1000) (n := 40) tbl_ok mixed (fun _ => hookJ_ok) (by kernel_rfl) (by kernel_rfl)
theorem m_mul33 {B : Nat} : Pure Tryz.prog B 119 [.agg [I 2, .nils, I 1, .nils], .agg [I 1, .nils, I 2, .nils]] (· = .agg [I 1, .nils, I 1, .nils]) :=
  closed_pureF (S := noS) (J := hookJ) (fuel := 1000) (n := 40) tbl_ok mixed (fun _ => hookJ_ok) (by kernel_rfl) (by kernel_rfl)
theorem m_mul34 {B : Nat} : Pure Tryz.prog B 119 [.agg [I 2, .nils, I 1, .nils], .agg [I 1, .nils, I 1, .nils]] (· = .agg [I 2, .nils, I 1, .nils]) :=
  closed_pureF (S := noS) (J := hookJ) (fuel := 1000) (n := 40) tbl_ok mixed (fun _ => hookJ_ok) (by kernel_rfl) (by kernel_rfl)
theorem m_mul35 {B : Nat} : Pure Tryz.prog B 119 [.agg [I 3, .nils, I 1, .nils], .agg [I 0, .nils, I 1, .nils]] (· = .agg [I 0, .nils, I 1, .nils]) :=
  closed_pureF (S := noS) (J := hookJ) (fuel := 1000) (n := 40) tbl_ok mixed (fun _ => hookJ_ok) (by kernel_rfl) (by kernel_rfl)
theorem m_mul36 {B : Nat} : Pure Tryz.prog B 119 [.agg [I 3, .nils, I 1, .nils], .agg [I 1, .nils, I 1, .nils]] (· = .agg [I 3, .nils, I 1, .nils]) :=
  closed_pureF (S := noS) (J := hookJ) (fuel := 1000) (n := 40) tbl_ok mixed (fun _ => hookJ_ok) (by kernel_rfl) (by kernel_rfl)
noncomputable def t_mul : List (List AV × AV) := ([.agg [I (-2), .nils, I 1, .nils], .agg [I 1, .nils, I 2, .nils]], .agg [I (-1), .nils, I 1, .nils]) :: ([.agg [I (-2), .nils, I 1, .nils], .agg [I 1, .nils, I 1, .nils]], .agg [I (-2), .nils, I 1, .nils]) :: ([.agg [I (-3), .nils, I 2, .nils], .agg [I (-2), .nils, I 3, .nils]], .agg [I 1, .nils, I 1, .nils]) :: ([.agg [I (-1), .nils, I 1, .nils], .agg [I (-1), .nils, I 1, .nils]], .agg [I 1, .nils, I 1, .nils]) :: ([.agg [I (-1), .nils, I 1, .nils], .agg [I (-2), .nils, I 3, .nils]], .agg [I 2, .nils, I 3, .nils]) :: ([.agg [I (-1), .nils, I 1, .nils], .agg [I (-1), .nils, I 2, .nils]], .agg [I 1, .nils, I 2, .nils]) :: ([.agg [I (-1), .nils, I 1, .nils], .agg [I 1, .nils, I 2, .nils]], .agg [I (-1), .nils, I 2, .nils]) :: ([.agg [I (-1), .nils, I 1, .nils], .agg [I 1, .nils, I 1, .nils]], .agg [I (-1), .nils, I 1, .nils]) :: ([.agg [I (-1), .nils, I 2, .nils], .agg [I (-4), .nils, I 3, .nils]], .agg [I 2, .nils, I 3, .nils]) :: ([.agg [I (-1), .nils, I 2, .nils], .agg [I (-1), .nils, I 3, .nils]], .agg [I 1, .nils, I 6, .nils]) :: ([.agg [I (-1), .nils, I 2, .nils], .agg [I 2, .nils, I 3, .nils]], .agg [I (-1), .nils, I 3, .nils]) :: ([.agg [I (-1), .nils, I 2, .nils], .agg [I 1, .nils, I 1, .nils]], .agg [I (-1), .nils, I 2, .nils]) :: ([.agg [I 0, .nils, I 1, .nils], .agg [I (-2), .nils, I 1, .nils]], .agg [I 0, .nils, I 1, .nils]) :: ([.agg [I 0, .nils, I 1, .nils], .agg [I (-1), .nils, I 1, .nils]], .agg [I 0, .nils, I 1, .nils]) :: ([.agg [I 0, .nils, I 1, .nils], .agg [I (-1), .nils, I 2, .nils]], .agg [I 0, .nils, I 1, .nils]) :: ([.agg [I 0, .nils, I 1, .nils], .agg [I 1, .nils, I 2, .nils]], .agg [I 0, .nils, I 1, .nils]) :: ([.agg [I 0, .nils, I 1, .nils], .agg [I 1, .nils, I 1, .nils]], .agg [I 0, .nils, I 1, .nils]) :: ([.agg [I 0, .nils, I 1, .nils], .agg [I 2, .nils, I 1, .nils]], .agg [I 0, .nils, I 1, .nils]) :: ([.agg [I 1, .nils, I 2, .nils], .agg [I (-4), .nils, I 3, .nils]], .agg [I (-2), .nils, I 3, .nils]) :: ([.agg [I 1, .nils, I 2, .nils], .agg [I (-2), .nils, I 3, .nils]], .agg [I (-1), .nils, I 3, .nils]) :: ([.agg [I 1, .nils, I 2, .nils], .agg [I (-1), .nils, I 3, .nils]], .agg [I (-1), .nils, I 6, .nils]) :: ([.agg [I 1, .nils, I 2, .nils], .agg [I 2, .nils, I 3, .nils]], .agg [I 1, .nils, I 3, .nils]) :: ([.agg [I 1, .nils, I 2, .nils], .agg [I 1, .nils, I 1, .nils]], .agg [I 1, .nils, I 2, .nils]) :: ([.agg [I 1, .nils, I 1, .nils], .agg [I (-2), .nils, I 1, .nils]], .agg [I (-2), .nils, I 1, .nils]) :: ([.agg [I 1, .nils, I 1, .nils], .agg [I (-4), .nils, I 3, .nils]], .agg [I (-4), .nils, I 3, .nils]) :: ([.agg [I 1, .nils, I 1, .nils], .agg [I (-1), .nils, I 1, .nils]], .agg [I (-1), .nils, I 1, .nils]) :: ([.agg [I 1, .nils, I 1, .nils], .agg [I (-1), .nils, I 2, .nils]], .agg [I (-1), .nils, I 2, .nils]) :: ([.agg [I 1, .nils, I 1, .nils], .agg [I (-1), .nils, I 3, .nils]], .agg [I (-1), .nils, I 3, .nils]) :: ([.agg [I 1, .nils, I 1, .nils], .agg [I 1, .nils, I 2, .nils]], .agg [I 1, .nils, I 2, .nils]) :: ([.agg [I 1, .nils, I 1, .nils], .agg [I 2, .nils, I 3, .nils]], .agg [I 2, .nils, I 3, .nils]) :: ([.agg [I 1, .nils, I 1, .nils], .agg [I 1, .nils, I 1, .nils]], .agg [I 1, .nils, I 1, .nils]) :: ([.agg [I 1, .nils, I 1, .nils], .agg [I 2, .nils, I 1, .nils]], .agg [I 2, .nils, I 1, .nils]) :: ([.agg [I 2, .nils, I 1, .nils], .agg [I (-2), .nils, I 3, .nils]], .agg [I (-4), .nils, I 3, .nils]) :: ([.agg [I 2, .nils, I 1, .nils], .agg [I 1, .nils, I 2, .nils]], .agg [I 1, .nils, I 1, .nils]) :: ([.agg [I 2, .nils, I 1, .nils], .agg [I 1, .nils, I 1, .nils]], .agg [I 2, .nils, I 1, .nils]) :: ([.agg [I 3, .nils, I 1, .nils], .agg [I 0, .nils, I 1, .nils]], .agg [I 0, .nils, I 1, .nils]) :: ([.agg [I 3, .nils, I 1, .nils], .agg [I 1, .nils, I 1, .nils]], .agg [I 3, .nils, I 1, .nils]) :: []
theorem t_mul_ok : MemoOk Tryz.prog 119 t_mul := List.forall_mem_cons.2 ⟨fun _ => m_mul0, List.forall_mem_cons.2 ⟨fun _ => m_mul1, List.forall_mem_cons.2 ⟨fun _ => m_mul2, List.forall_mem_cons.2 ⟨fun _ => m_mul3, List.forall_mem_cons.2 ⟨fun _ => m_mul4, List.forall_mem_cons.2 ⟨fun _ => m_mul5, List.forall_mem_cons.2 ⟨fun _ => m_mul6, List.forall_mem_cons.2 ⟨fun _ => m_mul7, List.forall_mem_cons.2 ⟨fun _ => m_mul8, List.forall_mem_cons.2 ⟨fun _ => m_mul9, List.forall_mem_cons.2 ⟨fun _ => m_mul10, List.forall_mem_cons.2 ⟨fun _ => m_mul11, List.forall_mem_cons.2 ⟨fun _ => m_mul12, List.forall_mem_cons.2 ⟨fun _ => m_mul13, List.forall_mem_cons.2 ⟨fun _ => m_mul14, List.forall_mem_cons.2 ⟨fun _ => m_mul15, List.forall_mem_cons.2 ⟨fun _ => m_mul16, List.forall_mem_cons.2 ⟨fun _ => m_mul17, List.forall_mem_cons.2 ⟨fun _ => m_mul18, List.forall_mem_cons.2 ⟨fun _ => m_mul19, List.forall_mem_cons.2 ⟨fun _ => m_mul20, List.forall_mem_cons.2 ⟨fun _ => m_mul21, List.forall_mem_cons.2 ⟨fun _ => m_mul22, List.forall_mem_cons.2 ⟨fun _ => m_mul23, List.forall_mem_cons.2 ⟨fun _ => m_mul24, List.forall_mem_cons.2 ⟨fun _ => m_mul25, List.forall_mem_cons.2 ⟨fun _ => m_mul26, List.forall_mem_cons.2 ⟨fun _ => m_mul27, List.forall_mem_cons.2 ⟨fun _ => m_mul28, List.forall_mem_cons.2 ⟨fun _ => m_mul29, List.forall_mem_cons.2 ⟨fun _ => m_mul30, List.forall_mem_cons.2 ⟨fun _ => m_mul31, List.forall_mem_cons.2 ⟨fun _ => m_mul32, List.forall_mem_cons.2 ⟨fun _ => m_mul33, List.forall_mem_cons.2 ⟨fun _ => m_mul34, List.forall_mem_cons.2 ⟨fun _ => m_mul35, List.forall_mem_cons.2 ⟨fun _ => m_mul36, fun _ h => by cases h⟩⟩⟩⟩⟩⟩⟩⟩⟩⟩⟩⟩⟩⟩⟩⟩⟩⟩⟩⟩⟩⟩⟩⟩⟩⟩⟩⟩⟩⟩⟩⟩⟩⟩⟩⟩⟩
theorem m_sub0 {B : Nat} : Pure Tryz.prog B 192 [.agg [I (-2), .nils, I 1, .nils], .agg [I (-1), .nils, I 1, .nils]] (· = .agg [I (-1), .nils, I 1, .nils]) :=
  closed_pureF (S := noS) (J := hookJ) (fuel := 1000) (n := 40) tbl_ok mixed (fun _ => hookJ_ok) (by kernel_rfl) (by kernel_rfl)
theorem m_sub1 {B : Nat} : Pure Tryz.prog B 192 [.agg [I (-2), .nils, I 1, .nils], .agg [I 0, .nils, I 1, .nils]] (· = .agg [I (-2), .nils, I 1, .nils]) :=
  closed_pureF (S := noS) (J := hookJ) (fuel := 1000) (n := 40) tbl_ok mixed (fun _ => hookJ_ok) (by kernel_rfl) (by kernel_rfl)
theorem m_sub2 {B : Nat} : Pure Tryz.prog B 192 [.agg [I (-1), .nils, I 1, .nils], .agg [I (-2), .nils, I 1, .nils]] (· = .agg [I 1, .nils, I 1, .nils]) :=
  closed_pureF (S := noS) (J := hookJ) (fuel := 1000) (n := 40) tbl_ok mixed (fun _ => hookJ_ok) (by kernel_rfl) (by kernel_rfl)
theorem m_sub3 {B : Nat} : Pure Tryz.prog B 192 [.agg [I (-1), .nils, I 1, .nils], .agg [I (-4), .nils, I 3, .nils]] (· = .agg [I 1, .nils, I 3, .nils]) :=
  closed_pureF (S := noS) (J := hookJ) (fuel := 1000) (n := 40) tbl_ok mixed (fun _ => hookJ_ok) (by kernel_rfl) (by kernel_rfl)
theorem m_sub4 {B : Nat} : Pure Tryz.prog B 192 [.agg [I (-1), .nils, I 1, .nils], .agg [I (-1), .nils, I 1, .nils]] (· = .agg [I 0, .nils, I 1, .nils]) :=
  closed_pureF (S := noS) (J := hookJ) (fuel := 1000) (n := 40) tbl_ok mixed (fun _ => hookJ_ok) (by kernel_rfl) (by kernel_rfl)
theorem m_sub5 {B : Nat} : Pure Tryz.prog B 192 [.agg [I (-1), .nils, I 1, .nils], .agg [I (-2), .nils, I 3, .nils]] (· = .agg [I (-1), .nils, I 3, .nils]) :=
  closed_pureF (S := noS) (J := hookJ) (fuel := 1000) (n := 40) tbl_ok mixed (fun _ => hookJ_ok) (by kernel_rfl) (by kernel_rfl)
theorem m_sub6 {B : Nat} : Pure Tryz.prog B 192 [.agg [I (-1), .nils, I 1, .nils], .agg [I (-1), .nils, I 2, .nils]] (· = .agg [I (-1), .nils, I 2, .nils]) :=
  closed_pureF (S := noS) (J := hookJ) (fuel := 1000) (n := 40) tbl_ok mixed (fun _ => hookJ_ok) (by kernel_rfl) (by kernel_rfl)
theorem m_sub7 {B : Nat} : Pure Tryz.prog B 192 [.agg [I (-1), .nils, I 1, .nils], .agg [I (-1), .nils, I 3, .nils]] (· = .agg [I (-2), .nils, I 3, .nils]) :=
  closed_pureF (S := noS) (J := hookJ) (fuel := 1000) (n := 40) tbl_ok mixed (fun _ => hookJ_ok) (by kernel_rfl) (by kernel_rfl)
theorem m_sub8 {B : Nat} : Pure Tryz.prog B 192 [.agg [I (-1), .nils, I 1, .nils], .agg [I 0, .nils, I 1, .nils]] (· = .agg [I (-1), .nils, I 1, .nils]) :=
  closed_pureF (S := noS) (J := hookJ) (fuel := 1000) (n := 40) tbl_ok mixed (fun _ => hookJ_ok) (by kernel_rfl) (by kernel_rfl)
theorem m_sub9 {B : Nat} : Pure Tryz.prog B 192 [.agg [I (-1), .nils, I 1, .nils], .agg [I 1, .nils, I 3, .nils]] (· = .agg [I (-4), .nils, I 3, .nils]) :=
  closed_pureF (S := noS) (J := hookJ) (fuel := 1000) (n := 40) tbl_ok mixed (fun _ => hookJ_ok) (by kernel_rfl) (by kernel_rfl)
theorem m_sub10 {B : Nat} : Pure Tryz.prog B 192 [.agg [I (-1), .nils, I 1, .nils], .agg [I 1, .nils, I 2, .nils]] (· = .agg [I (-3), .nils, I 2, .nils]) :=
  closed_pureF (S := noS) (J := hookJ) (fuel := 1000) (n := 40) tbl_ok mixed (fun _ => hookJ_ok) (by kernel_rfl) (by kernel_rfl)
theorem m_sub11 {B : Nat} : Pure Tryz.prog B 192 [.agg [I (-1), .nils, I 1, .nils], .agg [I 1, .nils, I 1, .nils]] (· = .agg [I (-2), .nils, I 1, .nils]) :=
  closed_pureF (S := noS) (J := hookJ) (fuel := 1000) (n := 40) tbl_ok mixed (fun _ => hookJ_ok) (by kernel_rfl) (by kernel_rfl)
theorem m_sub12 {B : Nat} : Pure Tryz.prog B 192 [.agg [I (-1), .nils, I 2, .nils], .agg [I (-1), .nils, I 2, .nils]] (· = .agg [I 0, .nils, I 1, .nils]) :=
  closed_pureF (S := noS) (J := hookJ) (fuel := 1000) (n := 40) tbl_ok mixed (fun _ => hookJ_ok) (by kernel_rfl) (by kernel_rfl)
theorem m_sub13 {B : Nat} : Pure Tryz.prog B 192 [.agg [I (-1), .nils, I 2, .nils], .agg [I (-1), .nils, I 6, .nils]] (· = .agg [I (-1), .nils, I 3, .nils]) :=
  closed_pureF (S := noS) (J := hookJ) (fuel := 1000) (n := 40) tbl_ok mixed (fun _ => hookJ_ok) (by kernel_rfl) (by kernel_rfl)
theorem m_sub14 {B : Nat} : Pure Tryz.prog B 192 [.agg [I (-1), .nils, I 2, .nils], .agg [I 1, .nils, I 6, .nils]] (· = .agg [I (-2), .nils, I 3, .nils]) :=
  closed_pureF (S := noS) (J := hookJ) (fuel := 1000) (n := 40) tbl_ok mixed (fun _ => hookJ_ok) (by kernel_rfl) (by kernel_rfl)
theorem m_sub15 {B : Nat} : Pure Tryz.prog B 192 [.agg [I 0, .nils, I 1, .nils], .agg [I (-2), .nils, I 1, .nils]] (· = .agg [I 2, .nils, I 1, .nils]) :=
  closed_pureF (S := noS) (J := hookJ) (fuel := 1000) (n := 40) tbl_ok mixed (fun _ => hookJ_ok) (by kernel_rfl) (by kernel_rfl)
theorem m_sub16 {B : Nat} : Pure Tryz.prog B 192 [.agg [I 0, .nils, I 1, .nils], .agg [I (-1), .nils, I 1, .nils]] (· = .agg [I 1, .nils, I 1, .nils]) :=
  closed_pureF (S := noS) (J := hookJ) (fuel := 1000) (n := 40) tbl_ok mixed (fun _ => hookJ_ok) (by kernel_rfl) (by kernel_rfl)
theorem m_sub17 {B : Nat} : Pure Tryz.prog B 192 [.agg [I 0, .nils, I 1, .nils], .agg [I (-2), .nils, I 3, .nils]] (· = .agg [I 2, .nils, I 3, .nils]) :=
  closed_pureF (S := noS) (J := hookJ) (fuel := 1000) (n := 40) tbl_ok mixed (fun _ => hookJ_ok) (by kernel_rfl) (by kernel_rfl)
theorem m_sub18 {B : Nat} : Pure Tryz.prog B 192 [.agg [I 0, .nils, I 1, .nils], .agg [I (-1), .nils, I 2, .nils]] (· = .agg [I 1, .nils, I 2, .nils]) :=
  closed_pureF (S := noS) (J := hookJ) (fuel := 1000) (n := 40) tbl_ok mixed (fun _ => hookJ_ok) (by kernel_rfl) (by kernel_rfl)
theorem m_sub19 {B : Nat} : Pure Tryz.prog B 192 [.agg [I 0, .nils, I 1, .nils], .agg [I (-1), .nils, I 3, .nils]] (· = .agg [I 1, .nils, I 3, .nils]) :=
  closed_pureF (S := noS) (J := hookJ) (fuel := 1000) (n := 40) tbl_ok mixed (fun _ => hookJ_ok) (by kernel_rfl) (by kernel_rfl)
theorem m_sub20 {B : Nat} : Pure Tryz.prog B 192 [.agg [I 0, .nils, I 1, .nils], .agg [I 0, .nils, I 1, .nils]] (· = .agg [I 0, .nils, I 1, .nils]) :=
  closed_pureF (S := noS) (J := hookJ) (fuel := 1000) (n := 40) tbl_ok mixed (fun _ => hookJ_ok) (by kernel_rfl) (by kernel_rfl)
theorem m_sub21 {B : Nat} : Pure Tryz.prog B 192 [.agg [I 0, .nils, I 1, .nils], .agg [I 1, .nils, I 3, .nils]] (· = .agg [I (-1), .nils, I 3, .nils]) :=
  closed_pureF (S := noS) (J := hookJ) (fuel := 1000) (n := 40) tbl_ok mixed (fun _ => hookJ_ok) (by kernel_rfl) (by kernel_rfl)
theorem m_sub22 {B : Nat} : Pure Tryz.prog B 192 [.agg [I 0, .nils, I 1, .nils], .agg [I 1, .nils, I 2, .nils]] (· = .agg [I (-1), .nils, I 2, .nils]) :=
  closed_pureF (S := noS) (J := hookJ) (fuel := 1000) (n := 40) tbl_ok mixed (fun _ => hookJ_ok) (by kernel_rfl) (by kernel_rfl)
theorem m_sub23 {B : Nat} : Pure Tryz.prog B 192 [.agg [I 0, .nils, I 1, .nils], .agg [I 2, .nils, I 3, .nils]] (· = .agg [I (-2), .nils, I 3, .nils]) :=
  closed_pureF (S := noS) (J := hookJ) (fuel := 1000) (n := 40) tbl_ok mixed (fun _ => hookJ_ok) (by kernel_rfl) (by kernel_rfl)
theorem m_sub24 {B : Nat} : Pure Tryz.prog B 192 [.agg [I 0, .nils, I 1, .nils], .agg [I 1, .nils, I 1, .nils]] (· = .agg [I (-1), .nils, I 1, .nils]) :=
  closed_pureF (S := noS) (J := hookJ) (fuel := 1000) (n := 40) tbl_ok mixed (fun _ => hookJ_ok) (by kernel_rfl) (by kernel_rfl)
theorem m_sub25 {B : Nat} : Pure Tryz.prog B 192 [.agg [I 0, .nils, I 1, .nils], .agg [I 2, .nils, I 1, .nils]] (· = .agg [I (-2), .nils, I 1, .nils]) :=
  closed_pureF (S := noS) (J := hookJ) (fuel := 1000) (n := 40) tbl_ok mixed (fun _ => hookJ_ok) (by kernel_rfl) (by kernel_rfl)
theorem m_sub26 {B : Nat} : Pure Tryz.prog B 192 [.agg [I 1, .nils, I 2, .nils], .agg [I 1, .nils, I 6, .nils]] (· = .agg [I 1, .nils, I 3, .nils]) :=
  closed_pureF (S := noS) (J := hookJ) (fuel := 1000) (n := 40) tbl_ok mixed (fun _ => hookJ_ok) (by kernel_rfl) (by kernel_rfl)
theorem m_sub27 {B : Nat} : Pure Tryz.prog B 192 [.agg [I 1, .nils, I 2, .nils], .agg [I 1, .nils, I 2, .nils]] (· = .agg [I 0, .nils, I 1, .nils]) :=
  closed_pureF (S := noS) (J := hookJ) (fuel := 1000) (n := 40) tbl_ok mixed (fun _ => hookJ_ok) (by kernel_rfl) (by kernel_rfl)
theorem m_sub28 {B : Nat} : Pure Tryz.prog B 192 [.agg [I 1, .nils, I 1, .nils], .agg [I (-1), .nils, I 1, .nils]] (· = .agg [I 2, .nils, I 1, .nils]) :=
  closed_pureF (S := noS) (J := hookJ) (fuel := 1000) (n := 40) tbl_ok mixed (fun _ => hookJ_ok) (by kernel_rfl) (by kernel_rfl)
theorem m_sub29 {B : Nat} : Pure Tryz.prog B 192 [.agg [I 1, .nils, I 1, .nils], .agg [I 0, .nils, I 1, .nils]] (· = .agg [I 1, .nils, I 1, .nils]) :=
  closed_pureF (S := noS) (J := hookJ) (fuel := 1000) (n := 40) tbl_ok mixed (fun _ => hookJ_ok) (by kernel_rfl) (by kernel_rfl)
theorem m_sub30 {B : Nat} : Pure Tryz.prog B 192 [.agg [I 1, .nils, I 1, .nils], .agg [I 1, .nils, I 2, .nils]] (· = .agg [I 1, .nils, I 2, .nils]) :=
  closed_pureF (S := noS) (J := hookJ) (fuel := 1000) (n := 40) tbl_ok mixed (fun _ => hookJ_ok) (by kernel_rfl) (by kernel_rfl)
theorem m_sub31 {B : Nat} : Pure Tryz.prog B 192 [.agg [I 1, .nils, I 1, .nils], .agg [I 1, .nils, I 1, .nils]] (· = .agg [I 0, .nils, I 1, .nils]) :=
  closed_pureF (S := noS) (J := hookJ) (fuel := 1000) (n := 40) tbl_ok mixed (fun _ => hookJ_ok) (by kernel_rfl) (by kernel_rfl)
theorem m_sub32 {B : Nat} : Pure Tryz.prog B 192 [.agg [I 2, .nils, I 1, .nils], .agg [I 0, .nils, I 1, .nils]] (· = .agg [I 2, .nils, I 1, .nils]) :=
  closed_pureF (S := noS) (J := hookJ) (fuel := 1000) (n := 40) tbl_ok mixed (fun _ => hookJ_ok) (by kernel_rfl) (by kernel_rfl)
theorem m_sub33 {B : Nat} : Pure Tryz.prog B 192 [.agg [I 2, .nils, I 1, .nils], .agg [I 1, .nils, I 1, .nils]] (· = .agg [I 1, .nils, I 1, .nils]) :=
  closed_pureF (S := noS) (J := hookJ) (fuel := 1000) (n := 40) tbl_ok mixed (fun _ => hookJ_ok) (by kernel_rfl) (by kernel_rfl)
noncomputable def t_sub : List (List AV × AV) := ([.agg [I (-2), .nils, I 1, .nils], .agg [I (-1), .nils, I 1, .nils]], .agg [I (-1), .nils, I 1, .nils]) :: ([.agg [I (-2), .nils, I 1, .nils], .agg [I 0, .nils, I 1, .nils]], .agg [I (-2), .nils, I 1, .nils]) :: ([.agg [I (-1), .nils, I 1, .nils], .agg [I (-2), .nils, I 1, .nils]], .agg [I 1, .nils, I 1, .nils]) :: ([.agg [I (-1), .nils, I 1, .nils], .agg [I (-4), .nils, I 3, .nils]], .agg [I 1, .nils, I 3, .nils]) :: ([.agg [I (-1), .nils, I 1, .nils], .agg [I (-1), .nils, I 1, .nils]], .agg [I 0, .nils, I 1, .nils]) :: ([.agg [I (-1), .nils, I 1, .nils], .agg [I (-2), .nils, I 3, .nils]], .agg [I (-1), .nils, I 3, .nils]) :: ([.agg [I (-1), .nils, I 1, .nils], .agg [I (-1), .nils, I 2, .nils]], .agg [I (-1), .nils, I 2, .nils]) :: ([.agg [I (-1), .nils, I 1, .nils], .agg [I (-1), .nils, I 3, .nils]], .agg [I (-2), .nils, I 3, .nils]) :: ([.agg [I (-1), .nils, I 1, .nils], .agg [I 0, .nils, I 1, .nils]], .agg [I (-1), .nils, I 1, .nils]) :: ([.agg [I (-1), .nils, I 1, .nils], .agg [I 1, .nils, I 3, .nils]], .agg [I (-4), .nils, I 3, .nils]) :: ([.agg [I (-1), .nils, I 1, .nils], .agg [I 1, .nils, I 2, .nils]], .agg [I (-3), .nils, I 2, .nils]) :: ([.agg [I (-1), .nils, I 1, .nils], .agg [I 1, .nils, I 1, .nils]], .agg [I (-2), .nils, I 1, .nils]) :: ([.agg [I (-1), .nils, I 2, .nils], .agg [I (-1), .nils, I 2, .nils]], .agg [I 0, .nils, I 1, .nils]) :: ([.agg [I (-1), .nils, I 2, .nils], .agg [I (-1), .nils, I 6, .nils]], .agg [I (-1), .nils, I 3, .nils]) :: ([.agg [I (-1), .nils, I 2, .nils], .agg [I 1, .nils, I 6, .nils]], .agg [I (-2), .nils, I 3, .nils]) :: ([.agg [I 0, .nils, I 1, .nils], .agg [I (-2), .nils, I 1, .nils]], .agg [I 2, .nils, I 1, .nils]) :: ([.agg [I 0, .nils, I 1, .nils], .agg [I (-1), .nils, I 1, .nils]], .agg [I 1, .nils, I 1, .nils]) :: ([.agg [I 0, .nils, I 1, .nils], .agg [I (-2), .nils, I 3, .nils]], .agg [I 2, .nils, I 3, .nils]) :: ([.agg [I 0, .nils, I 1, .nils], .agg [I (-1), .nils, I 2, .nils]], .agg [I 1, .nils, I 2, .nils]) :: ([.agg [I 0, .nils, I 1, .nils], .agg [I (-1), .nils, I 3, .nils]], .agg [I 1, .nils, I 3, .nils]) :: ([.agg [I 0, .nils, I 1, .nils], .agg [I 0, .nils, I 1, .nils]], .agg [I 0, .nils, I 1, .nils]) :: ([.agg [I 0, .nils, I 1, .nils], .agg [I 1, .nils, I 3, .nils]], .agg [I (-1), .nils, I 3, .nils]) :: ([.agg [I 0, .nils, I 1, .nils], .agg [I 1, .nils, I 2, .nils]], .agg [I (-1), .nils, I 2, .nils]) :: ([.agg [I 0, .nils, I 1, .nils], .agg [I 2, .nils, I 3, .nils]], .agg [I (-2), .nils, I 3, .nils]) :: ([.agg [I 0, .nils, I 1, .nils], .agg [I 1, .nils, I 1, .nils]], .agg [I (-1), .nils, I 1, .nils]) :: ([.agg [I 0, .nils, I 1, .nils], .agg [I 2, .nils, I 1, .nils]], .agg [I (-2), .nils, I 1, .nils]) :: ([.agg [I 1, .nils, I 2, .nils], .agg [I 1, .nils, I 6, .nils]], .agg [I 1, .nils, I 3, .nils]) :: ([.agg [I 1, .nils, I 2, .nils], .agg [I 1, .nils, I 2, .nils]], .agg [I 0, .nils, I 1, .nils]) :: ([.agg [I 1, .nils, I 1, .nils], .agg [I (-1), .nils, I 1, .nils]], .agg [I 2, .nils, I 1, .nils]) :: ([.agg [I 1, .nils, I 1, .nils], .agg [I 0, .nils, I 1, .nils]], .agg [I 1, .nils, I 1, .nils]) :: ([.agg [I 1, .nils, I 1, .nils], .agg [I 1, .nils, I 2, .nils]], .agg [I 1, .nils, I 2, .nils]) :: ([.agg [I 1, .nils, I 1, .nils], .agg [I 1, .nils, I 1, .nils]], .agg [I 0, .nils, I 1, .nils]) :: ([.agg [I 2, .nils, I 1, .nils], .agg [I 0, .nils, I 1, .nils]], .agg [I 2, .nils, I 1, .nils]) :: ([.agg [I 2, .nils, I 1, .nils], .agg [I 1, .nils, I 1, .nils]], .agg [I 1, .nils, I 1, .nils]) :: []
theorem t_sub_ok : MemoOk Tryz.prog 192 t_sub := List.forall_mem_cons.2 ⟨fun _ => m_sub0, List.forall_mem_cons.2 ⟨fun _ => m_sub1, List.forall_mem_cons.2 ⟨fun _ => m_sub2, List.forall_mem_cons.2 ⟨fun _ => m_sub3, List.forall_mem_cons.2 ⟨fun _ => m_sub4, List.forall_mem_cons.2 ⟨fun _ => m_sub5, List.forall_mem_cons.2 ⟨fun _ => m_sub6, List.forall_mem_cons.2 ⟨fun _ => m_sub7, List.forall_mem_cons.2 ⟨fun _ => m_sub8, List.forall_mem_cons.2 ⟨fun _ => m_sub9, List.forall_mem_cons.2 ⟨fun _ => m_sub10, List.forall_mem_cons.2 ⟨fun _ => m_sub11, List.forall_mem_cons.2 ⟨fun _ => m_sub12, List.forall_mem_cons.2 ⟨fun _ => m_sub13, List.forall_mem_cons.2 ⟨fun _ => m_sub14, List.forall_mem_cons.2 ⟨fun _ => m_sub15, List.forall_mem_cons.2 ⟨fun _ => m_sub16, List.forall_mem_cons.2 ⟨fun _ => m_sub17, List.forall_mem_cons.2 ⟨fun _ => m_sub18, List.forall_mem_cons.2 ⟨fun _ => m_sub19, List.forall_mem_cons.2 ⟨fun _ => m_sub20, List.forall_mem_cons.2 ⟨fun _ => m_sub21, List.forall_mem_cons.2 ⟨fun _ => m_sub22, List.forall_mem_cons.2 ⟨fun _ => m_sub23, List.forall_mem_cons.2 ⟨fun _ => m_sub24, List.forall_mem_cons.2 ⟨fun _ => m_sub25, List.forall_mem_cons.2 ⟨fun _ => m_sub26, List.forall_mem_cons.2 ⟨fun _ => m_sub27, List.forall_mem_cons.2 ⟨fun _ => m_sub28, List.forall_mem_cons.2 ⟨fun _ => m_sub29, List.forall_mem_cons.2 ⟨fun _ => m_sub30, List.forall_mem_cons.2 ⟨fun _ => m_sub31, List.forall_mem_cons.2 ⟨fun _ => m_sub32, List.forall_mem_cons.2 ⟨fun _ => m_sub33, fun _ h => by cases h⟩⟩⟩⟩⟩⟩⟩⟩⟩⟩⟩⟩⟩⟩⟩⟩⟩⟩⟩⟩⟩⟩⟩⟩⟩⟩⟩⟩⟩⟩⟩⟩⟩⟩
theorem m_inv0 {B : Nat} : Pure Tryz.prog B 112 [.agg [I (-3), .nils, I 2, .nils]] (· = .agg [I (-2), .nils, I 3, .nils]) :=
  closed_pureF (S := noS) (J := hookJ) (fuel := 1000) (n := 40) tbl_ok mixed (fun _ => hookJ_ok) (by kernel_rfl) (by kernel_rfl)
theorem m_inv1 {B : Nat} : Pure Tryz.prog B 112 [.agg [I (-1), .nils, I 1, .nils]] (· = .agg [I (-1), .nils, I 1, .nils]) :=
  closed_pureF (S := noS) (J := hookJ) (fuel := 1000) (n := 40) tbl_ok mixed (fun _ => hookJ_ok) (by kernel_rfl) (by kernel_rfl)
theorem m_inv2 {B : Nat} : Pure Tryz.prog B 112 [.agg [I 1, .nils, I 1, .nils]] (· = .agg [I 1, .nils, I 1, .nils]) :=
  closed_pureF (S := noS) (J := hookJ) (fuel := 1000) (n := 40) tbl_ok mixed (fun _ => hookJ_ok) (by kernel_rfl) (by kernel_rfl)
theorem m_inv3 {B : Nat} : Pure Tryz.prog B 112 [.agg [I 2, .nils, I 1, .nils]] (· = .agg [I 1, .nils, I 2, .nils]) :=
  closed_pureF (S := noS) (J := hookJ) (fuel := 1000) (n := 40) tbl_ok mixed (fun _ => hookJ_ok) (by kernel_rfl) (by kernel_rfl)
noncomputable def t_inv : List (List AV × AV) := ([.agg [I (-3), .nils, I 2, .nils]], .agg [I (-2), .nils, I 3, .nils]) :: ([.agg [I (-1), .nils, I 1, .nils]], .agg [I (-1), .nils, I 1, .nils]) :: ([.agg [I 1, .nils, I 1, .nils]], .agg [I 1, .nils, I 1, .nils]) :: ([.agg [I 2, .nils, I 1, .nils]], .agg [I 1, .nils, I 2, .nils]) :: []
theorem t_inv_ok : MemoOk Tryz.prog 112 t_inv := List.forall_mem_cons.2 ⟨fun _ => m_inv0, List.forall_mem_cons.2 ⟨fun _ => m_inv1, List.forall_mem_cons.2 ⟨fun _ => m_inv2, List.forall_mem_cons.2 ⟨fun _ => m_inv3, fun _ h => by cases h⟩⟩⟩⟩
theorem m_neg0 {B : Nat} : Pure Tryz.prog B 107 [.agg [I (-4), .nils, I 3, .nils]] (· = .agg [I 4, .nils, I 3, .nils]) :=
  closed_pureF (S := noS) (J := hookJ) (fuel := 1000) (n := 40) tbl_ok mixed (fun _ => hookJ_ok) (by kernel_rfl) (by kernel_rfl)
theorem m_neg1 {B : Nat} : Pure Tryz.prog B 107 [.agg [I (-1), .nils, I 1, .nils]] (· = .agg [I 1, .nils, I 1, .nils]) :=
  closed_pureF (S := noS) (J := hookJ) (fuel := 1000) (n := 40) tbl_ok mixed (fun _ => hookJ_ok) (by kernel_rfl) (by kernel_rfl)
theorem m_neg2 {B : Nat} : Pure Tryz.prog B 107 [.agg [I (-2), .nils, I 3, .nils]] (· = .agg [I 2, .nils, I 3, .nils]) :=
  closed_pureF (S := noS) (J := hookJ) (fuel := 1000) (n := 40) tbl_ok mixed (fun _ => hookJ_ok) (by kernel_rfl) (by kernel_rfl)
theorem m_neg3 {B : Nat} : Pure Tryz.prog B 107 [.agg [I (-1), .nils, I 3, .nils]] (· = .agg [I 1, .nils, I 3, .nils]) :=
  closed_pureF (S := noS) (J := hookJ) (fuel := 1000) (n := 40) tbl_ok mixed (fun _ => hookJ_ok) (by kernel_rfl) (by kernel_rfl)
theorem m_neg4 {B : Nat} : Pure Tryz.prog B 107 [.agg [I 0, .nils, I 1, .nils]] (· = .agg [I 0, .nils, I 1, .nils]) :=
  closed_pureF (S := noS) (J := hookJ) (fuel := 1000) (n := 40) tbl_ok mixed (fun _ => hookJ_ok) (by kernel_rfl) (by kernel_rfl)
theorem m_neg5 {B : Nat} : Pure Tryz.prog B 107 [.agg [I 1, .nils, I 3, .nils]] (· = .agg [I (-1), .nils, I 3, .nils]) :=
  closed_pureF (S := noS) (J := hookJ) (fuel := 1000) (n := 40) tbl_ok mixed (fun _ => hookJ_ok) (by kernel_rfl) (by kernel_rfl)
theorem m_neg6 {B : Nat} : Pure Tryz.prog B 107 [.agg [I 2, .nils, I 3, .nils]] (· = .agg [I (-2), .nils, I 3, .nils]) :=
  closed_pureF (S := noS) (J := hookJ) (fuel := 1000) (n := 40) tbl_ok mixed (fun _ => hookJ_ok) (by kernel_rfl) (by kernel_rfl)
theorem m_neg7 {B : Nat} : Pure Tryz.prog B 107 [.agg [I 1, .nils, I 1, .nils]] (· = .agg [I (-1), .nils, I 1, .nils]) :=
  closed_pureF (S := noS) (J := hookJ) (fuel := 1000) (n := 40) tbl_ok mixed (fun _ => hookJ_ok) (by kernel_rfl) (by kernel_rfl)
noncomputable def t_neg : List (List AV × AV) := ([.agg [I (-4), .nils, I 3, .nils]], .agg [I 4, .nils, I 3, .nils]) :: ([.agg [I (-1), .nils, I 1, .nils]], .agg [I 1, .nils, I 1, .nils]) :: ([.agg [I (-2), .nils, I 3, .nils]], .agg [I 2, .nils, I 3, .nils]) :: ([.agg [I (-1), .nils, I 3, .nils]], .agg [I 1, .nils, I 3, .nils]) :: ([.agg [I 0, .nils, I 1, .nils]], .agg [I 0, .nils, I 1, .nils]) :: ([.agg [I 1, .nils, I 3, .nils]], .agg [I (-1), .nils, I 3, .nils]) :: ([.agg [I 2, .nils, I 3, .nils]], .agg [I (-2), .nils, I 3, .nils]) :: ([.agg [I 1, .nils, I 1, .nils]], .agg [I (-1), .nils, I 1, .nils]) :: []
theorem t_neg_ok : MemoOk Tryz.prog 107 t_neg := List.forall_mem_cons.2 ⟨fun _ => m_neg0, List.forall_mem_cons.2 ⟨fun _ => m_neg1, List.forall_mem_cons.2 ⟨fun _ => m_neg2, List.forall_mem_cons.2 ⟨fun _ => m_neg3, List.forall_mem_cons.2 ⟨fun _ => m_neg4, List.forall_mem_cons.2 ⟨fun _ => m_neg5, List.forall_mem_cons.2 ⟨fun _ => m_neg6, List.forall_mem_cons.2 ⟨fun _ => m_neg7, fun _ h => by cases h⟩⟩⟩⟩⟩⟩⟩⟩
theorem m_add0 {B : Nat} : Pure Tryz.prog B 114 [.agg [I (-1), .nils, I 1, .nils], .agg [I 1, .nils, I 1, .nils]] (· = .agg [I 0, .nils, I 1, .nils]) :=
  closed_pureF (S := noS) (J := hookJ) (fuel := 1000) (n := 40) tbl_ok mixed (fun _ => hookJ_ok) (by kernel_rfl) (by kernel_rfl)
theorem m_add1 {B : Nat} : Pure Tryz.prog B 114 [.agg [I 0, .nils, I 1, .nils], .agg [I (-1), .nils, I 1, .nils]] (· = .agg [I (-1), .nils, I 1, .nils]) :=
  closed_pureF (S := noS) (J := hookJ) (fuel := 1000) (n := 40) tbl_ok mixed (fun _ => hookJ_ok) (by kernel_rfl) (by kernel_rfl)
theorem m_add2 {B : Nat} : Pure Tryz.prog B 114 [.agg [I 0, .nils, I 1, .nils], .agg [I 0, .nils, I 1, .nils]] (· = .agg [I 0, .nils, I 1, .nils]) :=
  closed_pureF (S := noS) (J := hookJ) (fuel := 1000) (n := 40) tbl_ok mixed (fun _ => hookJ_ok) (by kernel_rfl) (by kernel_rfl)
theorem m_add3 {B : Nat} : Pure Tryz.prog B 114 [.agg [I 0, .nils, I 1, .nils], .agg [I 1, .nils, I 1, .nils]] (· = .agg [I 1, .nils, I 1, .nils]) :=
  closed_pureF (S := noS) (J := hookJ) (fuel := 1000) (n := 40) tbl_ok mixed (fun _ => hookJ_ok) (by kernel_rfl) (by kernel_rfl)
theorem m_add4 {B : Nat} : Pure Tryz.prog B 114 [.agg [I 1, .nils, I 3, .nils], .agg [I 1, .nils, I 3, .nils]] (· = .agg [I 2, .nils, I 3, .nils]) :=
  closed_pureF (S := noS) (J := hookJ) (fuel := 1000) (n := 40) tbl_ok mixed (fun _ => hookJ_ok) (by kernel_rfl) (by kernel_rfl)
theorem m_add5 {B : Nat} : Pure Tryz.prog B 114 [.agg [I 2, .nils, I 3, .nils], .agg [I 4, .nils, I 3, .nils]] (· = .agg [I 2, .nils, I 1, .nils]) :=
  closed_pureF (S := noS) (J := hookJ) (fuel := 1000) (n := 40) tbl_ok mixed (fun _ => hookJ_ok) (by kernel_rfl) (by kernel_rfl)
theorem m_add6 {B : Nat} : Pure Tryz.prog B 114 [.agg [I 1, .nils, I 1, .nils], .agg [I (-1), .nils, I 1, .nils]] (· = .agg [I 0, .nils, I 1, .nils]) :=
  closed_pureF (S := noS) (J := hookJ) (fuel := 1000) (n := 40) tbl_ok mixed (fun _ => hookJ_ok) (by kernel_rfl) (by kernel_rfl)
theorem m_add7 {B : Nat} : Pure Tryz.prog B 114 [.agg [I 1, .nils, I 1, .nils], .agg [I (-2), .nils, I 3, .nils]] (· = .agg [I 1, .nils, I 3, .nils]) :=
  closed_pureF (S := noS) (J := hookJ) (fuel := 1000) (n := 40) tbl_ok mixed (fun _ => hookJ_ok) (by kernel_rfl) (by kernel_rfl)
theorem m_add8 {B : Nat} : Pure Tryz.prog B 114 [.agg [I 1, .nils, I 1, .nils], .agg [I 0, .nils, I 1, .nils]] (· = .agg [I 1, .nils, I 1, .nils]) :=
  closed_pureF (S := noS) (J := hookJ) (fuel := 1000) (n := 40) tbl_ok mixed (fun _ => hookJ_ok) (by kernel_rfl) (by kernel_rfl)
theorem m_add9 {B : Nat} : Pure Tryz.prog B 114 [.agg [I 1, .nils, I 1, .nils], .agg [I 1, .nils, I 3, .nils]] (· = .agg [I 4, .nils, I 3, .nils]) :=
  closed_pureF (S := noS) (J := hookJ) (fuel := 1000) (n := 40) tbl_ok mixed (fun _ => hookJ_ok) (by kernel_rfl) (by kernel_rfl)
theorem m_add10 {B : Nat} : Pure Tryz.prog B 114 [.agg [I 1, .nils, I 1, .nils], .agg [I 1, .nils, I 1, .nils]] (· = .agg [I 2, .nils, I 1, .nils]) :=
  closed_pureF (S := noS) (J := hookJ) (fuel := 1000) (n := 40) tbl_ok mixed (fun _ => hookJ_ok) (by kernel_rfl) (by kernel_rfl)
theorem m_add11 {B : Nat} : Pure Tryz.prog B 114 [.agg [I 1, .nils, I 1, .nils], .agg [I 4, .nils, I 3, .nils]] (· = .agg [I 7, .nils, I 3, .nils]) :=
  closed_pureF (S := noS) (J := hookJ) (fuel := 1000) (n := 40) tbl_ok mixed (fun _ => hookJ_ok) (by kernel_rfl) (by kernel_rfl)
theorem m_add12 {B : Nat} : Pure Tryz.prog B 114 [.agg [I 4, .nils, I 3, .nils], .agg [I 1, .nils, I 3, .nils]] (· = .agg [I 5, .nils, I 3, .nils]) :=
  closed_pureF (S := noS) (J := hookJ) (fuel := 1000) (n := 40) tbl_ok mixed (fun _ => hookJ_ok) (by kernel_rfl) (by kernel_rfl)
theorem m_add13 {B : Nat} : Pure Tryz.prog B 114 [.agg [I 5, .nils, I 3, .nils], .agg [I 1, .nils, I 3, .nils]] (· = .agg [I 2, .nils, I 1, .nils]) :=
  closed_pureF (S := noS) (J := hookJ) (fuel := 1000) (n := 40) tbl_ok mixed (fun _ => hookJ_ok) (by kernel_rfl) (by kernel_rfl)
theorem m_add14 {B : Nat} : Pure Tryz.prog B 114 [.agg [I 5, .nils, I 3, .nils], .agg [I 2, .nils, I 3, .nils]] (· = .agg [I 7, .nils, I 3, .nils]) :=
  closed_pureF (S := noS) (J := hookJ) (fuel := 1000) (n := 40) tbl_ok mixed (fun _ => hookJ_ok) (by kernel_rfl) (by kernel_rfl)
theorem m_add15 {B : Nat} : Pure Tryz.prog B 114 [.agg [I 2, .nils, I 1, .nils], .agg [I (-1), .nils, I 1, .nils]] (· = .agg [I 1, .nils, I 1, .nils]) :=
  closed_pureF (S := noS) (J := hookJ) (fuel := 1000) (n := 40) tbl_ok mixed (fun _ => hookJ_ok) (by kernel_rfl) (by kernel_rfl)
theorem m_add16 {B : Nat} : Pure Tryz.prog B 114 [.agg [I 2, .nils, I 1, .nils], .agg [I (-1), .nils, I 3, .nils]] (· = .agg [I 5, .nils, I 3, .nils]) :=
  closed_pureF (S := noS) (J := hookJ) (fuel := 1000) (n := 40) tbl_ok mixed (fun _ => hookJ_ok) (by kernel_rfl) (by kernel_rfl)
theorem m_add17 {B : Nat} : Pure Tryz.prog B 114 [.agg [I 2, .nils, I 1, .nils], .agg [I 0, .nils, I 1, .nils]] (· = .agg [I 2, .nils, I 1, .nils]) :=
  closed_pureF (S := noS) (J := hookJ) (fuel := 1000) (n := 40) tbl_ok mixed (fun _ => hookJ_ok) (by kernel_rfl) (by kernel_rfl)
theorem m_add18 {B : Nat} : Pure Tryz.prog B 114 [.agg [I 2, .nils, I 1, .nils], .agg [I 2, .nils, I 3, .nils]] (· = .agg [I 8, .nils, I 3, .nils]) :=
  closed_pureF (S := noS) (J := hookJ) (fuel := 1000) (n := 40) tbl_ok mixed (fun _ => hookJ_ok) (by kernel_rfl) (by kernel_rfl)
theorem m_add19 {B : Nat} : Pure Tryz.prog B 114 [.agg [I 2, .nils, I 1, .nils], .agg [I 1, .nils, I 1, .nils]] (· = .agg [I 3, .nils, I 1, .nils]) :=
  closed_pureF (S := noS) (J := hookJ) (fuel := 1000) (n := 40) tbl_ok mixed (fun _ => hookJ_ok) (by kernel_rfl) (by kernel_rfl)
theorem m_add20 {B : Nat} : Pure Tryz.prog B 114 [.agg [I 7, .nils, I 3, .nils], .agg [I 1, .nils, I 3, .nils]] (· = .agg [I 8, .nils, I 3, .nils]) :=
  closed_pureF (S := noS) (J := hookJ) (fuel := 1000) (n := 40) tbl_ok mixed (fun _ => hookJ_ok) (by kernel_rfl) (by kernel_rfl)
theorem m_add21 {B : Nat} : Pure Tryz.prog B 114 [.agg [I 7, .nils, I 3, .nils], .agg [I 2, .nils, I 3, .nils]] (· = .agg [I 3, .nils, I 1, .nils]) :=
  closed_pureF (S := noS) (J := hookJ) (fuel := 1000) (n := 40) tbl_ok mixed (fun _ => hookJ_ok) (by kernel_rfl) (by kernel_rfl)
theorem m_add22 {B : Nat} : Pure Tryz.prog B 114 [.agg [I 8, .nils, I 3, .nils], .agg [I (-2), .nils, I 3, .nils]] (· = .agg [I 2, .nils, I 1, .nils]) :=
  closed_pureF (S := noS) (J := hookJ) (fuel := 1000) (n := 40) tbl_ok mixed (fun _ => hookJ_ok) (by kernel_rfl) (by kernel_rfl)
theorem m_add23 {B : Nat} : Pure Tryz.prog B 114 [.agg [I 8, .nils, I 3, .nils], .agg [I (-1), .nils, I 3, .nils]] (· = .agg [I 7, .nils, I 3, .nils]) :=
  closed_pureF (S := noS) (J := hookJ) (fuel := 1000) (n := 40) tbl_ok mixed (fun _ => hookJ_ok) (by kernel_rfl) (by kernel_rfl)
theorem m_add24 {B : Nat} : Pure Tryz.prog B 114 [.agg [I 8, .nils, I 3, .nils], .agg [I 2, .nils, I 3, .nils]] (· = .agg [I 10, .nils, I 3, .nils]) :=
  closed_pureF (S := noS) (J := hookJ) (fuel := 1000) (n := 40) tbl_ok mixed (fun _ => hookJ_ok) (by kernel_rfl) (by kernel_rfl)
theorem m_add25 {B : Nat} : Pure Tryz.prog B 114 [.agg [I 3, .nils, I 1, .nils], .agg [I (-1), .nils, I 1, .nils]] (· = .agg [I 2, .nils, I 1, .nils]) :=
  closed_pureF (S := noS) (J := hookJ) (fuel := 1000) (n := 40) tbl_ok mixed (fun _ => hookJ_ok) (by kernel_rfl) (by kernel_rfl)
theorem m_add26 {B : Nat} : Pure Tryz.prog B 114 [.agg [I 3, .nils, I 1, .nils], .agg [I 0, .nils, I 1, .nils]] (· = .agg [I 3, .nils, I 1, .nils]) :=
  closed_pureF (S := noS) (J := hookJ) (fuel := 1000) (n := 40) tbl_ok mixed (fun _ => hookJ_ok) (by kernel_rfl) (by kernel_rfl)
theorem m_add27 {B : Nat} : Pure Tryz.prog B 114 [.agg [I 10, .nils, I 3, .nils], .agg [I (-1), .nils, I 3, .nils]] (· = .agg [I 3, .nils, I 1, .nils]) :=
  closed_pureF (S := noS) (J := hookJ) (fuel := 1000) (n := 40) tbl_ok mixed (fun _ => hookJ_ok) (by kernel_rfl) (by kernel_rfl)
noncomputable def t_add : List (List AV × AV) := ([.agg [I (-1), .nils, I 1, .nils], .agg [I 1, .nils, I 1, .nils]], .agg [I 0, .nils, I 1, .nils]) :: ([.agg [I 0, .nils, I 1, .nils], .agg [I (-1), .nils, I 1, .nils]], .agg [I (-1), .nils, I 1, .nils]) :: ([.agg [I 0, .nils, I 1, .nils], .agg [I 0, .nils, I 1, .nils]], .agg [I 0, .nils, I 1, .nils]) :: ([.agg [I 0, .nils, I 1, .nils], .agg [I 1, .nils, I 1, .nils]], .agg [I 1, .nils, I 1, .nils]) :: ([.agg [I 1, .nils, I 3, .nils], .agg [I 1, .nils, I 3, .nils]], .agg [I 2, .nils, I 3, .nils]) :: ([.agg [I 2, .nils, I 3, .nils], .agg [I 4, .nils, I 3, .nils]], .agg [I 2, .nils, I 1, .nils]) :: ([.agg [I 1, .nils, I 1, .nils], .agg [I (-1), .nils, I 1, .nils]], .agg [I 0, .nils, I 1, .nils]) :: ([.agg [I 1, .nils, I 1, .nils], .agg [I (-2), .nils, I 3, .nils]], .agg [I 1, .nils, I 3, .nils]) :: ([.agg [I 1, .nils, I 1, .nils], .agg [I 0, .nils, I 1, .nils]], .agg [I 1, .nils, I 1, .nils]) :: ([.agg [I 1, .nils, I 1, .nils], .agg [I 1, .nils, I 3, .nils]], .agg [I 4, .nils, I 3, .nils]) :: ([.agg [I 1, .nils, I 1, .nils], .agg [I 1, .nils, I 1, .nils]], .agg [I 2, .nils, I 1, .nils]) :: ([.agg [I 1, .nils, I 1, .nils], .agg [I 4, .nils, I 3, .nils]], .agg [I 7, .nils, I 3, .nils]) :: ([.agg [I 4, .nils, I 3, .nils], .agg [I 1, .nils, I 3, .nils]], .agg [I 5, .nils, I 3, .nils]) :: ([.agg [I 5, .nils, I 3, .nils], .agg [I 1, .nils, I 3, .nils]], .agg [I 2, .nils, I 1, .nils]) :: ([.agg [I 5, .nils, I 3, .nils], .agg [I 2, .nils, I 3, .nils]], .agg [I 7, .nils, I 3, .nils]) :: ([.agg [I 2, .nils, I 1, .nils], .agg [I (-1), .nils, I 1, .nils]], .agg [I 1, .nils, I 1, .nils]) :: ([.agg [I 2, .nils, I 1, .nils], .agg [I (-1), .nils, I 3, .nils]], .agg [I 5, .nils, I 3, .nils]) :: ([.agg [I 2, .nils, I 1, .nils], .agg [I 0, .nils, I 1, .nils]], .agg [I 2, .nils, I 1, .nils]) :: ([.agg [I 2, .nils, I 1, .nils], .agg [I 2, .nils, I 3, .nils]], .agg [I 8, .nils, I 3, .nils]) :: ([.agg [I 2, .nils, I 1, .nils], .agg [I 1, .nils, I 1, .nils]], .agg [I 3, .nils, I 1, .nils]) :: ([.agg [I 7, .nils, I 3, .nils], .agg [I 1, .nils, I 3, .nils]], .agg [I 8, .nils, I 3, .nils]) :: ([.agg [I 7, .nils, I 3, .nils], .agg [I 2, .nils, I 3, .nils]], .agg [I 3, .nils, I 1, .nils]) :: ([.agg [I 8, .nils, I 3, .nils], .agg [I (-2), .nils, I 3, .nils]], .agg [I 2, .nils, I 1, .nils]) :: ([.agg [I 8, .nils, I 3, .nils], .agg [I (-1), .nils, I 3, .nils]], .agg [I 7, .nils, I 3, .nils]) :: ([.agg [I 8, .nils, I 3, .nils], .agg [I 2, .nils, I 3, .nils]], .agg [I 10, .nils, I 3, .nils]) :: ([.agg [I 3, .nils, I 1, .nils], .agg [I (-1), .nils, I 1, .nils]], .agg [I 2, .nils, I 1, .nils]) :: ([.agg [I 3, .nils, I 1, .nils], .agg [I 0, .nils, I 1, .nils]], .agg [I 3, .nils, I 1, .nils]) :: ([.agg [I 10, .nils, I 3, .nils], .agg [I (-1), .nils, I 3, .nils]], .agg [I 3, .nils, I 1, .nils]) :: []
theorem t_add_ok : MemoOk Tryz.prog 114 t_add := List.forall_mem_cons.2 ⟨fun _ => m_add0, List.forall_mem_cons.2 ⟨fun _ => m_add1, List.forall_mem_cons.2 ⟨fun _ => m_add2, List.forall_mem_cons.2 ⟨fun _ => m_add3, List.forall_mem_cons.2 ⟨fun _ => m_add4, List.forall_mem_cons.2 ⟨fun _ => m_add5, List.forall_mem_cons.2 ⟨fun _ => m_add6, List.forall_mem_cons.2 ⟨fun _ => m_add7, List.forall_mem_cons.2 ⟨fun _ => m_add8, List.forall_mem_cons.2 ⟨fun _ => m_add9, List.forall_mem_cons.2 ⟨fun _ => m_add10, List.forall_mem_cons.2 ⟨fun _ => m_add11, List.forall_mem_cons.2 ⟨fun _ => m_add12, List.forall_mem_cons.2 ⟨fun _ => m_add13, List.forall_mem_cons.2 ⟨fun _ => m_add14, List.forall_mem_cons.2 ⟨fun _ => m_add15, List.forall_mem_cons.2 ⟨fun _ => m_add16, List.forall_mem_cons.2 ⟨fun _ => m_add17, List.forall_mem_cons.2 ⟨fun _ => m_add18, List.forall_mem_cons.2 ⟨fun _ => m_add19, List.forall_mem_cons.2 ⟨fun _ => m_add20, List.forall_mem_cons.2 ⟨fun _ => m_add21, List.forall_mem_cons.2 ⟨fun _ => m_add22, List.forall_mem_cons.2 ⟨fun _ => m_add23, List.forall_mem_cons.2 ⟨fun _ => m_add24, List.forall_mem_cons.2 ⟨fun _ => m_add25, List.forall_mem_cons.2 ⟨fun _ => m_add26, List.forall_mem_cons.2 ⟨fun _ => m_add27, fun _ h => by cases h⟩⟩⟩⟩⟩⟩⟩⟩⟩⟩⟩⟩⟩⟩⟩⟩⟩⟩⟩⟩⟩⟩⟩⟩⟩⟩⟩⟩
theorem m_div0 {B : Nat} : Pure Tryz.prog B 115 [.agg [I 3, .nils, I 1, .nils], .agg [I 1, .nils, I 1, .nils]] (· = .agg [I 3, .nils, I 1, .nils]) :=
  closed_pureF (S := noS) (J := hookJ) (fuel := 1000) (n := 40) tbl_ok mixed (fun _ => hookJ_ok) (by kernel_rfl) (by kernel_rfl)
theorem m_div1 {B : Nat} : Pure Tryz.prog B 115 [.agg [I 45, .nils, I 1, .nils], .agg [I 3, .nils, I 1, .nils]] (· = .agg [I 15, .nils, I 1, .nils]) :=
  closed_pureF (S := noS) (J := hookJ) (fuel := 1000) (n := 40) tbl_ok mixed (fun _ => hookJ_ok) (by kernel_rfl) (by kernel_rfl)
theorem m_div2 {B : Nat} : Pure Tryz.prog B 115 [.agg [I 78, .nils, I 1, .nils], .agg [I 3, .nils, I 1, .nils]] (· = .agg [I 26, .nils, I 1, .nils]) :=
  closed_pureF (S := noS) (J := hookJ) (fuel := 1000) (n := 40) tbl_ok mixed (fun _ => hookJ_ok) (by kernel_rfl) (by kernel_rfl)
noncomputable def t_div : List (List AV × AV) := ([.agg [I 3, .nils, I 1, .nils], .agg [I 1, .nils, I 1, .nils]], .agg [I 3, .nils, I 1, .nils]) :: ([.agg [I 45, .nils, I 1, .nils], .agg [I 3, .nils, I 1, .nils]], .agg [I 15, .nils, I 1, .nils]) :: ([.agg [I 78, .nils, I 1, .nils], .agg [I 3, .nils, I 1, .nils]], .agg [I 26, .nils, I 1, .nils]) :: []
theorem t_div_ok : MemoOk Tryz.prog 115 t_div := List.forall_mem_cons.2 ⟨fun _ => m_div0, List.forall_mem_cons.2 ⟨fun _ => m_div1, List.forall_mem_cons.2 ⟨fun _ => m_div2, fun _ h => by cases h⟩⟩⟩
noncomputable def opT (f : Nat) : List (List AV × AV) := bif Nat.beq f 119 then t_mul else (bif Nat.beq f 192 then t_sub else (bif Nat.beq f 112 then t_inv else (bif Nat.beq f 107 then t_neg else (bif Nat.beq f 114 then t_add else (bif Nat.beq f 115 then t_div else ([]))))))
theorem memo_if {P : Program} {k f : Nat} {l m : List (List AV × AV)} (h1 : MemoOk P k l) (h2 : MemoOk P f m) : MemoOk P f (bif Nat.beq f k then l else m) := by
  cases h : Nat.beq f k with
  | true => have e := of_beq h; subst e; exact h1
  | false => exact h2
theorem opT_ok (f : Nat) : MemoOk Tryz.prog f (opT f) := memo_if t_mul_ok (memo_if t_sub_ok (memo_if t_inv_ok (memo_if t_neg_ok (memo_if t_add_ok (memo_if t_div_ok (fun _ h => by cases h))))))
noncomputable abbrev hookM : Nat → List AV → T Blk → Option (AV × T Blk) := memoJ opT hookJ
theorem hookM_ok {B : Nat} : JOk Tryz.prog B hookM := memo_ok opT_ok hookJ_ok
end Go.Ev
namespace Go.Ev
open Go Go.Proofs
abbrev sysM : AV := .agg [I 9, encT [[0, 1, 2], [3, 4, 5], [6, 7, 8], [0, 3, 6], [1, 4, 7], [2, 5, 8], [0, 4, 8], [2, 4, 6]]]
abbrev sysE : AV := .agg [I 9, encT [[0, 1, 2], [3, 4, 5], [6, 7, 8], [0, 3, 6], [1, 4, 7], [2, 5, 8]]]
abbrev sysT : AV := .agg [I 12, encT [[0, 2, 6, 7], [1, 3, 7, 8], [2, 4, 8, 9], [3, 5, 9, 10], [0, 4, 10, 11], [1, 5, 6, 11]]]
abbrev shuV : AV := encI [2, 7, 6, 9, 5, 1, 4, 3, 8]
abbrev spcM : AV := .agg [encI [0, 1, 2], .lst 1 3 [.lst 4 9 [I 1, .nils, I 1, .nils, I 0, .nils, I 1, .nils, I 0, .nils, I 1, .nils, I (-2), .nils, I 3, .nils, I 1, .nils, I 3, .nils, I 4, .nils, I 3, .nils, I 2, .nils, I 3, .nils, I 2, .nils, I 3, .nils, I (-1), .nils, I 3, .nils], .lst 4 9 [I 0, .nils, I 1, .nils, I 1, .nils, I 1, .nils, I 0, .nils, I 1, .nils, I 1, .nils, I 3, .nils, I 1, .nils, I 3, .nils, I 1, .nils, I 3, .nils, I 2, .nils, I 3, .nils, I (-1), .nils, I 3, .nils, I 2, .nils, I 3, .nils], .lst 4 9 [I 0, .nils, I 1, .nils, I 0, .nils, I 1, .nils, I 1, .nils, I 1, .nils, I 4, .nils, I 3, .nils, I 1, .nils, I 3, .nils, I (-2), .nils, I 3, .nils, I (-1), .nils, I 3, .nils, I 2, .nils, I 3, .nils, I 2, .nils, I 3, .nils]]]
abbrev spcT : AV := .agg [encI [0, 1, 2, 3, 4, 6, 7], .lst 1 7 [.lst 4 12 [I 1, .nils, I 1, .nils, I 0, .nils, I 1, .nils, I 0, .nils, I 1, .nils, I 0, .nils, I 1, .nils, I 0, .nils, I 1, .nils, I 1, .nils, I 1, .nils, I 0, .nils, I 1, .nils, I 0, .nils, I 1, .nils, I 1, .nils, I 1, .nils, I 0, .nils, I 1, .nils, I 0, .nils, I 1, .nils, I 0, .nils, I 1, .nils], .lst 4 12 [I 0, .nils, I 1, .nils, I 1, .nils, I 1, .nils, I 0, .nils, I 1, .nils, I 0, .nils, I 1, .nils, I 0, .nils, I 1, .nils, I (-1), .nils, I 1, .nils, I 0, .nils, I 1, .nils, I 0, .nils, I 1, .nils, I (-1), .nils, I 1, .nils, I 1, .nils, I 1, .nils, I 0, .nils, I 1, .nils, I 0, .nils, I 1, .nils], .lst 4 12 [I 0, .nils, I 1, .nils, I 0, .nils, I 1, .nils, I 1, .nils, I 1, .nils, I 0, .nils, I 1, .nils, I 0, .nils, I 1, .nils, I 1, .nils, I 1, .nils, I 0, .nils, I 1, .nils, I 0, .nils, I 1, .nils, I 1, .nils, I 1, .nils, I (-1), .nils, I 1, .nils, I 1, .nils, I 1, .nils, I 0, .nils, I 1, .nils], .lst 4 12 [I 0, .nils, I 1, .nils, I 0, .nils, I 1, .nils, I 0, .nils, I 1, .nils, I 1, .nils, I 1, .nils, I 0, .nils, I 1, .nils, I (-1), .nils, I 1, .nils, I 0, .nils, I 1, .nils, I 0, .nils, I 1, .nils, I (-1), .nils, I 1, .nils, I 1, .nils, I 1, .nils, I (-1), .nils, I 1, .nils, I 1, .nils, I 1, .nils], .lst 4 12 [I 0, .nils, I 1, .nils, I 0, .nils, I 1, .nils, I 0, .nils, I 1, .nils, I 0, .nils, I 1, .nils, I 1, .nils, I 1, .nils, I 1, .nils, I 1, .nils, I 0, .nils, I 1, .nils, I 0, .nils, I 1, .nils, I 0, .nils, I 1, .nils, I (-1), .nils, I 1, .nils, I 0, .nils, I 1, .nils, I (-1), .nils, I 1, .nils], .lst 4 12 [I 0, .nils, I 1, .nils, I 0, .nils, I 1, .nils, I 0, .nils, I 1, .nils, I 0, .nils, I 1, .nils, I 0, .nils, I 1, .nils, I 0, .nils, I 1, .nils, I 1, .nils, I 1, .nils, I 0, .nils, I 1, .nils, I 1, .nils, I 1, .nils, I 0, .nils, I 1, .nils, I 1, .nils, I 1, .nils, I 0, .nils, I 1, .nils], .lst 4 12 [I 0, .nils, I 1, .nils, I 0, .nils, I 1, .nils, I 0, .nils, I 1, .nils, I 0, .nils, I 1, .nils, I 0, .nils, I 1, .nils, I 0, .nils, I 1, .nils, I 0, .nils, I 1, .nils, I 1, .nils, I 1, .nils, I 0, .nils, I 1, .nils, I 1, .nils, I 1, .nils, I 0, .nils, I 1, .nils, I 1, .nils, I 1, .nils]]]
abbrev depE : AV := .tup [.lst 2 1 [I 5, .lst 1 5 [.str [49], .str [49], .str [49], .str [45, 49], .str [45, 49]]], I 0]
abbrev kndM : AV := .tup [.lst 1 4 [.str [110, 111, 114, 109, 97, 108], .str [115, 101, 109, 105, 109, 97, 103, 105, 99], .str [109, 97, 103, 105, 99], .str [97, 115, 115, 111, 99, 105, 97, 116, 105, 118, 101]], I 0]
abbrev basM : AV := .tup [.lst 1 3 [.lst 1 9 [.str [49], .str [48], .str [48], .str [45, 50, 47, 51], .str [49, 47, 51], .str [52, 47, 51], .str [50, 47, 51], .str [50, 47, 51], .str [45, 49, 47, 51]], .lst 1 9 [.str [48], .str [49], .str [48], .str [49, 47, 51], .str [49, 47, 51], .str [49, 47, 51], .str [50, 47, 51], .str [45, 49, 47, 51], .str [50, 47, 51]], .lst 1 9 [.str [48], .str [48], .str [49], .str [52, 47, 51], .str [49, 47, 51], .str [45, 50, 47, 51], .str [45, 49, 47, 51], .str [50, 47, 51], .str [50, 47, 51]]], I 0]
abbrev corM : AV := .tup [.lst 1 3 [.str [50], .str [55], .str [54]], I 0]
set_option maxRecDepth 100000 in
theorem r93M {B : Nat} : Pure Tryz.prog B 93 [sysM] (· = spcM) :=
  closed_pureF (S := noS) (J := hookM) (fuel := 1000) (n := 60) tbl_ok mixed (fun _ => hookM_ok) (by kernel_rfl) (by kernel_rfl)
end Go.Ev
namespace Go.Ev
open Go Go.Proofs
set_option maxRecDepth 100000 in
theorem r93T {B : Nat} : Pure Tryz.prog B 93 [sysT] (· = spcT) :=
  closed_pureF (S := noS) (J := hookM) (fuel := 1000) (n := 60) tbl_ok mixed (fun _ => hookM_ok) (by kernel_rfl) (by kernel_rfl)
end Go.Ev
namespace Go.Ev
open Go Go.Proofs
noncomputable def Nq_93 : List (List AV × AV) := ([sysM], spcM) :: ([sysT], spcT) :: []
theorem Nq_93_ok : MemoOk Tryz.prog 93 Nq_93 := List.forall_mem_cons.2 ⟨fun _ => r93M, List.forall_mem_cons.2 ⟨fun _ => r93T, fun _ h => by cases h⟩⟩
noncomputable def Nq (f : Nat) : List (List AV × AV) := bif Nat.beq f 93 then Nq_93 else ([])
theorem Nq_ok (f : Nat) : MemoOk Tryz.prog f (Nq f) := memo_if Nq_93_ok (fun _ h => by cases h)
noncomputable abbrev hookNq : Nat → List AV → T Blk → Option (AV × T Blk) := memoJ Nq hookM
theorem hookNq_ok {B : Nat} : JOk Tryz.prog B hookNq := memo_ok Nq_ok hookM_ok
set_option maxRecDepth 100000 in
theorem r23 {B : Nat} : Pure Tryz.prog B 23 [sysM] (· = basM) :=
  closed_pureF (S := noS) (J := hookNq) (fuel := 1000) (n := 60) tbl_ok mixed (fun _ => hookNq_ok) (by kernel_rfl) (by kernel_rfl)
end Go.Ev
namespace Go.Ev
open Go Go.Proofs
set_option maxRecDepth 100000 in
theorem r24 {B : Nat} : Pure Tryz.prog B 24 [sysM, shuV] (· = corM) :=
  closed_pureF (S := noS) (J := hookNq) (fuel := 1000) (n := 60) tbl_ok mixed (fun _ => hookNq_ok) (by kernel_rfl) (by kernel_rfl)
set_option maxRecDepth 100000 in
theorem r33M {B : Nat} : Pure Tryz.prog B 33 [sysM] (· = .tup [I 15, I 0]) :=
  closed_pureF (S := noS) (J := hookNq) (fuel := 1000) (n := 60) tbl_ok mixed (fun _ => hookNq_ok) (by kernel_rfl) (by kernel_rfl)
set_option maxRecDepth 100000 in
theorem r33T {B : Nat} : Pure Tryz.prog B 33 [sysT] (· = .tup [I 26, I 0]) :=
  closed_pureF (S := noS) (J := hookNq) (fuel := 1000) (n := 60) tbl_ok mixed (fun _ => hookNq_ok) (by kernel_rfl) (by kernel_rfl)
end Go.Ev
namespace Go.Ev
open Go Go.Proofs
set_option maxRecDepth 100000 in
theorem r31E {B : Nat} : Pure Tryz.prog B 31 [sysE] (· = depE) :=
  closed_pureF (S := noS) (J := hookM) (fuel := 1000) (n := 60) tbl_ok mixed (fun _ => hookM_ok) (by kernel_rfl) (by kernel_rfl)
end Go.Ev
namespace Go.Ev
open Go Go.Proofs
set_option maxRecDepth 100000 in
theorem r51 {B : Nat} : Pure Tryz.prog B 51 [.agg [I 3, I 3, shuV]] (· = kndM) :=
  closed_pureF (S := noS) (J := hookM) (fuel := 1000) (n := 60) tbl_ok mixed (fun _ => hookM_ok) (by kernel_rfl) (by kernel_rfl)
end Go.Ev
namespace Go.Ev
open Go Go.Proofs
set_option maxRecDepth 100000 in
theorem r65M {B : Nat} : Pure Tryz.prog B 65 [.str [109, 97, 103, 105, 99], I 3] (· = .tup [sysM, I 0]) :=
  closed_pureF (S := noS) (J := hookM) (fuel := 1000) (n := 60) tbl_ok mixed (fun _ => hookM_ok) (by kernel_rfl) (by kernel_rfl)
set_option maxRecDepth 100000 in
theorem r65E {B : Nat} : Pure Tryz.prog B 65 [.str [115, 101, 109, 105, 109, 97, 103, 105, 99], I 3] (· = .tup [sysE, I 0]) :=
  closed_pureF (S := noS) (J := hookM) (fuel := 1000) (n := 60) tbl_ok mixed (fun _ => hookM_ok) (by kernel_rfl) (by kernel_rfl)
set_option maxRecDepth 100000 in
theorem r69 {B : Nat} : Pure Tryz.prog B 69 [I 6] (· = .tup [sysT, I 0]) :=
  closed_pureF (S := noS) (J := hookM) (fuel := 1000) (n := 60) tbl_ok mixed (fun _ => hookM_ok) (by kernel_rfl) (by kernel_rfl)
set_option maxRecDepth 100000 in
theorem r85 {B : Nat} : Pure Tryz.prog B 85 [] (· = shuV) :=
  closed_pureF (S := noS) (J := hookM) (fuel := 1000) (n := 60) tbl_ok mixed (fun _ => hookM_ok) (by kernel_rfl) (by kernel_rfl)
end Go.Ev
namespace Go.Ev
open Go Go.Proofs
noncomputable def Nr_23 : List (List AV × AV) := ([sysM], basM) :: []
theorem Nr_23_ok : MemoOk Tryz.prog 23 Nr_23 := List.forall_mem_cons.2 ⟨fun _ => r23, fun _ h => by cases h⟩
noncomputable def Nr_24 : List (List AV × AV) := ([sysM, shuV], corM) :: []
theorem Nr_24_ok : MemoOk Tryz.prog 24 Nr_24 := List.forall_mem_cons.2 ⟨fun _ => r24, fun _ h => by cases h⟩
noncomputable def Nr_31 : List (List AV × AV) := ([sysE], depE) :: []
theorem Nr_31_ok : MemoOk Tryz.prog 31 Nr_31 := List.forall_mem_cons.2 ⟨fun _ => r31E, fun _ h => by cases h⟩
noncomputable def Nr_33 : List (List AV × AV) := ([sysM], .tup [I 15, I 0]) :: ([sysT], .tup [I 26, I 0]) :: []
theorem Nr_33_ok : MemoOk Tryz.prog 33 Nr_33 := List.forall_mem_cons.2 ⟨fun _ => r33M, List.forall_mem_cons.2 ⟨fun _ => r33T, fun _ h => by cases h⟩⟩
noncomputable def Nr_51 : List (List AV × AV) := ([.agg [I 3, I 3, shuV]], kndM) :: []
theorem Nr_51_ok : MemoOk Tryz.prog 51 Nr_51 := List.forall_mem_cons.2 ⟨fun _ => r51, fun _ h => by cases h⟩
noncomputable def Nr_65 : List (List AV × AV) := ([.str [109, 97, 103, 105, 99], I 3], .tup [sysM, I 0]) :: ([.str [115, 101, 109, 105, 109, 97, 103, 105, 99], I 3], .tup [sysE, I 0]) :: []
theorem Nr_65_ok : MemoOk Tryz.prog 65 Nr_65 := List.forall_mem_cons.2 ⟨fun _ => r65M, List.forall_mem_cons.2 ⟨fun _ => r65E, fun _ h => by cases h⟩⟩
noncomputable def Nr_69 : List (List AV × AV) := ([I 6], .tup [sysT, I 0]) :: []
theorem Nr_69_ok : MemoOk Tryz.prog 69 Nr_69 := List.forall_mem_cons.2 ⟨fun _ => r69, fun _ h => by cases h⟩
noncomputable def Nr_85 : List (List AV × AV) := ([], shuV) :: []
theorem Nr_85_ok : MemoOk Tryz.prog 85 Nr_85 := List.forall_mem_cons.2 ⟨fun _ => r85, fun _ h => by cases h⟩
noncomputable def Nr (f : Nat) : List (List AV × AV) := bif Nat.beq f 23 then Nr_23 else (bif Nat.beq f 24 then Nr_24 else (bif Nat.beq f 31 then Nr_31 else (bif Nat.beq f 33 then Nr_33 else (bif Nat.beq f 51 then Nr_51 else (bif Nat.beq f 65 then Nr_65 else (bif Nat.beq f 69 then Nr_69 else (bif Nat.beq f 85 then Nr_85 else ([]))))))))
theorem Nr_ok (f : Nat) : MemoOk Tryz.prog f (Nr f) := memo_if Nr_23_ok (memo_if Nr_24_ok (memo_if Nr_31_ok (memo_if Nr_33_ok (memo_if Nr_51_ok (memo_if Nr_65_ok (memo_if Nr_69_ok (memo_if Nr_85_ok (fun _ h => by cases h))))))))
noncomputable abbrev hookNr : Nat → List AV → T Blk → Option (AV × T Blk) := memoJ Nr hookJ
theorem hookNr_ok {B : Nat} : JOk Tryz.prog B hookNr := memo_ok Nr_ok hookJ_ok
set_option maxRecDepth 100000 in
theorem awake17 {B : Nat} : Pure Tryz.prog B 17 [] (· = .bool true) :=
  closed_pureF (S := noS) (J := hookNr) (fuel := 1000) (n := 60) tbl_ok mixed (fun _ => hookNr_ok) (by kernel_rfl) (by kernel_rfl)
end Go.Ev
