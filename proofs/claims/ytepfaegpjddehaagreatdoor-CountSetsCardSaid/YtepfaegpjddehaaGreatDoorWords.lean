/-
  Sets of numbers with a sum: counted by the least number, and by the greatest one.
-/
import GoSem.Core.Next
import Derived.Test.YtepfaegpjddehaaGreatDoorCode
import Derived.Test.YtepfaegpjddehaaGreatDoorEvD
set_option linter.unusedSimpArgs false
set_option linter.unusedVariables false
namespace Go.Ev

/-- How many sets of k numbers from lo on, below lo + m, have the sum s. -/
def cnt : Nat → Nat → Nat → Int → Nat
  | _, 0, k, s => if k = 0 ∧ s = 0 then 1 else 0
  | _, _ + 1, 0, s => if s = 0 then 1 else 0
  | lo, m + 1, k + 1, s => cnt (lo + 1) m (k + 1) s + cnt (lo + 1) m k (s - lo)

theorem cnt_zero (lo m : Nat) (s : Int) : cnt lo m 0 s = if s = 0 then 1 else 0 := by cases m <;> simp [cnt]

theorem cnt_last : ∀ (m lo k : Nat) (s : Int), cnt lo (m + 1) (k + 1) s = cnt lo m (k + 1) s + cnt lo m k (s - (lo + m : Nat))
  | 0, lo, k, s => by simp [cnt]
  | m + 1, lo, k, s => by
    rw [cnt, cnt_last m (lo + 1) k s, show lo + 1 + m = lo + (m + 1) by omega]
    cases k with
    | zero => simp only [cnt, cnt_zero]; omega
    | succ k =>
      rw [cnt_last m (lo + 1) k (s - lo), show lo + 1 + m = lo + (m + 1) by omega]
      rw [cnt, cnt, show s - (lo : Int) - ((lo + (m + 1) : Nat) : Int) = s - ((lo + (m + 1) : Nat) : Int) - lo by omega]
      omega
end Go.Ev
namespace Go.Ev
/-- The sets themselves, in lexicographic order: of k numbers from lo on, below lo + m, with the sum s. -/
def sets : Nat → Nat → Nat → Int → List (List Int)
  | _, 0, k, s => if k = 0 ∧ s = 0 then [[]] else []
  | _, _ + 1, 0, s => if s = 0 then [[]] else []
  | lo, m + 1, k + 1, s => (sets (lo + 1) m k (s - lo)).map ((lo : Int) :: ·) ++ sets (lo + 1) m (k + 1) s

theorem sets_length : ∀ (m lo k : Nat) (s : Int), (sets lo m k s).length = cnt lo m k s
  | 0, lo, k, s => by simp only [sets, cnt]; split <;> rfl
  | m + 1, lo, 0, s => by simp only [sets, cnt]; split <;> rfl
  | m + 1, lo, k + 1, s => by simp [sets, cnt, sets_length m]; omega

/-- Out of bounds there is none: the least sum. -/
theorem cnt_low : ∀ (m lo k : Nat) (s : Int), 2 * s < k * (2 * lo + (k : Int) - 1) → cnt lo m k s = 0
  | 0, lo, 0, s, h => by simp [cnt]; omega
  | 0, lo, k + 1, s, h => by simp [cnt]
  | m + 1, lo, 0, s, h => by simp [cnt]; omega
  | m + 1, lo, k + 1, s, h => by
    have e1 : ((k + 1 : Nat) : Int) * (2 * lo + ((k + 1 : Nat) : Int) - 1) = 2 * lo + k * (2 * ((lo + 1 : Nat) : Int) + k - 1) := by
      push_cast
      simp only [Int.add_mul, Int.mul_add, Int.mul_sub, Int.sub_mul, Int.mul_one, Int.one_mul]
      omega
    rw [e1] at h
    have e2 : ((k + 1 : Nat) : Int) * (2 * ((lo + 1 : Nat) : Int) + ((k + 1 : Nat) : Int) - 1) = 2 * lo + k * (2 * ((lo + 1 : Nat) : Int) + k - 1) + 2 * (k + 1) := by
      push_cast
      simp only [Int.add_mul, Int.mul_add, Int.mul_sub, Int.sub_mul, Int.mul_one, Int.one_mul]
      omega
    simp only [cnt]
    rw [cnt_low m (lo + 1) (k + 1) s (by rw [e2]; omega), cnt_low m (lo + 1) k (s - lo) (by omega)]

/-- Out of bounds there is none: the greatest sum. -/
theorem cnt_high : ∀ (m lo k : Nat) (s : Int), (k : Int) * (2 * ((lo + m : Nat) : Int) - k - 1) < 2 * s → cnt lo m k s = 0
  | 0, lo, 0, s, h => by simp [cnt]; omega
  | 0, lo, k + 1, s, h => by simp [cnt]
  | m + 1, lo, 0, s, h => by simp [cnt]; omega
  | m + 1, lo, k + 1, s, h => by
    have e1 : ((k + 1 : Nat) : Int) * (2 * ((lo + (m + 1) : Nat) : Int) - ((k + 1 : Nat) : Int) - 1) = k * (2 * ((lo + m : Nat) : Int) - k - 1) + 2 * ((lo + m : Nat) : Int) := by
      push_cast
      simp only [Int.add_mul, Int.mul_add, Int.mul_sub, Int.sub_mul, Int.mul_one, Int.one_mul]
      omega
    rw [e1] at h
    have e2 : ((k + 1 : Nat) : Int) * (2 * ((lo + m : Nat) : Int) - ((k + 1 : Nat) : Int) - 1) = k * (2 * ((lo + m : Nat) : Int) - k - 1) + 2 * ((lo + m : Nat) : Int) - 2 * (k + 1) := by
      push_cast
      simp only [Int.add_mul, Int.mul_add, Int.mul_sub, Int.sub_mul, Int.mul_one, Int.one_mul]
      omega
    rw [cnt_last, cnt_high m lo (k + 1) s (by rw [e2]; omega), cnt_high m lo k (s - (lo + m : Nat)) (by omega)]
theorem cnt_more : ∀ (m lo k : Nat) (s : Int), m < k → cnt lo m k s = 0
  | 0, lo, k + 1, s, _ => by simp [cnt]
  | m + 1, lo, k + 1, s, h => by simp only [cnt]; rw [cnt_more m (lo + 1) (k + 1) s (by omega), cnt_more m (lo + 1) k (s - lo) (by omega)]
end Go.Ev
namespace Go.Ev
theorem cnt_le : ∀ (m lo k : Nat) (s : Int), cnt lo m k s ≤ 2 ^ m
  | 0, lo, k, s => by simp only [cnt]; split <;> omega
  | m + 1, lo, 0, s => by
    have := Nat.one_le_two_pow (n := m + 1)
    simp only [cnt]; split <;> omega
  | m + 1, lo, k + 1, s => by
    have h1 := cnt_le m (lo + 1) (k + 1) s
    have h2 := cnt_le m (lo + 1) k (s - lo)
    simp only [cnt]
    rw [Nat.pow_succ]; omega
theorem cnt_neg (m lo k : Nat) (s : Int) (h : s < 0) : cnt lo m k s = 0 := by
  cases k with
  | zero => rw [cnt_zero, if_neg (by omega)]
  | succ k =>
    refine cnt_low m lo (k + 1) s ?_
    have : (0 : Int) ≤ ((k + 1 : Nat) : Int) * (2 * lo + ((k + 1 : Nat) : Int) - 1) := Int.mul_nonneg (by omega) (by omega)
    omega
end Go.Ev
namespace Go.Ev
theorem sets_nil {lo m k : Nat} {s : Int} (h : cnt lo m k s = 0) : sets lo m k s = [] := List.eq_nil_of_length_eq_zero (by rw [sets_length, h])
/-- A step of the table. -/
theorem cnt_tab {x i s : Nat} (hx : 1 ≤ x) (hi : 1 ≤ i) : cnt 1 x i (s : Int) = if x ≤ s then cnt 1 (x - 1) i s + cnt 1 (x - 1) (i - 1) ((s - x : Nat) : Int) else cnt 1 (x - 1) i s := by
  obtain ⟨x, rfl⟩ : ∃ y, x = y + 1 := ⟨x - 1, by omega⟩
  obtain ⟨i, rfl⟩ : ∃ y, i = y + 1 := ⟨i - 1, by omega⟩
  rw [cnt_last]
  simp only [Nat.add_sub_cancel]
  by_cases h : x + 1 ≤ s
  · rw [if_pos h, show (s : Int) - ((1 + x : Nat) : Int) = ((s - (x + 1) : Nat) : Int) by omega]
  · rw [if_neg h, cnt_neg x 1 i _ (by omega)]; rfl
theorem cnt_init (i s : Nat) : cnt 1 0 i (s : Int) = if i = 0 ∧ s = 0 then 1 else 0 := by
  simp only [cnt]; congr 1; simp
theorem cnt_zero' (x s : Nat) : cnt 1 x 0 (s : Int) = if s = 0 then 1 else 0 := by rw [cnt_zero]; simp
end Go.Ev
/-
  Bounded fillings, counted by what they contribute to lines.
-/
namespace Go.Ev
def addAt (y : List Nat) (i k : Nat) : List Nat := y.set i ((y.getD i 0 + k) % 256)
def addL (y : List Nat) (idx : List Nat) (k : Nat) : List Nat := idx.foldl (fun y i => addAt y i k) y
@[simp] theorem addAt_length (y : List Nat) (i k : Nat) : (addAt y i k).length = y.length := by simp [addAt]
@[simp] theorem addL_length (idx : List Nat) (k : Nat) : ∀ y : List Nat, (addL y idx k).length = y.length := by
  induction idx with
  | nil => intro y; rfl
  | cons i l ih => intro y; show (addL (addAt y i k) l k).length = _; rw [ih]; simp
theorem addL_snoc (y : List Nat) (l : List Nat) (i k : Nat) : addL y (l ++ [i]) k = addAt (addL y l k) i k := by simp [addL]
/-- The lines of a cell, up to a line. -/
def onP (lines : List (List Int)) (i c : Nat) : List Nat := (List.range i).flatMap fun j => ((lines.getD j []).filter (· = (c : Int))).map fun _ => j
abbrev onC (lines : List (List Int)) (c : Nat) : List Nat := onP lines lines.length c
theorem onP_succ (lines : List (List Int)) (i c : Nat) : onP lines (i + 1) c = onP lines i c ++ ((lines.getD i []).filter (· = (c : Int))).map fun _ => i := by
  simp [onP, List.range_succ, List.flatMap_append]
theorem onP_lt {lines : List (List Int)} {i c x : Nat} (h : x ∈ onP lines i c) : x < i := by
  simp only [onP, List.mem_flatMap, List.mem_range, List.mem_map] at h
  obtain ⟨j, h1, y, _, rfl⟩ := h
  exact h1
/-- What the fillings of n cells from one on contribute. -/
def tallyT (lines : List (List Int)) (most fr : Nat) : Nat → List (List Nat)
  | 0 => [List.replicate lines.length 0]
  | n + 1 => (tallyT lines most fr n).flatMap fun x => (List.range (most + 1)).map fun k => addL x (onC lines (fr + n)) k
theorem tallyT_len (lines : List (List Int)) (most fr : Nat) : ∀ n, ∀ y ∈ tallyT lines most fr n, y.length = lines.length
  | 0, y, h => by rw [List.mem_singleton.1 h]; simp
  | n + 1, y, h => by
    simp only [tallyT, List.mem_flatMap, List.mem_map] at h
    obtain ⟨x, hx, k, _, rfl⟩ := h
    rw [addL_length, tallyT_len lines most fr n x hx]
theorem tallyT_length (lines : List (List Int)) (most fr : Nat) : ∀ n, (tallyT lines most fr n).length = (most + 1) ^ n
  | 0 => rfl
  | n + 1 => by
    simp only [tallyT, List.length_flatMap, List.length_map, List.length_range, List.map_const', List.sum_replicate_nat]
    rw [tallyT_length lines most fr n, Nat.pow_succ]

/-- One entry's share of the next map. -/
def blk (x : List Nat) (idx : List Nat) (n : Nat) : Nat → List (List Nat)
  | 0 => []
  | j + 1 => List.replicate n (addL x idx j) ++ blk x idx n j
theorem blk_length (x idx : List Nat) (n : Nat) : ∀ j, (blk x idx n j).length = j * n
  | 0 => by simp [blk]
  | j + 1 => by simp [blk, blk_length x idx n j, Nat.add_mul]; omega
theorem perm_self (ks G : List (List Nat)) (nd : ks.Nodup) (hm : ∀ y, y ∈ ks ↔ y ∈ G) : (ks.flatMap fun x => List.replicate (G.count x) x).Perm G := by
  rw [List.perm_iff_count]
  intro y
  have key : ∀ (l : List (List Nat)), l.Nodup → (l.flatMap fun x => List.replicate (G.count x) x).count y = if y ∈ l then G.count y else 0 := by
    intro l
    induction l with
    | nil => intro _; rfl
    | cons a l ih =>
      intro nd
      rw [List.flatMap_cons, List.count_append, ih (List.nodup_cons.1 nd).2, List.count_replicate]
      by_cases e : y = a
      · subst e
        have : y ∉ l := (List.nodup_cons.1 nd).1
        simp [this]
      · have : ¬ (a == y) = true := by simpa using fun q => e q.symm
        simp [this, e]
  rw [key ks nd]
  by_cases e : y ∈ ks
  · rw [if_pos e]
  · rw [if_neg e, List.count_eq_zero.2 fun q => e ((hm y).2 q)]
theorem blk_perm (x idx : List Nat) (n : Nat) : ∀ j, (blk x idx n j).Perm ((List.replicate n x).flatMap fun x => (List.range j).map fun k => addL x idx k)
  | 0 => by
    have : ((List.replicate n x).flatMap fun x => (List.range 0).map fun k => addL x idx k) = [] := by simp
    rw [this]; exact .refl _
  | j + 1 => by
    refine (List.Perm.append_left _ (blk_perm x idx n j)).trans ?_
    clear blk_perm
    induction n with
    | zero => simp
    | succ n ih =>
      rw [List.replicate_succ, List.replicate_succ, List.flatMap_cons, List.flatMap_cons, List.range_succ, List.map_append, List.map_singleton]
      rw [List.range_succ] at ih
      generalize addL x idx j = a at *
      generalize (List.range j).map (fun k => addL x idx k) = r at *
      have : (a :: List.replicate n a ++ (r ++ (List.replicate n x).flatMap fun x => (List.range j).map fun k => addL x idx k)).Perm (r ++ [a] ++ (List.replicate n a ++ (List.replicate n x).flatMap fun x => (List.range j).map fun k => addL x idx k)) := by
        rw [List.perm_iff_count]; intro y; simp only [List.count_append, List.count_cons, List.cons_append, List.nil_append, List.count_nil]; omega
      refine this.trans ?_
      exact List.Perm.append_left _ ih
/-- All entries' shares are the next tally. -/
theorem next_perm (ks G : List (List Nat)) (idx : List Nat) (j : Nat) (nd : ks.Nodup) (hm : ∀ y, y ∈ ks ↔ y ∈ G) : (ks.flatMap fun x => blk x idx (G.count x) j).Perm (G.flatMap fun x => (List.range j).map fun k => addL x idx k) := by
  refine List.Perm.trans ?_ ((perm_self ks G nd hm).flatMap_right _)
  rw [List.flatMap_assoc]
  clear hm nd
  induction ks with
  | nil => exact .refl _
  | cons a l ih =>
    rw [List.flatMap_cons, List.flatMap_cons]
    exact (blk_perm a idx _ j).append ih
theorem seen_perm {n : Nat} {seen : List Nat} (nd : seen.Nodup) (h1 : ∀ i ∈ seen, i < n) (h2 : ∀ i, i < n → i ∈ seen) : seen.Perm (List.range n) := by
  rw [List.perm_iff_count]
  intro a
  rw [nd.count, List.nodup_range.count]
  by_cases e : a < n
  · rw [if_pos (h2 a e), if_pos (by simpa using e)]
  · rw [if_neg fun q => e (h1 a q), if_neg (by simpa using e)]
end Go.Ev
/-
  Contracts: equality of lists and of tables.
-/
namespace Go.Ev
open Go Go.Proofs
theorem dreg {B : Nat} : DregAll Tryz.prog B Prop := dreg_all mixed
variable {B : Nat}

theorem sameInts35 {a b : List Int} (ha : a.length ≤ 1000000000) : Pure Tryz.prog B 35 [encI a, encI b] (· = .bool (decide (a = b))) := by
  intro p h nx K hK
  refine by_body tbl_ok dreg (a.length + 2) fun hf => ?_
  rw [F35.go]
  simp (disch := omega) only [sAdd, sSub, sMul, sEql, sNeq, sLss, sLeq, sGtr, sGeq, sPick_t, sPick_f, sCond_t, sCond_f, sG_tt, sG_ff, sG_tf, sG_ft, sNot_b, sExt0, sExt1, sExt2, sPart0, sPart1, sPart2, sLen_lst, sLen_sl, sLen_nils, sSame_refl, decide_true, decide_false, Bool.not_true, Bool.not_false, sChk_t]
  by_cases hl : a.length = b.length
  · simp only [hl, decide_true, Bool.not_true, sCond_f]
    refine F35.L2 (fun m z3 h' nx' => ∃ i : Nat, z3 = I i ∧ m = a.length - i ∧ i ≤ a.length ∧ h' = h ∧ nx' = nx ∧ a.take i = b.take i) (m := a.length) (by omega) ⟨0, rfl, by simp, by omega, rfl, rfl, by simp⟩ ?_
    rintro m z2 z3 z5 z6 _ _ R ⟨i, rfl, rfl, hi, rfl, rfl, htk⟩ hR
    simp (disch := omega) only [sAdd, sSub, sMul, sEql, sNeq, sLss, sLeq, sGtr, sGeq, sPick_t, sPick_f, sCond_t, sCond_f, sG_tt, sG_ff, sG_tf, sG_ft, sNot_b, sExt0, sExt1, sExt2, sPart0, sPart1, sPart2, sLen_lst, sLen_sl, sLen_nils, sSame_refl, decide_true, decide_false, Bool.not_true, Bool.not_false, sChk_t]
    by_cases hlt : i < a.length
    · have h1 : (i : Int) < a.length := by omega
      have hb : i < b.length := by omega
      simp only [h1, decide_true, sCond_t]
      rw [sIxL rfl hlt, ldL (getI (List.getElem?_eq_getElem hlt)), sIxL rfl hb, ldL (getI (List.getElem?_eq_getElem hb))]
      simp (disch := omega) only [sAdd, sSub, sMul, sEql, sNeq, sLss, sLeq, sGtr, sGeq, sPick_t, sPick_f, sCond_t, sCond_f, sG_tt, sG_ff, sG_tf, sG_ft, sNot_b, sExt0, sExt1, sExt2, sPart0, sPart1, sPart2, sLen_lst, sLen_sl, sLen_nils, sSame_refl, decide_true, decide_false, Bool.not_true, Bool.not_false, sChk_t]
      by_cases he : a[i] = b[i]
      · simp only [he, decide_true, Bool.not_true, sCond_f]
        refine hR (a.length - (i + 1)) _ _ _ _ _ _ (by omega) ⟨i + 1, rfl, rfl, by omega, rfl, rfl, ?_⟩
        rw [List.take_add_one, List.take_add_one, htk, List.getElem?_eq_getElem hlt, List.getElem?_eq_getElem hb, he]
      · simp only [he, decide_false, Bool.not_false, sCond_t]
        refine hK _ ?_ hf
        rw [decide_eq_false]
        rintro rfl
        exact he rfl
    · have h1 : ¬ (i : Int) < a.length := by omega
      simp only [h1, decide_false, sCond_f]
      rw [F35.k9]
      refine hK _ ?_ hf
      rw [List.take_of_length_le (by omega), List.take_of_length_le (by omega)] at htk
      rw [decide_eq_true htk]
  · have h1 : ¬ (a.length : Int) = b.length := by omega
    simp only [h1, decide_false, Bool.not_false, sCond_t]
    refine hK _ ?_ hf
    rw [decide_eq_false]
    rintro rfl; exact hl rfl

theorem sameTable23 {a b : List (List Int)} (ha : a.length ≤ 1000000000) (hw : ∀ l ∈ a, l.length ≤ 1000000000) : Pure Tryz.prog B 23 [encT a, encT b] (· = .bool (decide (a = b))) := by
  intro p h nx K hK
  refine by_body tbl_ok dreg (a.length + 2) fun hf => ?_
  rw [F23.go]
  simp (disch := omega) only [sAdd, sSub, sMul, sEql, sNeq, sLss, sLeq, sGtr, sGeq, sPick_t, sPick_f, sCond_t, sCond_f, sG_tt, sG_ff, sG_tf, sG_ft, sNot_b, sExt0, sExt1, sExt2, sPart0, sPart1, sPart2, sLen_lst, sLen_sl, sLen_nils, sSame_refl, decide_true, decide_false, Bool.not_true, Bool.not_false, sChk_t]
  by_cases hl : a.length = b.length
  · simp only [hl, decide_true, Bool.not_true, sCond_f]
    refine F23.L2 (fun m z3 h' nx' => ∃ i : Nat, z3 = I i ∧ m = a.length - i ∧ i ≤ a.length ∧ h' = h ∧ nx' = nx ∧ a.take i = b.take i) (m := a.length) (by omega) ⟨0, rfl, by simp, by omega, rfl, rfl, by simp⟩ ?_
    rintro m z2 z3 z5 z6 _ _ R ⟨i, rfl, rfl, hi, rfl, rfl, htk⟩ hR
    simp (disch := omega) only [sAdd, sSub, sMul, sEql, sNeq, sLss, sLeq, sGtr, sGeq, sPick_t, sPick_f, sCond_t, sCond_f, sG_tt, sG_ff, sG_tf, sG_ft, sNot_b, sExt0, sExt1, sExt2, sPart0, sPart1, sPart2, sLen_lst, sLen_sl, sLen_nils, sSame_refl, decide_true, decide_false, Bool.not_true, Bool.not_false, sChk_t]
    by_cases hlt : i < a.length
    · have h1 : (i : Int) < a.length := by omega
      have hb : i < b.length := by omega
      simp only [h1, decide_true, sCond_t]
      rw [sIxL rfl hlt, ldL (getT (List.getElem?_eq_getElem hlt)), sIxL rfl hb, ldL (getT (List.getElem?_eq_getElem hb))]
      refine sameInts35 (hw _ (List.getElem_mem hlt)) _ _ _ _ ?_
      rintro _ rfl _
      simp (disch := omega) only [sAdd, sSub, sMul, sEql, sNeq, sLss, sLeq, sGtr, sGeq, sPick_t, sPick_f, sCond_t, sCond_f, sG_tt, sG_ff, sG_tf, sG_ft, sNot_b, sExt0, sExt1, sExt2, sPart0, sPart1, sPart2, sLen_lst, sLen_sl, sLen_nils, sSame_refl, decide_true, decide_false, Bool.not_true, Bool.not_false, sChk_t]
      by_cases he : a[i] = b[i]
      · simp only [he, decide_true, Bool.not_true, sCond_f]
        refine hR (a.length - (i + 1)) _ _ _ _ _ _ (by omega) ⟨i + 1, rfl, rfl, by omega, rfl, rfl, ?_⟩
        rw [List.take_add_one, List.take_add_one, htk, List.getElem?_eq_getElem hlt, List.getElem?_eq_getElem hb, he]
      · simp only [he, decide_false, Bool.not_false, sCond_t]
        refine hK _ ?_ hf
        rw [decide_eq_false]
        rintro rfl
        exact he rfl
    · have h1 : ¬ (i : Int) < a.length := by omega
      simp only [h1, decide_false, sCond_f]
      rw [F23.k9]
      refine hK _ ?_ hf
      rw [List.take_of_length_le (by omega), List.take_of_length_le (by omega)] at htk
      rw [decide_eq_true htk]
  · have h1 : ¬ (a.length : Int) = b.length := by omega
    simp only [h1, decide_false, Bool.not_false, sCond_t]
    refine hK _ ?_ hf
    rw [decide_eq_false]
    rintro rfl; exact hl rfl
end Go.Ev
/-
  Contracts: numbers of sets.
-/
namespace Go.Ev
open Go Go.Proofs
variable {B : Nat}

theorem when82 (b : Bool) (e : Int) : Pure Tryz.prog B 82 [.bool b, I e] (· = I (if b then e else 0)) := by
  intro p h nx K hK
  refine by_body tbl_ok dreg 9 fun hf => ?_
  rw [F82.go]
  cases b <;> simp (disch := omega) only [sAdd, sSub, sMul, sEql, sNeq, sLss, sLeq, sGtr, sGeq, sPick_t, sPick_f, sCond_t, sCond_f, sG_tt, sG_ff, sG_tf, sG_ft, sNot_b, sExt0, sExt1, sExt2, sPart0, sPart1, sPart2, sLen_lst, sLen_sl, sLen_nils, sSame_refl, decide_true, decide_false, Bool.not_true, Bool.not_false, sChk_t] <;> exact hK _ rfl hf
theorem checkSets76 (n z : Int) : Pure Tryz.prog B 76 [I n, I z] (· = I (if n < 0 ∨ 64 < n ∨ z < 0 ∨ n < z then 3 else 0)) := by
  intro p h nx K hK
  refine by_body tbl_ok dreg 9 fun hf => ?_
  rw [F76.go]
  by_cases h1 : n < 0 <;> by_cases h2 : 64 < n <;> by_cases h3 : z < 0 <;> by_cases h4 : n < z <;> (simp only [h1, h2, h3, h4, decide_true, decide_false, sGtr, sLss, sG_tt, sG_ff, sG_tf, sG_ft, sPick_t, sPick_f]; refine when82 _ _ _ _ _ _ ?_; rintro _ rfl _; exact hK _ (by simp [h1, h2, h3, h4]) hf)
theorem refCheckSets21 (n z : Int) : Pure Tryz.prog B 21 [I n, I z] (· = I (if n < 0 ∨ 64 < n ∨ z < 0 ∨ n < z then 3 else 0)) := by
  intro p h nx K hK
  refine by_body tbl_ok dreg 9 fun hf => ?_
  rw [F21.go]
  by_cases h1 : n < 0 <;> by_cases h2 : 64 < n <;> by_cases h3 : z < 0 <;> by_cases h4 : n < z <;> (simp only [h1, h2, h3, h4, decide_true, decide_false, sGtr, sLss, sG_tt, sG_ff, sG_tf, sG_ft, sPick_t, sPick_f, sCond_t, sCond_f]; exact hK _ (by simp [h1, h2, h3, h4]) hf)

theorem sQuo {a b : Int} {K : AV → OP} (h0 : b ≠ 0) (h : -9223372036854775808 ≤ a.tdiv b ∧ a.tdiv b ≤ 9223372036854775807) : sBin .quo .int (I a) (I b) K = K (I (a.tdiv b)) := by
  have e : sBin .quo .int (I a) (I b) K = (bif ieq b 0 then Out.no 5 else intK (IntKind.wrap .i64 (a.tdiv b)) fun z => K (.int .i64 z)) := rfl
  rw [e, ieq_eq]
  have hb : (b == 0) = false := by simpa using h0
  rw [hb, cond_false, intK_eq]
  have hw : IntKind.wrap .i64 (a.tdiv b) = a.tdiv b := by simpa [wrapF_eq] using wrap64_in h
  rw [hw]
theorem mul_bd {a b M : Int} (ha : -M ≤ a ∧ a ≤ M) (hb : -M ≤ b ∧ b ≤ M) (hM : 0 ≤ M) : -(M * M) ≤ a * b ∧ a * b ≤ M * M := by
  have h1 : (a * b).natAbs ≤ (M * M).natAbs := by
    rw [Int.natAbs_mul, Int.natAbs_mul]
    exact Nat.mul_le_mul (by omega) (by omega)
  have h2 : 0 ≤ M * M := Int.mul_nonneg hM hM
  omega
/-- The least and the greatest sum. -/
theorem span78 {f n s : Int} (hf : -1000 ≤ f ∧ f ≤ 1000) (hn : -1000 ≤ n ∧ n ≤ 1000) (hs : -1000 ≤ s ∧ s ≤ 1000) : Pure Tryz.prog B 78 [I f, I n, I s] (· = .tup [I (s * f + (s * (s - 1)).tdiv 2), I (s * n - (s * (s - 1)).tdiv 2)]) := by
  intro p h nx K hK
  refine by_body tbl_ok dreg 9 fun hf' => ?_
  have b1 := mul_bd hs hf (by decide)
  have b2 := mul_bd hs hn (by decide)
  have b3 := mul_bd (M := 1001) (a := s) (b := s - 1) (by omega) (by omega) (by decide)
  generalize hX : s * (s - 1) = X at *
  generalize hY : s * f = Y at *
  generalize hZ : s * n = Z at *
  have b4 : -1002001 ≤ X.tdiv 2 ∧ X.tdiv 2 ≤ 1002001 := by
    rcases Int.le_total 0 X with h0 | h0
    · rw [Int.tdiv_eq_ediv_of_nonneg h0]; omega
    · have : X.tdiv 2 = -((-X).tdiv 2) := by rw [Int.neg_tdiv]; omega
      rw [this, Int.tdiv_eq_ediv_of_nonneg (by omega)]; omega
  rw [F78.go]
  rw [sMul (by omega), hY, sSub (by omega), sMul (by omega), hX, sQuo (by decide) (by omega), sAdd (by omega), sMul (by omega), hZ, sSub (by omega), sMul (by omega), hX, sQuo (by decide) (by omega), sSub (by omega)]
  exact hK _ rfl hf'

theorem half_nat (z : Nat) : ((z : Int) * ((z : Int) - 1)).tdiv 2 = ((z * (z - 1) / 2 : Nat) : Int) := by
  cases z with
  | zero => rfl
  | succ z =>
    have : ((z + 1 : Nat) : Int) * (((z + 1 : Nat) : Int) - 1) = (((z + 1) * z : Nat) : Int) := by
      rw [Int.natCast_mul]; congr 1; omega
    rw [this, Int.tdiv_eq_ediv_of_nonneg (by omega), Nat.add_sub_cancel]
    omega

abbrev cI (x i s : Nat) : AV := I (cnt 1 x i (s : Int) : Int)
theorem cnt_lt {x i : Nat} {s : Int} (hx : x ≤ 20) : (cnt 1 x i s : Int) ≤ 1048576 := by
  have h1 := cnt_le x 1 i s
  have h2 : 2 ^ x ≤ 2 ^ 20 := Nat.pow_le_pow_right (by decide) hx
  omega

/-- The rows of the table are made. -/
theorem F20.rows {N : Nat} {K0 : Kw Prop} {K : Ks Prop} {h0 h : T Blk} {nx : Pa} {x0 x1 x3 x4 x5 x6 x7 x9 x10 x11 x12 x13 x14 x17 x18 x19 x20 : AV} {id : Pa} {z s : Nat} (hN : z + 2 < N) (hs : s ≤ 100000) (hz : z ≤ 100000)
    (H : Hp h0 h nx [.arr id (List.replicate (z + 1) .nils)])
    (hK : ∀ x9 x16 x17 h' nx' rs, Hp h0 h' nx' [.tab id rs (tabL (z + 1) (s + 1) fun _ _ => I 0)] → K (F20.fr x0 x1 (I s) x3 x4 x5 x6 x7 (.sl id 0 (z + 1) (some (z + 1)) 1) x9 x10 x11 x12 x13 x14 (I ((z + 1 : Nat) : Int)) x16 x17 x18 x19 x20) h' nx' = .ok True) :
    IR.run F20.b3 (CS Tryz.prog B) N (fnO F20.res K0) K (F20.fr x0 x1 (I s) x3 x4 x5 x6 x7 (.sl id 0 (z + 1) (some (z + 1)) 1) x9 x10 x11 x12 x13 x14 (I ((z + 1 : Nat) : Int)) (I 0) x17 x18 x19 x20) h nx = .ok True := by
  refine F20.L3 (fun m x16 h' nx' => ∃ (i : Nat) (rs : List (Option Pa)), x16 = I i ∧ m = z + 1 - i ∧ i ≤ z + 1 ∧ (∀ p, i ≤ p → p < z + 1 → rs[p]? = some none) ∧ Hp h0 h' nx' [.tab id rs (rowL (z + 1) fun p => if p < i then rowL (s + 1) fun _ => I 0 else [])]) (m := z + 1) (by omega)
    ⟨0, List.replicate (z + 1) none, rfl, by simp, by omega, fun p _ hp => by simp [hp], by simpa [rowL_const] using H.asTab⟩ ?_
  rintro m z9 z16 z17 h1 nx1 R ⟨i, rs, rfl, rfl, hi, hrs, H1⟩ hR
  simp (disch := omega) only [sAdd, sSub, sMul, sEql, sNeq, sLss, sLeq, sGtr, sGeq, sPick_t, sPick_f, sCond_t, sCond_f, sG_tt, sG_ff, sG_tf, sG_ft, sNot_b, sExt0, sExt1, sExt2, sPart0, sPart1, sPart2, sLen_lst, sLen_sl, sLen_nils, sSame_refl, decide_true, decide_false, Bool.not_true, Bool.not_false, sChk_t]
  by_cases hlt : i < z + 1
  · simp only [show (i : Int) < ((z + 1 : Nat) : Int) by omega, decide_true, sCond_t]
    refine H1.mk1 (s + 1) (by omega) (by omega) (by omega) (by omega) fun r h2 nx2 H2 => ?_
    rw [sIx (i := i) rfl hlt]
    have H3 : Hp h0 h2 nx2 [.arr r (rowL (s + 1) fun _ => I 0), .tab id rs (rowL (z + 1) fun p => if p < i then rowL (s + 1) fun _ => I 0 else [])] := by simpa [rowL_const] using H2
    refine H3.putRow rowL_length (k := 0) rfl (hrs i (Nat.le_refl _) hlt) fun h4 H4 => ?_
    refine hR (z + 1 - (i + 1)) _ _ _ _ _ (by omega) ⟨i + 1, rs.set i (some r), rfl, rfl, by omega, fun p h1 h2 => ?_, H4.cast ?_⟩
    · rw [List.getElem?_set_ne (by omega)]; exact hrs p (by omega) h2
    · simp only [List.set_cons_zero, rowL_set]
      congr 2
      refine rowL_congr fun p _ => ?_
      by_cases e : p = i
      · subst e; simp
      · simp only [if_neg e]
        by_cases e2 : p < i
        · rw [if_pos e2, if_pos (by omega)]
        · rw [if_neg e2, if_neg (by omega)]
  · simp only [show ¬ (i : Int) < ((z + 1 : Nat) : Int) by omega, decide_false, sCond_f]
    refine hK _ _ _ _ _ rs (H1.cast ?_)
    congr 2
    exact rowL_congr fun p hp => by rw [if_pos (by omega)]

/-- The table behind the rows above k. -/
abbrev tabK (x z : Nat) (k : Nat) (p q : Nat) : AV := if k < p then cI x p q else cI (x - 1) p q
theorem tabK_step {x z k s : Nat} (hx : 1 ≤ x) (hk : 1 ≤ k) : tabL (z + 1) (s + 1) (fun p q => if p = k ∧ x ≤ q then I ((cnt 1 (x - 1) k (q : Int) : Int) + (cnt 1 (x - 1) (k - 1) ((q - x : Nat) : Int) : Int)) else tabK x z k p q) = tabL (z + 1) (s + 1) (tabK x z (k - 1)) := by
  refine tabL_congr fun p q _ _ => ?_
  by_cases hp : p = k
  · subst hp
    simp only [tabK, cI, true_and, Nat.lt_irrefl, if_false, if_pos (show p - 1 < p by omega), cnt_tab (x := x) (i := p) (s := q) hx hk]
    by_cases h : x ≤ q
    · simp [h]
    · simp [h]
  · simp only [hp, false_and, if_false, tabK]
    by_cases h : k < p
    · rw [if_pos h, if_pos (by omega)]
    · rw [if_neg h, if_neg (by omega)]

theorem F20.fill {N : Nat} {K0 : Kw Prop} {K : Ks Prop} {h0 h : T Blk} {nx : Pa} {x3 x4 x5 x6 x7 x9 x11 x12 x13 x14 x15 x16 x17 x18 x19 x20 : AV} {id : Pa} {n z s : Nat} {rs : List (Option Pa)} (hN : n + z + s + 3 < N) (hn : n ≤ 20) (hs : s ≤ 100000) (hz : z ≤ 100000)
    (H : Hp h0 h nx [.tab id rs (tabL (z + 1) (s + 1) fun p q => cI 0 p q)])
    (hK : ∀ x10 x11 x12 x18 x19 x20 h' nx', Hp h0 h' nx' [.tab id rs (tabL (z + 1) (s + 1) fun p q => cI n p q)] → K (F20.fr (I n) (I z) (I s) x3 x4 x5 x6 x7 (.sl id 0 (z + 1) (some (z + 1)) 1) x9 x10 x11 x12 x13 x14 x15 x16 x17 x18 x19 x20) h' nx' = .ok True) :
    IR.run F20.b11 (CS Tryz.prog B) N (fnO F20.res K0) K (F20.fr (I n) (I z) (I s) x3 x4 x5 x6 x7 (.sl id 0 (z + 1) (some (z + 1)) 1) x9 (I 1) x11 x12 x13 x14 x15 x16 x17 x18 x19 x20) h nx = .ok True := by
  refine F20.L11 (fun m z10 h' nx' => ∃ x : Nat, z10 = I x ∧ m = n + 1 - x ∧ 1 ≤ x ∧ x ≤ n + 1 ∧ Hp h0 h' nx' [.tab id rs (tabL (z + 1) (s + 1) fun p q => cI (x - 1) p q)]) (m := n) (by omega) ⟨1, rfl, by omega, by omega, by omega, H⟩ ?_
  rintro m z10 z11 z12 z18 z19 z20 h1 nx1 R ⟨x, rfl, rfl, hx1, hx2, H1⟩ hR
  simp (disch := omega) only [sAdd, sSub, sMul, sEql, sNeq, sLss, sLeq, sGtr, sGeq, sPick_t, sPick_f, sCond_t, sCond_f, sG_tt, sG_ff, sG_tf, sG_ft, sNot_b, sExt0, sExt1, sExt2, sPart0, sPart1, sPart2, sLen_lst, sLen_sl, sLen_nils, sSame_refl, decide_true, decide_false, Bool.not_true, Bool.not_false, sChk_t]
  by_cases hlt : x ≤ n
  case neg =>
    simp only [show ¬ (x : Int) ≤ n by omega, decide_false, sCond_f]
    obtain rfl : x = n + 1 := by omega
    exact hK _ _ _ _ _ _ _ _ H1
  simp only [show (x : Int) ≤ n by omega, decide_true, sCond_t]
  refine F20.L17 (fun m z11 h' nx' => ∃ k : Nat, z11 = I k ∧ k = m ∧ k ≤ z ∧ Hp h0 h' nx' [.tab id rs (tabL (z + 1) (s + 1) (tabK x z k))]) (m := z) (by omega) ⟨z, rfl, rfl, Nat.le_refl _, H1.cast ?_⟩ ?_
  · congr 2
    exact tabL_congr fun p q hp _ => by simp only [tabK]; rw [if_neg (by omega)]
  rintro m z11 z12 z19 z20 h2 nx2 R2 ⟨k, rfl, rfl, hk, H2⟩ hR2
  simp (disch := omega) only [sAdd, sSub, sMul, sEql, sNeq, sLss, sLeq, sGtr, sGeq, sPick_t, sPick_f, sCond_t, sCond_f, sG_tt, sG_ff, sG_tf, sG_ft, sNot_b, sExt0, sExt1, sExt2, sPart0, sPart1, sPart2, sLen_lst, sLen_sl, sLen_nils, sSame_refl, decide_true, decide_false, Bool.not_true, Bool.not_false, sChk_t]
  by_cases hk0 : 0 < k
  case neg =>
    simp only [show ¬ (0 : Int) < k by omega, decide_false, sCond_f]
    rw [F20.k31]
    simp (disch := omega) only [sAdd, sSub, sMul, sEql, sNeq, sLss, sLeq, sGtr, sGeq, sPick_t, sPick_f, sCond_t, sCond_f, sG_tt, sG_ff, sG_tf, sG_ft, sNot_b, sExt0, sExt1, sExt2, sPart0, sPart1, sPart2, sLen_lst, sLen_sl, sLen_nils, sSame_refl, decide_true, decide_false, Bool.not_true, Bool.not_false, sChk_t]
    refine hR (n + 1 - (x + 1)) _ _ _ _ _ _ _ _ (by omega) ⟨x + 1, rfl, rfl, by omega, by omega, H2.cast ?_⟩
    congr 2
    refine tabL_congr fun p q hp _ => ?_
    obtain rfl : k = 0 := by omega
    simp only [tabK, Nat.add_sub_cancel]
    by_cases hp0 : 0 < p
    · rw [if_pos hp0]
    · obtain rfl : p = 0 := by omega
      simp [cI, cnt_zero']
  simp only [show (0 : Int) < k by omega, decide_true, sCond_t]
  refine F20.L23 (fun m z12 h' nx' => ∃ t : Nat, z12 = I ((t : Int) - 1) ∧ t = m ∧ t ≤ s + 1 ∧ (x ≤ t ∨ t = s + 1) ∧ Hp h0 h' nx' [.tab id rs (tabL (z + 1) (s + 1) fun p q => if p = k ∧ t ≤ q then I ((cnt 1 (x - 1) k (q : Int) : Int) + (cnt 1 (x - 1) (k - 1) ((q - x : Nat) : Int) : Int)) else tabK x z k p q)]) (m := s + 1) (by omega) ⟨s + 1, by congr 1; omega, rfl, Nat.le_refl _, .inr rfl, H2.cast ?_⟩ ?_
  · congr 2
    exact tabL_congr fun p q _ hq => by rw [if_neg (by omega)]
  rintro m z12 z20 h3 nx3 R3 ⟨t, rfl, rfl, ht, hxt, H3⟩ hR3
  simp (disch := omega) only [sAdd, sSub, sMul, sEql, sNeq, sLss, sLeq, sGtr, sGeq, sPick_t, sPick_f, sCond_t, sCond_f, sG_tt, sG_ff, sG_tf, sG_ft, sNot_b, sExt0, sExt1, sExt2, sPart0, sPart1, sPart2, sLen_lst, sLen_sl, sLen_nils, sSame_refl, decide_true, decide_false, Bool.not_true, Bool.not_false, sChk_t]
  by_cases hq : x < t
  case neg =>
    simp only [show ¬ (x : Int) ≤ (t : Int) - 1 by omega, decide_false, sCond_f]
    rw [F20.k30]
    simp (disch := omega) only [sAdd, sSub, sMul, sEql, sNeq, sLss, sLeq, sGtr, sGeq, sPick_t, sPick_f, sCond_t, sCond_f, sG_tt, sG_ff, sG_tf, sG_ft, sNot_b, sExt0, sExt1, sExt2, sPart0, sPart1, sPart2, sLen_lst, sLen_sl, sLen_nils, sSame_refl, decide_true, decide_false, Bool.not_true, Bool.not_false, sChk_t]
    refine hR2 (k - 1) _ _ _ _ _ _ (by omega) ⟨k - 1, by congr 1; omega, rfl, by omega, H3.cast ?_⟩
    rw [← tabK_step (s := s) (z := z) hx1 hk0]
    congr 2
    refine tabL_congr fun p q _ hq2 => ?_
    by_cases e : p = k ∧ x ≤ q
    · rw [if_pos ⟨e.1, by omega⟩, if_pos e]
    · rw [if_neg e, if_neg (by omega)]
  simp only [show (x : Int) ≤ (t : Int) - 1 by omega, decide_true, sCond_t]
  obtain ⟨t, rfl⟩ : ∃ t', t = t' + 1 := ⟨t - 1, by omega⟩
  have hrow : ∀ p, p < z + 1 → ∃ r, rs[p]? = some (some r) := fun p hp => H3.tabRow (k := 0) rfl (tabL_get hp) (by rw [← List.length_pos_iff]; simp)
  obtain ⟨r1, hr1⟩ := hrow k (by omega)
  obtain ⟨r2, hr2⟩ := hrow (k - 1) (by omega)
  have c1 := cnt_lt (x := x - 1) (i := k) (s := t) (by omega)
  have c2 := cnt_lt (x := x - 1) (i := k - 1) (s := ((t - x : Nat) : Int)) (by omega)
  rw [sIx (i := k) rfl (by omega), H3.tabLoad (k := 0) rfl (tabL_get (by omega)) hr1 rowL_length]
  rw [sIx (i := t) (by omega) (by omega), H3.cellLoad (k := 0) rfl (tabL_get (k := k) (by omega)) hr1 (rowL_get (by omega))]
  rw [sIx (i := k - 1) (by omega) (by omega), H3.tabLoad (k := 0) rfl (tabL_get (by omega)) hr2 rowL_length]
  rw [sIx (i := t - x) (by omega) (by omega), H3.cellLoad (k := 0) rfl (tabL_get (k := k - 1) (by omega)) hr2 (rowL_get (by omega))]
  simp only [tabK]
  rw [if_neg (by omega), if_neg (by omega), if_neg (by omega), if_neg (by omega), sAdd (by omega), sIx (i := t) (by omega) (by omega)]
  refine H3.cellStore (k := 0) rfl (tabL_get (k := k) (by omega)) hr1 (by simp; omega) rfl fun h4 H4 => ?_
  refine hR3 t _ _ _ _ (by omega) ⟨t, by congr 1; omega, rfl, by omega, .inl (by omega), H4.cast ?_⟩
  rw [List.set_cons_zero, tabL_set]
  congr 2
  refine tabL_congr fun p q _ _ => ?_
  by_cases e : p = k ∧ q = t
  · obtain ⟨rfl, rfl⟩ := e
    rw [if_pos ⟨rfl, rfl⟩, if_pos ⟨rfl, Nat.le_refl _⟩]
  · rw [if_neg e]
    by_cases e2 : p = k ∧ t + 1 ≤ q
    · rw [if_pos e2, if_pos ⟨e2.1, by omega⟩]
    · rw [if_neg e2, if_neg (by omega)]

theorem twoHalf (z : Nat) : 2 * ((z * (z - 1) / 2 : Nat) : Int) ≤ (z : Int) * ((z : Int) - 1) := by
  cases z with
  | zero => simp
  | succ z =>
    have : ((z + 1 : Nat) : Int) * (((z + 1 : Nat) : Int) - 1) = (((z + 1) * z : Nat) : Int) := by
      rw [Int.natCast_mul]; congr 1; omega
    rw [this, Nat.add_sub_cancel]
    omega
theorem halfLe {z M : Nat} (hz : z ≤ M) : ((z * (z - 1) / 2 : Nat) : Int) ≤ ((M * M : Nat) : Int) := by
  have := Nat.mul_le_mul hz (show z - 1 ≤ M by omega)
  omega
theorem cnt_below {n z : Nat} {sum : Int} (h : sum < (z : Int) * 1 + ((z * (z - 1) / 2 : Nat) : Int)) : cnt 1 n z sum = 0 := by
  refine cnt_low n 1 z sum ?_
  have h2 := twoHalf z
  have e1 : (z : Int) * (2 * ((1 : Nat) : Int) + (z : Int) - 1) = 2 * z + (z : Int) * ((z : Int) - 1) := by
    simp only [Int.mul_add, Int.mul_sub, Int.mul_one]; omega
  rw [e1]; omega
theorem cnt_above {n z : Nat} {sum : Int} (h : (z : Int) * n - ((z * (z - 1) / 2 : Nat) : Int) < sum) : cnt 1 n z sum = 0 := by
  refine cnt_high n 1 z sum ?_
  have h2 := twoHalf z
  have e1 : (z : Int) * (2 * ((1 + n : Nat) : Int) - (z : Int) - 1) = 2 * ((z : Int) * n) - (z : Int) * ((z : Int) - 1) := by
    push_cast
    simp only [Int.mul_add, Int.mul_sub, Int.mul_one]
    rw [Int.mul_left_comm]; omega
  rw [e1]; omega

theorem setCount20 {n z : Nat} (hz : z ≤ n) (hn : n ≤ 20) (sum : Int) : Pure Tryz.prog B 20 [I n, I z, I sum] (· = .tup [I (cnt 1 n z sum : Int), I 0]) := by
  refine pure_hp fun h nx K H0 hK => by_body tbl_ok dreg 1000 fun hf => ?_
  rw [F20.go]
  refine checkSets76 _ _ _ _ _ _ ?_
  rintro _ rfl _
  rw [if_neg (by omega)]
  simp (disch := omega) only [sAdd, sSub, sMul, sEql, sNeq, sLss, sLeq, sGtr, sGeq, sPick_t, sPick_f, sCond_t, sCond_f, sG_tt, sG_ff, sG_tf, sG_ft, sNot_b, sExt0, sExt1, sExt2, sPart0, sPart1, sPart2, sLen_lst, sLen_sl, sLen_nils, sSame_refl, decide_true, decide_false, Bool.not_true, Bool.not_false, sChk_t]
  refine span78 (by omega) (by omega) (by omega) _ _ _ _ ?_
  rintro _ rfl _
  rw [half_nat]
  have hhl := halfLe (M := 20) (z := z) (by omega)
  have hzn : (z : Int) * n ≤ 400 := by
    have := Nat.mul_le_mul (show z ≤ 20 by omega) hn
    rw [← Int.natCast_mul]; omega
  have ret : ∀ h' nx' L, Hp h h' nx' L → K (.tup [I (cnt 1 n z sum : Int), I 0]) h' nx' = .ok True := fun h' nx' L H => hK _ _ _ L _ H (frz_tup2 (frz_fixd rfl) (frz_fixd rfl)) rfl
  have hb := @cnt_below n z sum
  have ha := @cnt_above n z sum
  have hq0 : (0 : Int) ≤ ((z * (z - 1) / 2 : Nat) : Int) := Int.natCast_nonneg _
  generalize ((z * (z - 1) / 2 : Nat) : Int) = q at *
  generalize (z : Int) * n = zn at *
  simp (disch := omega) only [sAdd, sSub, sMul, sEql, sNeq, sLss, sLeq, sGtr, sGeq, sPick_t, sPick_f, sCond_t, sCond_f, sG_tt, sG_ff, sG_tf, sG_ft, sNot_b, sExt0, sExt1, sExt2, sPart0, sPart1, sPart2, sLen_lst, sLen_sl, sLen_nils, sSame_refl, decide_true, decide_false, Bool.not_true, Bool.not_false, sChk_t]
  by_cases h1 : sum < z * 1 + q
  · simp only [h1, decide_true, sG_tf, sPick_t, sCond_t]
    rw [hb h1] at ret
    exact ret _ _ _ H0
  simp only [h1, decide_false, sG_ff, sPick_f]
  by_cases h2 : zn - q < sum
  · simp only [sGtr, h2, decide_true, sCond_t]
    rw [ha h2] at ret
    exact ret _ _ _ H0
  simp only [sGtr, h2, decide_false, sCond_f]
  obtain ⟨s, rfl⟩ : ∃ s : Nat, sum = s := ⟨sum.toNat, by omega⟩
  refine H0.mk1 (z + 1) (by omega) (by omega) (by omega) (by omega) fun id h1 nx1 H1 => ?_
  simp (disch := omega) only [sAdd, sSub, sMul, sEql, sNeq, sLss, sLeq, sGtr, sGeq, sPick_t, sPick_f, sCond_t, sCond_f, sG_tt, sG_ff, sG_tf, sG_ft, sNot_b, sExt0, sExt1, sExt2, sPart0, sPart1, sPart2, sLen_lst, sLen_sl, sLen_nils, sSame_refl, decide_true, decide_false, Bool.not_true, Bool.not_false, sChk_t]
  refine F20.rows (s := s) (by omega) (by omega) (by omega) H1 fun x9 x16 x17 h2 nx2 rs H2 => ?_
  rw [F20.k10]
  have hrow : ∀ {D : Nat → Nat → AV} {h' nx'} (_ : Hp h h' nx' [.tab id rs (tabL (z + 1) (s + 1) D)]) p, p < z + 1 → ∃ r, rs[p]? = some (some r) := fun H p hp => H.tabRow (k := 0) rfl (tabL_get hp) (by rw [← List.length_pos_iff]; simp)
  obtain ⟨r0, hr0⟩ := hrow H2 0 (by omega)
  rw [sIx (j := 0) (i := 0) rfl (by omega), H2.tabLoad (k := 0) rfl (tabL_get (by omega)) hr0 rowL_length, sIx (j := 0) (i := 0) rfl (by omega)]
  refine H2.cellStore (k := 0) rfl (tabL_get (k := 0) (by omega)) hr0 (by simp) rfl fun h3 H3 => ?_
  refine F20.fill (rs := rs) (by omega) hn (by omega) (by omega) (H3.cast ?_) fun x10 x11 x12 x18 x19 x20 h4 nx4 H4 => ?_
  · rw [List.set_cons_zero, tabL_set]
    congr 2
    refine tabL_congr fun p q _ _ => ?_
    simp only [cI, cnt_init]
    by_cases e : p = 0 ∧ q = 0
    · simp [e]
    · simp [e]
  rw [F20.k32]
  obtain ⟨r1, hr1⟩ := hrow H4 z (by omega)
  rw [sIx (i := z) rfl (by omega), H4.tabLoad (k := 0) rfl (tabL_get (by omega)) hr1 rowL_length]
  rw [sIx (i := s) rfl (by omega), H4.cellLoad (k := 0) rfl (tabL_get (k := z) (by omega)) hr1 (rowL_get (by omega))]
  exact ret _ _ _ H4
theorem setCount20_err {n z : Int} (h : n < 0 ∨ 64 < n ∨ z < 0 ∨ n < z) (sum : Int) : Pure Tryz.prog B 20 [I n, I z, I sum] (· = .tup [I 0, I 3]) := by
  intro p h' nx K hK
  refine by_body tbl_ok dreg 9 fun hf => ?_
  rw [F20.go]
  refine checkSets76 _ _ _ _ _ _ ?_
  rintro _ rfl _
  rw [if_pos h]
  simp (disch := omega) only [sAdd, sSub, sMul, sEql, sNeq, sLss, sLeq, sGtr, sGeq, sPick_t, sPick_f, sCond_t, sCond_f, sG_tt, sG_ff, sG_tf, sG_ft, sNot_b, sExt0, sExt1, sExt2, sPart0, sPart1, sPart2, sLen_lst, sLen_sl, sLen_nils, sSame_refl, decide_true, decide_false, Bool.not_true, Bool.not_false, sChk_t]
  exact hK _ rfl hf
theorem F22.rows {N : Nat} {K0 : Kw Prop} {K : Ks Prop} {h0 h : T Blk} {nx : Pa} {x0 x2 x3 x7 x8 x9 x10 x11 x12 x13 x14 : AV} {id : Pa} {z s : Nat} (hN : z + 2 < N) (hs : s ≤ 100000) (hz : z ≤ 100000)
    (H : Hp h0 h nx [.arr id (List.replicate (z + 1) .nils)])
    (hK : ∀ x6 x10 h' nx' rs, Hp h0 h' nx' [.tab id rs (tabL (z + 1) (s + 1) fun _ _ => I 0)] → K (F22.fr x0 (I z) x2 x3 (.sl id 0 (z + 1) (some (z + 1)) 1) (I s) x6 x7 x8 x9 x10 x11 x12 x13 x14) h' nx' = .ok True) :
    IR.run F22.b1 (CS Tryz.prog B) N (fnO F22.res K0) K (F22.fr x0 (I z) x2 x3 (.sl id 0 (z + 1) (some (z + 1)) 1) (I s) (I 0) x7 x8 x9 x10 x11 x12 x13 x14) h nx = .ok True := by
  refine F22.L1 (fun m x6 h' nx' => ∃ (i : Nat) (rs : List (Option Pa)), x6 = I i ∧ m = z + 1 - i ∧ i ≤ z + 1 ∧ (∀ p, i ≤ p → p < z + 1 → rs[p]? = some none) ∧ Hp h0 h' nx' [.tab id rs (rowL (z + 1) fun p => if p < i then rowL (s + 1) fun _ => I 0 else [])]) (m := z + 1) (by omega)
    ⟨0, List.replicate (z + 1) none, rfl, by simp, by omega, fun p _ hp => by simp [hp], by simpa [rowL_const] using H.asTab⟩ ?_
  rintro m z6 z10 h1 nx1 R ⟨i, rs, rfl, rfl, hi, hrs, H1⟩ hR
  simp (disch := omega) only [sAdd, sSub, sMul, sEql, sNeq, sLss, sLeq, sGtr, sGeq, sPick_t, sPick_f, sCond_t, sCond_f, sG_tt, sG_ff, sG_tf, sG_ft, sNot_b, sExt0, sExt1, sExt2, sPart0, sPart1, sPart2, sLen_lst, sLen_sl, sLen_nils, sSame_refl, decide_true, decide_false, Bool.not_true, Bool.not_false, sChk_t]
  by_cases hlt : i < z + 1
  · simp only [show (i : Int) ≤ (z : Int) by omega, decide_true, sCond_t]
    refine H1.mk1 (s + 1) (by omega) (by omega) (by omega) (by omega) fun r h2 nx2 H2 => ?_
    rw [sIx (i := i) rfl hlt]
    have H3 : Hp h0 h2 nx2 [.arr r (rowL (s + 1) fun _ => I 0), .tab id rs (rowL (z + 1) fun p => if p < i then rowL (s + 1) fun _ => I 0 else [])] := by simpa [rowL_const] using H2
    refine H3.putRow rowL_length (k := 0) rfl (hrs i (Nat.le_refl _) hlt) fun h4 H4 => ?_
    refine hR (z + 1 - (i + 1)) _ _ _ _ (by omega) ⟨i + 1, rs.set i (some r), rfl, rfl, by omega, fun p h1 h2 => ?_, H4.cast ?_⟩
    · rw [List.getElem?_set_ne (by omega)]; exact hrs p (by omega) h2
    · simp only [List.set_cons_zero, rowL_set]
      congr 2
      refine rowL_congr fun p _ => ?_
      by_cases e : p = i
      · subst e; simp
      · simp only [if_neg e]
        by_cases e2 : p < i
        · rw [if_pos e2, if_pos (by omega)]
        · rw [if_neg e2, if_neg (by omega)]
  · simp only [show ¬ (i : Int) ≤ (z : Int) by omega, decide_false, sCond_f]
    refine hK _ _ _ _ rs (H1.cast ?_)
    congr 2
    exact rowL_congr fun p hp => by rw [if_pos (by omega)]

theorem F22.fill {N : Nat} {K0 : Kw Prop} {K : Ks Prop} {h0 h : T Blk} {nx : Pa} {x2 x3 x6 x8 x9 x10 x11 x12 x13 x14 : AV} {id : Pa} {n z s : Nat} {rs : List (Option Pa)} (hN : n + z + s + 3 < N) (hn : n ≤ 20) (hs : s ≤ 100000) (hz : z ≤ 100000)
    (H : Hp h0 h nx [.tab id rs (tabL (z + 1) (s + 1) fun p q => cI 0 p q)])
    (hK : ∀ x7 x8 x9 x11 x12 x13 h' nx', Hp h0 h' nx' [.tab id rs (tabL (z + 1) (s + 1) fun p q => cI n p q)] → K (F22.fr (I n) (I z) x2 x3 (.sl id 0 (z + 1) (some (z + 1)) 1) (I s) x6 x7 x8 x9 x10 x11 x12 x13 x14) h' nx' = .ok True) :
    IR.run F22.b9 (CS Tryz.prog B) N (fnO F22.res K0) K (F22.fr (I n) (I z) x2 x3 (.sl id 0 (z + 1) (some (z + 1)) 1) (I s) x6 (I 1) x8 x9 x10 x11 x12 x13 x14) h nx = .ok True := by
  refine F22.L9 (fun m z7 h' nx' => ∃ x : Nat, z7 = I x ∧ m = n + 1 - x ∧ 1 ≤ x ∧ x ≤ n + 1 ∧ Hp h0 h' nx' [.tab id rs (tabL (z + 1) (s + 1) fun p q => cI (x - 1) p q)]) (m := n) (by omega) ⟨1, rfl, by omega, by omega, by omega, H⟩ ?_
  rintro m z7 z8 z9 z11 z12 z13 h1 nx1 R ⟨x, rfl, rfl, hx1, hx2, H1⟩ hR
  simp (disch := omega) only [sAdd, sSub, sMul, sEql, sNeq, sLss, sLeq, sGtr, sGeq, sPick_t, sPick_f, sCond_t, sCond_f, sG_tt, sG_ff, sG_tf, sG_ft, sNot_b, sExt0, sExt1, sExt2, sPart0, sPart1, sPart2, sLen_lst, sLen_sl, sLen_nils, sSame_refl, decide_true, decide_false, Bool.not_true, Bool.not_false, sChk_t]
  by_cases hlt : x ≤ n
  case neg =>
    simp only [show ¬ (x : Int) ≤ n by omega, decide_false, sCond_f]
    obtain rfl : x = n + 1 := by omega
    exact hK _ _ _ _ _ _ _ _ H1
  simp only [show (x : Int) ≤ n by omega, decide_true, sCond_t]
  refine F22.L15 (fun m z8 h' nx' => ∃ k : Nat, z8 = I k ∧ k = m ∧ k ≤ z ∧ Hp h0 h' nx' [.tab id rs (tabL (z + 1) (s + 1) (tabK x z k))]) (m := z) (by omega) ⟨z, rfl, rfl, Nat.le_refl _, H1.cast ?_⟩ ?_
  · congr 2
    exact tabL_congr fun p q hp _ => by simp only [tabK]; rw [if_neg (by omega)]
  rintro m z8 z9 z12 z13 h2 nx2 R2 ⟨k, rfl, rfl, hk, H2⟩ hR2
  simp (disch := omega) only [sAdd, sSub, sMul, sEql, sNeq, sLss, sLeq, sGtr, sGeq, sPick_t, sPick_f, sCond_t, sCond_f, sG_tt, sG_ff, sG_tf, sG_ft, sNot_b, sExt0, sExt1, sExt2, sPart0, sPart1, sPart2, sLen_lst, sLen_sl, sLen_nils, sSame_refl, decide_true, decide_false, Bool.not_true, Bool.not_false, sChk_t]
  by_cases hk0 : 1 ≤ k
  case neg =>
    simp only [show ¬ (1 : Int) ≤ k by omega, decide_false, sCond_f]
    rw [F22.k29]
    simp (disch := omega) only [sAdd, sSub, sMul, sEql, sNeq, sLss, sLeq, sGtr, sGeq, sPick_t, sPick_f, sCond_t, sCond_f, sG_tt, sG_ff, sG_tf, sG_ft, sNot_b, sExt0, sExt1, sExt2, sPart0, sPart1, sPart2, sLen_lst, sLen_sl, sLen_nils, sSame_refl, decide_true, decide_false, Bool.not_true, Bool.not_false, sChk_t]
    refine hR (n + 1 - (x + 1)) _ _ _ _ _ _ _ _ (by omega) ⟨x + 1, rfl, rfl, by omega, by omega, H2.cast ?_⟩
    congr 2
    refine tabL_congr fun p q hp _ => ?_
    obtain rfl : k = 0 := by omega
    simp only [tabK, Nat.add_sub_cancel]
    by_cases hp0 : 0 < p
    · rw [if_pos hp0]
    · obtain rfl : p = 0 := by omega
      simp [cI, cnt_zero']
  simp only [show (1 : Int) ≤ k by omega, decide_true, sCond_t]
  refine F22.L21 (fun m z9 h' nx' => ∃ t : Nat, z9 = I ((t : Int) - 1) ∧ t = m ∧ t ≤ s + 1 ∧ (x ≤ t ∨ t = s + 1) ∧ Hp h0 h' nx' [.tab id rs (tabL (z + 1) (s + 1) fun p q => if p = k ∧ t ≤ q then I ((cnt 1 (x - 1) k (q : Int) : Int) + (cnt 1 (x - 1) (k - 1) ((q - x : Nat) : Int) : Int)) else tabK x z k p q)]) (m := s + 1) (by omega) ⟨s + 1, by congr 1; omega, rfl, Nat.le_refl _, .inr rfl, H2.cast ?_⟩ ?_
  · congr 2
    exact tabL_congr fun p q _ hq => by rw [if_neg (by omega)]
  rintro m z9 z13 h3 nx3 R3 ⟨t, rfl, rfl, ht, hxt, H3⟩ hR3
  simp (disch := omega) only [sAdd, sSub, sMul, sEql, sNeq, sLss, sLeq, sGtr, sGeq, sPick_t, sPick_f, sCond_t, sCond_f, sG_tt, sG_ff, sG_tf, sG_ft, sNot_b, sExt0, sExt1, sExt2, sPart0, sPart1, sPart2, sLen_lst, sLen_sl, sLen_nils, sSame_refl, decide_true, decide_false, Bool.not_true, Bool.not_false, sChk_t]
  by_cases hq : x < t
  case neg =>
    simp only [show ¬ (x : Int) ≤ (t : Int) - 1 by omega, decide_false, sCond_f]
    rw [F22.k28]
    simp (disch := omega) only [sAdd, sSub, sMul, sEql, sNeq, sLss, sLeq, sGtr, sGeq, sPick_t, sPick_f, sCond_t, sCond_f, sG_tt, sG_ff, sG_tf, sG_ft, sNot_b, sExt0, sExt1, sExt2, sPart0, sPart1, sPart2, sLen_lst, sLen_sl, sLen_nils, sSame_refl, decide_true, decide_false, Bool.not_true, Bool.not_false, sChk_t]
    refine hR2 (k - 1) _ _ _ _ _ _ (by omega) ⟨k - 1, by congr 1; omega, rfl, by omega, H3.cast ?_⟩
    rw [← tabK_step (s := s) (z := z) hx1 hk0]
    congr 2
    refine tabL_congr fun p q _ hq2 => ?_
    by_cases e : p = k ∧ x ≤ q
    · rw [if_pos ⟨e.1, by omega⟩, if_pos e]
    · rw [if_neg e, if_neg (by omega)]
  simp only [show (x : Int) ≤ (t : Int) - 1 by omega, decide_true, sCond_t]
  obtain ⟨t, rfl⟩ : ∃ t', t = t' + 1 := ⟨t - 1, by omega⟩
  have hrow : ∀ p, p < z + 1 → ∃ r, rs[p]? = some (some r) := fun p hp => H3.tabRow (k := 0) rfl (tabL_get hp) (by rw [← List.length_pos_iff]; simp)
  obtain ⟨r1, hr1⟩ := hrow k (by omega)
  obtain ⟨r2, hr2⟩ := hrow (k - 1) (by omega)
  have c1 := cnt_lt (x := x - 1) (i := k) (s := t) (by omega)
  have c2 := cnt_lt (x := x - 1) (i := k - 1) (s := ((t - x : Nat) : Int)) (by omega)
  rw [sIx (i := k) rfl (by omega), H3.tabLoad (k := 0) rfl (tabL_get (by omega)) hr1 rowL_length]
  rw [sIx (i := k) rfl (by omega), H3.tabLoad (k := 0) rfl (tabL_get (by omega)) hr1 rowL_length]
  rw [sIx (i := t) (by omega) (by omega), H3.cellLoad (k := 0) rfl (tabL_get (k := k) (by omega)) hr1 (rowL_get (by omega))]
  rw [sIx (i := k - 1) (by omega) (by omega), H3.tabLoad (k := 0) rfl (tabL_get (by omega)) hr2 rowL_length]
  rw [sIx (i := t - x) (by omega) (by omega), H3.cellLoad (k := 0) rfl (tabL_get (k := k - 1) (by omega)) hr2 (rowL_get (by omega))]
  simp only [tabK]
  rw [if_neg (by omega), if_neg (by omega), if_neg (by omega), if_neg (by omega), sAdd (by omega), sIx (i := t) (by omega) (by omega)]
  refine H3.cellStore (k := 0) rfl (tabL_get (k := k) (by omega)) hr1 (by simp; omega) rfl fun h4 H4 => ?_
  refine hR3 t _ _ _ _ (by omega) ⟨t, by congr 1; omega, rfl, by omega, .inl (by omega), H4.cast ?_⟩
  rw [List.set_cons_zero, tabL_set]
  congr 2
  refine tabL_congr fun p q _ _ => ?_
  by_cases e : p = k ∧ q = t
  · obtain ⟨rfl, rfl⟩ := e
    rw [if_pos ⟨rfl, rfl⟩, if_pos ⟨rfl, Nat.le_refl _⟩]
  · rw [if_neg e]
    by_cases e2 : p = k ∧ t + 1 ≤ q
    · rw [if_pos e2, if_pos ⟨e2.1, by omega⟩]
    · rw [if_neg e2, if_neg (by omega)]


theorem setCount22 {n z : Nat} (hz : z ≤ n) (hn : n ≤ 20) (sum : Int) : Pure Tryz.prog B 22 [I n, I z, I sum] (· = I (cnt 1 n z sum : Int)) := by
  refine pure_hp fun h nx K H0 hK => by_body tbl_ok dreg 1000 fun hf => ?_
  rw [F22.go]
  have ret : ∀ h' nx' L, Hp h h' nx' L → K (I (cnt 1 n z sum : Int)) h' nx' = .ok True := fun h' nx' L H => hK _ _ _ L _ H (frz_fixd rfl) rfl
  obtain ⟨M, hM⟩ : ∃ M : Nat, M = n * (n + 1) / 2 := ⟨_, rfl⟩
  have hM1 : M ≤ 210 := by
    have := Nat.mul_le_mul hn (show n + 1 ≤ 21 by omega)
    omega
  have hq : ((n : Int) * ((n : Int) + 1)).tdiv 2 = (M : Int) := by
    rw [show (n : Int) * ((n : Int) + 1) = ((n * (n + 1) : Nat) : Int) by rw [Int.natCast_mul]; rfl, Int.tdiv_eq_ediv_of_nonneg (by omega)]
    omega
  have hmul : (n : Int) * ((n : Int) + 1) ≤ 420 := by
    have := Nat.mul_le_mul hn (show n + 1 ≤ 21 by omega)
    rw [show (n : Int) * ((n : Int) + 1) = ((n * (n + 1) : Nat) : Int) by rw [Int.natCast_mul]; rfl]
    omega
  have hmul0 : 0 ≤ (n : Int) * ((n : Int) + 1) := Int.mul_nonneg (by omega) (by omega)
  have habove : (M : Int) < sum → cnt 1 n z sum = 0 := fun h => by
    refine cnt_high n 1 z sum ?_
    have e1 : (z : Int) * (2 * ((1 + n : Nat) : Int) - (z : Int) - 1) ≤ (n : Int) * ((n : Int) + 1) := by
      obtain ⟨d, rfl⟩ : ∃ d, n = z + d := ⟨n - z, by omega⟩
      have e2 : ((z + d : Nat) : Int) * (((z + d : Nat) : Int) + 1) = (z : Int) * (2 * ((1 + (z + d) : Nat) : Int) - (z : Int) - 1) + ((d * (d + 1) : Nat) : Int) := by
        push_cast
        simp only [Int.mul_add, Int.add_mul, Int.mul_sub, Int.mul_one, Int.one_mul, Int.mul_comm (d : Int) (z : Int), Int.mul_left_comm (z : Int) 2]
        omega
      omega
    have h3 : (n : Int) * ((n : Int) + 1) < 2 * (M : Int) + 2 := by rw [← hq, Int.tdiv_eq_ediv_of_nonneg hmul0]; omega
    omega
  simp (disch := omega) only [sAdd, sSub, sMul, sEql, sNeq, sLss, sLeq, sGtr, sGeq, sPick_t, sPick_f, sCond_t, sCond_f, sG_tt, sG_ff, sG_tf, sG_ft, sNot_b, sExt0, sExt1, sExt2, sPart0, sPart1, sPart2, sLen_lst, sLen_sl, sLen_nils, sSame_refl, decide_true, decide_false, Bool.not_true, Bool.not_false, sChk_t]
  refine H0.mk1 (z + 1) (by omega) (by omega) (by omega) (by omega) fun id h1 nx1 H1 => ?_
  rw [sQuo (by decide) (by omega), hq]
  refine F22.rows (s := M) (by omega) (by omega) (by omega) H1 fun x6 x10 h2 nx2 rs H2 => ?_
  rw [F22.k8]
  have hrow : ∀ {D : Nat → Nat → AV} {h' nx'} (_ : Hp h h' nx' [.tab id rs (tabL (z + 1) (M + 1) D)]) p, p < z + 1 → ∃ r, rs[p]? = some (some r) := fun H p hp => H.tabRow (k := 0) rfl (tabL_get hp) (by rw [← List.length_pos_iff]; simp)
  obtain ⟨r0, hr0⟩ := hrow H2 0 (by omega)
  rw [sIx (j := 0) (i := 0) rfl (by omega), H2.tabLoad (k := 0) rfl (tabL_get (by omega)) hr0 rowL_length, sIx (j := 0) (i := 0) rfl (by omega)]
  refine H2.cellStore (k := 0) rfl (tabL_get (k := 0) (by omega)) hr0 (by simp) rfl fun h3 H3 => ?_
  refine F22.fill (rs := rs) (by omega) hn (by omega) (by omega) (H3.cast ?_) fun x7 x8 x9 x11 x12 x13 h4 nx4 H4 => ?_
  · rw [List.set_cons_zero, tabL_set]
    congr 2
    refine tabL_congr fun p q _ _ => ?_
    simp only [cI, cnt_init]
    by_cases e : p = 0 ∧ q = 0
    · simp [e]
    · simp [e]
  rw [F22.k30]
  simp (disch := omega) only [sAdd, sSub, sMul, sEql, sNeq, sLss, sLeq, sGtr, sGeq, sPick_t, sPick_f, sCond_t, sCond_f, sG_tt, sG_ff, sG_tf, sG_ft, sNot_b, sExt0, sExt1, sExt2, sPart0, sPart1, sPart2, sLen_lst, sLen_sl, sLen_nils, sSame_refl, decide_true, decide_false, Bool.not_true, Bool.not_false, sChk_t]
  by_cases h1 : sum < 0
  · simp only [h1, decide_true, sG_tf, sPick_t, sCond_t]
    rw [cnt_neg _ _ _ _ h1] at ret
    exact ret _ _ _ H4
  simp only [h1, decide_false, sG_ff, sPick_f]
  by_cases h2 : (M : Int) < sum
  · simp only [sGtr, h2, decide_true, sCond_t]
    rw [habove h2] at ret
    exact ret _ _ _ H4
  simp only [sGtr, h2, decide_false, sCond_f]
  obtain ⟨s, rfl⟩ : ∃ s : Nat, sum = s := ⟨sum.toNat, by omega⟩
  obtain ⟨r1, hr1⟩ := hrow H4 z (by omega)
  rw [sIx (i := z) rfl (by omega), H4.tabLoad (k := 0) rfl (tabL_get (by omega)) hr1 rowL_length]
  rw [sIx (i := s) rfl (by omega), H4.cellLoad (k := 0) rfl (tabL_get (k := z) (by omega)) hr1 (rowL_get (by omega))]
  exact ret _ _ _ H4
end Go.Ev
/-
  Contracts: the reference's sets.
-/
namespace Go.Ev
open Go Go.Proofs
variable {B : Nat}

theorem sets_out {n x k : Nat} {s : Int} (h : s < (((k + 1 : Nat) : Int) * (x : Int)) + ((((k + 1) * (k + 1 - 1) / 2 : Nat)) : Int)) (j : Nat) : sets x j (k + 1) s = [] := by
  refine sets_nil (cnt_low _ _ _ _ ?_)
  have h2 := twoHalf (k + 1)
  have e1 : ((k + 1 : Nat) : Int) * (2 * (x : Int) + ((k + 1 : Nat) : Int) - 1) = 2 * (((k + 1 : Nat) : Int) * (x : Int)) + ((k + 1 : Nat) : Int) * (((k + 1 : Nat) : Int) - 1) := by
    simp only [Int.mul_add, Int.mul_sub, Int.mul_one]
    rw [Int.mul_left_comm]; omega
  rw [e1]; omega

theorem refSets24 : ∀ (k : Nat) {lo n : Nat} {s : Int} {b : AV} {bl : List Int}, LI b bl → lo ≤ n + 1 → n ≤ 20 → 1 ≤ lo → k ≤ 64 → bl.length + k ≤ 64 → -9223372036854775808 ≤ s → s ≤ 9223372036854775807 → cnt lo (n + 1 - lo) k s ≤ 1024 →
    Pure Tryz.prog B 24 [b, I lo, I n, I k, I s] (· = encT ((sets lo (n + 1 - lo) k s).map (bl ++ ·)))
  | 0, lo, n, s, b, bl, hb, hlo, hn, h1, hk, hbl, hs1, hs2, hc => by
    refine pure_hp fun h nx K H0 hK => by_body tbl_ok dreg 9 fun hf => ?_
    rw [F24.go]
    simp only [sEql, Int.ofNat_zero, decide_true, sCond_t]
    have e0 : sets lo (n + 1 - lo) 0 s = if s = 0 then [[]] else [] := by cases n + 1 - lo <;> simp [sets]
    by_cases hz : s = 0
    · simp only [hz, decide_true, sCond_t]
      refine H0.copy (fun h _ => hb.rd h) (by simp) (fun v hv => by obtain ⟨x, _, rfl⟩ := List.mem_map.1 hv; rfl) (by decide) (by omega) fun v X h1 n1 H1 hv1 hv2 hv3 => ?_
      have fill : fillA (repl 1 [.nils]) [(0, 1, v)] = some [v] := by simp only [fillA, hv1]; rfl
      refine H1.bslice (l := [v]) fill fun id h2 n2 H2 => ?_
      refine hK _ _ _ _ _ H2 (HasArr.frzE (H2.own (.arr id [v]) (List.mem_cons_self ..)) (H2.offArr (l := [v]) (List.mem_cons_self ..)) (Nat.le_refl _) rfl (l' := [encI bl]) rfl rfl ?_) ?_
      · intro i v1 v2 q1 q2
        match i with
        | 0 =>
          simp at q1 q2; subst q1; subst q2
          exact hv3 _ _ _ _ H2 (by simp)
        | i + 1 => simp at q1
      · rw [e0, if_pos hz]; simp
    · simp only [hz, decide_false, sCond_f]
      exact hK _ _ _ _ _ H0 (.lnils 1) (by rw [e0, if_neg hz]; rfl)
  | k + 1, lo, n, s, b, bl, hb, hlo, hn, h1, hk, hbl, hs1, hs2, hc => by
    refine pure_hp fun h nx K H0 hK => by_body tbl_ok dreg 1000 fun hf => ?_
    rw [F24.go]
    simp only [sEql, show ¬ ((k + 1 : Nat) : Int) = 0 by omega, decide_false, sCond_f]
    refine F24.L3 (fun m x6 x7 h' nx' => ∃ (x : Nat) (o : Option Pa) (D : List (List Int)), x7 = I x ∧ m = n + 1 - x ∧ lo ≤ x ∧ x ≤ n + 1 ∧ x6 = rowV o 1 D.length ∧ sets lo (n + 1 - lo) (k + 1) s = D ++ sets x (n + 1 - x) (k + 1) s ∧ Hp h h' nx' [.gro o 1 D.length (D.map fun t => encI (bl ++ t))]) (m := n + 1 - lo) (by omega)
      ⟨lo, none, [], rfl, rfl, Nat.le_refl _, hlo, rfl, rfl, ⟨H0.keep, by simp [Ob.holds], by simp [Ob.names], by simp [Ob.names], H0.fr⟩⟩ ?_
    rintro m z6 z7 z10 h1' nx1 R ⟨x, o, D, rfl, rfl, hx1, hx2, rfl, hD, H1⟩ hR
    have out : sets x (n + 1 - x) (k + 1) s = [] → ∀ z, IR.run F24.b10 (CS Tryz.prog B) 1000 (fnO F24.res K) (retK F24.res K) (F24.fr b (I lo) (I n) (I ((k + 1 : Nat) : Int)) (I s) .nils (rowV o 1 D.length) (I x) (.bool false) .undef z) h1' nx1 = .ok True := by
      intro he z
      rw [F24.k10]
      have h2 := H1.frzGro (k := 0) rfl (by intro v hv; obtain ⟨t, _, rfl⟩ := List.mem_map.1 hv; exact fixd_encI _)
      refine hK _ _ _ _ _ H1 h2 ?_
      rw [hD, he, List.append_nil]
      simp [encT, Function.comp_def]
    by_cases hlt : x ≤ n
    case neg =>
      simp only [sLeq, show ¬ (x : Int) ≤ n by omega, decide_false, sG_ft, sPick_f, sCond_f]
      refine out ?_ _
      rw [show n + 1 - x = 0 by omega]; simp [sets]
    have hkx := Nat.mul_le_mul (show k + 1 ≤ 64 by omega) (show x ≤ 20 by omega)
    have hhl := halfLe (M := 64) (z := k + 1) (by omega)
    have hq0 : (0 : Int) ≤ (((k + 1) * (k + 1 - 1) / 2 : Nat) : Int) := Int.natCast_nonneg _
    have hsub : ((k + 1 : Nat) : Int) * (((k + 1 : Nat) : Int) - 1) ≤ 4096 := by
      have := mul_bd (a := ((k + 1 : Nat) : Int)) (b := ((k + 1 : Nat) : Int) - 1) (M := 64) (by omega) (by omega) (by decide)
      omega
    have hsub0 : 0 ≤ ((k + 1 : Nat) : Int) * (((k + 1 : Nat) : Int) - 1) := Int.mul_nonneg (by omega) (by omega)
    have hh := half_nat (k + 1)
    have hkx0 : (0 : Int) ≤ ((k + 1 : Nat) : Int) * (x : Int) := Int.mul_nonneg (by omega) (by omega)
    have hkx1 : ((k + 1 : Nat) : Int) * (x : Int) ≤ 1280 := by rw [← Int.natCast_mul]; omega
    have hkx2 : (x : Int) ≤ ((k + 1 : Nat) : Int) * (x : Int) := by
      rw [← Int.natCast_mul]
      have := Nat.mul_le_mul (show 1 ≤ k + 1 by omega) (Nat.le_refl x)
      omega
    have hout := @sets_out n x k s
    simp only [sLeq, show (x : Int) ≤ n by omega, decide_true, sG_tt, sPick_t]
    rw [sMul (by omega), sSub (by omega), sMul (by omega), sQuo (by decide) (by rw [hh]; omega), hh, sAdd (by omega)]
    by_cases hle : ((k + 1 : Nat) : Int) * (x : Int) + (((k + 1) * (k + 1 - 1) / 2 : Nat) : Int) ≤ s
    case neg =>
      simp only [sLeq, hle, decide_false, sCond_f]
      exact out (hout (by omega) _) _
    simp only [sLeq, hle, decide_true, sCond_t]
    rw [F24.k6]
    refine H1.copyPush hb.rd (by simp) (scal_I bl) rfl rfl (by decide) (by omega) fun id h2 n2 H2 => ?_
    rw [sAdd (by omega), sSub (by omega), sSub (by omega)]
    have e3 : (bl.map I) ++ [I x] = (bl ++ [(x : Int)]).map I := by simp
    rw [e3] at H2
    obtain ⟨h3, hkeep, H3, hF⟩ := H2.letGro (by intro v hv; obtain ⟨t, _, rfl⟩ := List.mem_map.1 hv; rfl)
    have hsx : sets x (n + 1 - x) (k + 1) s = (sets (x + 1) (n + 1 - (x + 1)) k (s - x)).map ((x : Int) :: ·) ++ sets (x + 1) (n + 1 - (x + 1)) (k + 1) s := by
      rw [show n + 1 - x = (n + 1 - (x + 1)) + 1 by omega]; rfl
    have hcnt : cnt (x + 1) (n + 1 - (x + 1)) k (s - x) + D.length ≤ 1024 := by
      rw [← sets_length] at hc ⊢
      rw [hD, hsx] at hc
      simp only [List.length_append, List.length_map] at hc
      omega
    have hlen : (bl.map I ++ [I x]).length = bl.length + 1 := by simp
    refine CS_let hkeep (.cons hF (.cons (.int _ _) (.cons (.int _ _) (.cons (.int _ _) (.cons (.int _ _) .nil))))) ?_
    have ih := refSets24 k (lo := x + 1) (n := n) (s := s - x) (b := encI (bl ++ [(x : Int)])) (bl := bl ++ [(x : Int)]) (.inr rfl) (by omega) hn (by omega) (by omega) (by simp; omega) (by omega) (by omega) (by omega)
    have e4 : ((x : Int) + 1) = ((x + 1 : Nat) : Int) := by omega
    have e5 : ((k + 1 : Nat) : Int) - 1 = (k : Int) := by omega
    rw [e4, e5]
    have e6 : AV.lst 1 (bl.length + 1) ((bl ++ [(x : Int)]).map I) = encI (bl ++ [(x : Int)]) := by simp [encI]
    rw [e6]
    refine ih _ _ _ _ ?_
    rintro _ rfl _
    refine H3.appN (k := 0) (o := o) (c := ((sets (x + 1) (n + 1 - (x + 1)) k (s - x)).map ((bl ++ [(x : Int)]) ++ ·)).length) rfl (rdLst 1) (by simp) (by simp [List.all_eq_true, scal]) (by omega) (by decide) (by rw [List.length_map, sets_length]; omega) fun o' h4 n4 _ H4 => ?_
    rw [sAdd (by omega)]
    refine hR (n + 1 - (x + 1)) _ _ _ _ _ (by omega) ⟨x + 1, o', D ++ (sets (x + 1) (n + 1 - (x + 1)) k (s - x)).map ((x : Int) :: ·), by rw [e4], rfl, by omega, by omega, by simp, by rw [hD, hsx]; simp, H4.cast ?_⟩
    simp [Function.comp_def]
end Go.Ev
/-
  Contracts: the program's sets.
-/
namespace Go.Ev
open Go Go.Proofs
variable {B : Nat}

theorem clone79 {h0 h : T Blk} {nx : Pa} {L : List Ob} {k n : Nat} {o : Option Pa} {l : List AV} {p : Pa} {K : Kw Prop} (H : Hp h0 h nx L) (hk : L[k]? = some (.row o 1 n l)) (hf : ∀ v ∈ l, fixd v = true) (hn : n ≤ 1000000) (hl : l.length = n)
    (hK : K (.lst 1 n l) h nx = .ok True) : (CS Tryz.prog B).fn 79 p [rowV o 1 n] h nx K = .ok True := by
  refine CS_frz (Q := (· = .lst 1 n l)) (fun hfr K hK => by_body tbl_ok dreg 9 fun _ => ?_) (fun v hv _ => by rw [hv]; exact hK)
  rw [F79.go]
  have Hb := Hp.init hfr
  cases o with
  | none =>
    obtain ⟨rfl, rfl⟩ := H.own _ (List.mem_of_getElem? hk)
    exact hK _ _ _ hfr (fun _ _ => rfl) ⟨_, .lnils 1, rfl⟩
  | some id =>
    have e : (sBin .eql (.nil .sl) (rowV (some id) 1 n) .nils fun v1 => sCond v1 (K .nils h nx) (sBslice 1 0 [I 0] [] h nx fun v2 h3 n4 => sApp 1 8 v2 (rowV (some id) 1 n) h3 n4 fun v5 h6 n7 => K v5 h6 n7)) =
        (sBslice 1 0 [I 0] [] h nx fun v2 h3 n4 => sApp 1 8 v2 (rowV (some id) 1 n) h3 n4 fun v5 h6 n7 => K v5 h6 n7) := nr rfl
    rw [e]
    refine Hb.copy (new := l) (fun h1 hh => H.rowBase hk hh) hl hf (by decide) hn fun v X h' nx' H' _ _ hF => ?_
    exact hK _ _ _ H'.fr H'.keep ⟨_, hF _ _ _ _ H' (by simp), rfl⟩

/-- The objects of the search for sets. -/
noncomputable abbrev Lc (bn bz bs bo bc : Pa) (n z : Nat) (so oo : Option Pa) (set : List Int) (out : List (List Int)) : List Ob :=
  [.arr bn [I n], .arr bz [I z], .arr bs [rowV so 1 set.length], .arr bo [rowV oo 1 out.length], .arr bc [.fn 77 (.of 77) [.ptr bz 0, .ptr bs 0, .ptr bn 0, .ptr bo 0, .ptr bc 0]], .row so 1 set.length (set.map I), .row oo 1 out.length (out.map encI)]

theorem cnt_belowF {f m z : Nat} {sum : Int} (h : sum < (z : Int) * f + ((z * (z - 1) / 2 : Nat) : Int)) : cnt f m z sum = 0 := by
  refine cnt_low m f z sum ?_
  have h2 := twoHalf z
  have e1 : (z : Int) * (2 * (f : Int) + (z : Int) - 1) = 2 * ((z : Int) * f) + (z : Int) * ((z : Int) - 1) := by
    simp only [Int.mul_add, Int.mul_sub, Int.mul_one]
    rw [Int.mul_left_comm]; omega
  rw [e1]; omega
theorem cnt_aboveF {f m n z : Nat} {sum : Int} (hn : f + m = n + 1) (h : (z : Int) * n - ((z * (z - 1) / 2 : Nat) : Int) < sum) : cnt f m z sum = 0 := by
  refine cnt_high m f z sum ?_
  have h2 := twoHalf z
  have e1 : (z : Int) * (2 * ((f + m : Nat) : Int) - (z : Int) - 1) = 2 * ((z : Int) * n) - (z : Int) * ((z : Int) - 1) := by
    rw [hn]
    push_cast
    simp only [Int.mul_add, Int.mul_sub, Int.mul_one]
    rw [Int.mul_left_comm]; omega
  rw [e1]; omega

theorem choose77 {bn bz bs bo bc : Pa} {n z : Nat} {h0 : T Blk} (hn : n ≤ 20) (hz : z ≤ n) : ∀ (m : Nat) {fr : Nat} {left : Int} {set : List Int} {out : List (List Int)} {so oo : Option Pa} {h : T Blk} {nx : Pa} {p : Pa} {K : Kw Prop}, n + 1 - fr = m → 1 ≤ fr → fr ≤ n + 1 → set.length ≤ z → out.length ≤ 1024 →
    Hp h0 h nx (Lc bn bz bs bo bc n z so oo set out) →
    (∀ (so' oo' : Option Pa) (out' : List (List Int)) (more : Bool) (h' : T Blk) (nx' : Pa), Hp h0 h' nx' (Lc bn bz bs bo bc n z so' oo' set out') →
      (more = true → out' = out ++ (sets fr (n + 1 - fr) (z - set.length) left).map (set ++ ·) ∧ out'.length ≤ 1024) → (more = false → 1024 < out.length + (sets fr (n + 1 - fr) (z - set.length) left).length) → K (.bool more) h' nx' = .ok True) →
    (CS Tryz.prog B).fn 77 p [I fr, I left, .ptr bz 0, .ptr bs 0, .ptr bn 0, .ptr bo 0, .ptr bc 0] h nx K = .ok True := by
  intro m
  induction m using Nat.strongRecOn with
  | _ m ih =>
  intro fr left set out so oo h nx p K hm hf1 hf2 hset hout H hK
  have hp : p = .of 77 ∨ True := .inr trivial
  refine CS_fn_mono (p := .of 77) (K := K) (by_body tbl_ok dreg 1000 fun hfr => ?_) fun _ _ _ _ q => q
  rw [F77.go]
  obtain ⟨k, hk⟩ : ∃ k, k = z - set.length := ⟨_, rfl⟩
  rw [H.load (k := 1) (i := 0) rfl rfl, H.load (k := 2) (i := 0) rfl rfl, H.rowLen (k := 5) rfl]
  rw [sSub (by omega), show (z : Int) - (set.length : Int) = (k : Int) by omega, H.load (k := 0) (i := 0) rfl rfl]
  refine span78 (by omega) (by omega) (by omega) _ _ _ _ ?_
  rintro _ rfl _
  rw [half_nat]
  have hhl := halfLe (M := 20) (z := k) (by omega)
  have hkn : (k : Int) * n ≤ 400 := by
    have := Nat.mul_le_mul (show k ≤ 20 by omega) hn
    rw [← Int.natCast_mul]; omega
  have hkf : (k : Int) * fr ≤ 420 := by
    have := Nat.mul_le_mul (show k ≤ 20 by omega) (show fr ≤ 21 by omega)
    rw [← Int.natCast_mul]; omega
  have hkf0 : 0 ≤ (k : Int) * fr := Int.mul_nonneg (by omega) (by omega)
  have hq0 : (0 : Int) ≤ ((k * (k - 1) / 2 : Nat) : Int) := Int.natCast_nonneg _
  have hbe := @cnt_belowF fr (n + 1 - fr) k left
  have hab := @cnt_aboveF fr (n + 1 - fr) n k left (by omega)
  have hk0 : k = 0 → (k : Int) * n = 0 ∧ (k : Int) * fr = 0 ∧ ((k * (k - 1) / 2 : Nat) : Int) = 0 := by rintro rfl; simp
  generalize ((k * (k - 1) / 2 : Nat) : Int) = q at *
  generalize (k : Int) * n = kn at *
  generalize (k : Int) * fr = kf at *
  have empty : cnt fr (n + 1 - fr) k left = 0 → K (.bool true) h nx = .ok True := fun h0 => by
    refine hK so oo out true h nx H (fun _ => ?_) (fun q => by cases q)
    rw [← hk, sets_nil h0]; simp [hout]
  simp (disch := omega) only [sAdd, sSub, sMul, sEql, sNeq, sLss, sLeq, sGtr, sGeq, sPick_t, sPick_f, sCond_t, sCond_f, sG_tt, sG_ff, sG_tf, sG_ft, sNot_b, sExt0, sExt1, sExt2, sPart0, sPart1, sPart2, sLen_lst, sLen_sl, sLen_nils, sSame_refl, decide_true, decide_false, Bool.not_true, Bool.not_false, sChk_t]
  rw [H.load (k := 0) (i := 0) rfl rfl]
  simp (disch := omega) only [sAdd, sSub, sMul, sEql, sNeq, sLss, sLeq, sGtr, sGeq, sPick_t, sPick_f, sCond_t, sCond_f, sG_tt, sG_ff, sG_tf, sG_ft, sNot_b, sExt0, sExt1, sExt2, sPart0, sPart1, sPart2, sLen_lst, sLen_sl, sLen_nils, sSame_refl, decide_true, decide_false, Bool.not_true, Bool.not_false, sChk_t]
  by_cases c1 : (n : Int) - fr + 1 < k
  · simp only [c1, decide_true, sG_tf, sPick_t, sCond_t]
    exact empty (cnt_more _ _ _ _ (by omega))
  simp only [c1, decide_false, sG_ff, sPick_f, sLss]
  by_cases c2 : left < kf + q
  · simp only [c2, decide_true, sG_tf, sPick_t, sCond_t]
    exact empty (hbe c2)
  simp only [c2, decide_false, sG_ff, sPick_f, sGtr]
  by_cases c3 : kn - q < left
  · simp only [c3, decide_true, sCond_t]
    exact empty (hab c3)
  simp only [c3, decide_false, sCond_f]
  rw [F77.k1]
  simp (disch := omega) only [sAdd, sSub, sMul, sEql, sNeq, sLss, sLeq, sGtr, sGeq, sPick_t, sPick_f, sCond_t, sCond_f, sG_tt, sG_ff, sG_tf, sG_ft, sNot_b, sExt0, sExt1, sExt2, sPart0, sPart1, sPart2, sLen_lst, sLen_sl, sLen_nils, sSame_refl, decide_true, decide_false, Bool.not_true, Bool.not_false, sChk_t]
  by_cases ck : k = 0
  · simp only [show (k : Int) = 0 by omega, decide_true, sCond_t]
    rw [H.load (k := 3) (i := 0) rfl rfl, H.load (k := 2) (i := 0) rfl rfl]
    refine clone79 H (k := 5) rfl (fun v hv => by obtain ⟨x, _, rfl⟩ := List.mem_map.1 hv; rfl) (by omega) (by simp) ?_
    rw [H.load (k := 3) (i := 0) rfl rfl, sSame_refl]
    refine H.bslice (l := [encI set]) rfl fun id h2 n2 H2 => ?_
    rw [H2.load (k := 4) (i := 0) rfl rfl, sSame_refl]
    refine H2.app (k := 7) (new := [encI set]) rfl (HasArr.rd (l := [encI set]) (n := 1) (H2.own _ (List.mem_cons_self ..)) rfl) rfl rfl (by decide) (by decide) (by simp; omega) fun oo' h3 n3 H3 => ?_
    refine H3.store (k := 4) rfl (by simp) (rowV_cells _ _ _) fun h4 H4 => ?_
    rw [H4.load (k := 4) (i := 0) rfl rfl, H4.rowLen (k := 7) rfl]
    have H5 : Hp h0 h4 n3 (Lc bn bz bs bo bc n z so oo' set (out ++ [set])) := H4.drop.cast (by simp [Lc])
    simp (disch := omega) only [sAdd, sSub, sMul, sEql, sNeq, sLss, sLeq, sGtr, sGeq, sPick_t, sPick_f, sCond_t, sCond_f, sG_tt, sG_ff, sG_tf, sG_ft, sNot_b, sExt0, sExt1, sExt2, sPart0, sPart1, sPart2, sLen_lst, sLen_sl, sLen_nils, sSame_refl, decide_true, decide_false, Bool.not_true, Bool.not_false, sChk_t]
    obtain ⟨e1, e2, e3⟩ := hk0 ck
    have hl0 : left = 0 := by omega
    have hs : sets fr (n + 1 - fr) (z - set.length) left = [[]] := by
      rw [← hk, ck, hl0]; cases n + 1 - fr <;> simp [sets]
    refine hK so oo' (out ++ [set]) _ _ _ H5 (fun hd => ?_) fun hd => ?_
    · rw [hs]
      have := of_decide_eq_true hd
      simp; omega
    · rw [hs]
      have := of_decide_eq_false hd
      simp; omega
  obtain ⟨k, rfl⟩ : ∃ k', k = k' + 1 := ⟨k - 1, by omega⟩
  simp only [show ¬ ((k + 1 : Nat) : Int) = 0 by omega, decide_false, sCond_f]
  refine F77.L3 (fun m x11 h' nx' => ∃ (x : Nat) (so oo : Option Pa) (D : List (List Int)), x11 = I x ∧ n + 1 - x = m ∧ fr ≤ x ∧ x ≤ n + 1 ∧ sets fr (n + 1 - fr) (k + 1) left = D ++ sets x (n + 1 - x) (k + 1) left ∧ out.length + D.length ≤ 1024 ∧ Hp h0 h' nx' (Lc bn bz bs bo bc n z so oo set (out ++ D.map (set ++ ·)))) (m := m) (by omega)
    ⟨fr, so, oo, [], rfl, hm, Nat.le_refl _, hf2, rfl, by simpa using hout, H.cast (by simp)⟩ ?_
  rintro m' z7 z11 z12 z15 z16 h1 nx1 R ⟨x, so1, oo1, D, rfl, rfl, hx1, hx2, hD, hol, H1⟩ hR
  rw [H1.load (k := 0) (i := 0) rfl rfl]
  simp (disch := omega) only [sAdd, sSub, sMul, sEql, sNeq, sLss, sLeq, sGtr, sGeq, sPick_t, sPick_f, sCond_t, sCond_f, sG_tt, sG_ff, sG_tf, sG_ft, sNot_b, sExt0, sExt1, sExt2, sPart0, sPart1, sPart2, sLen_lst, sLen_sl, sLen_nils, sSame_refl, decide_true, decide_false, Bool.not_true, Bool.not_false, sChk_t]
  by_cases hlt : x ≤ n
  case neg =>
    simp only [show ¬ (x : Int) ≤ n by omega, decide_false, sCond_f]
    rw [F77.k10]
    refine hK so1 oo1 _ true _ _ H1 (fun _ => ?_) (fun q => by cases q)
    have e : sets x (n + 1 - x) (k + 1) left = [] := by rw [show n + 1 - x = 0 by omega]; simp [sets]
    rw [← hk, hD, e, List.append_nil]
    simpa using hol
  simp only [show (x : Int) ≤ n by omega, decide_true, sCond_t]
  rw [H1.load (k := 2) (i := 0) rfl rfl]
  refine H1.bslice (l := [I x]) rfl fun id h2 n2 H2 => ?_
  refine H2.app (k := 6) (new := [I x]) rfl (HasArr.rd (l := [I x]) (n := 1) (H2.own _ (List.mem_cons_self ..)) rfl) rfl rfl (by decide) (by decide) (by simp; omega) fun so2 h3 n3 H3 => ?_
  refine H3.store (k := 3) rfl (by simp) (rowV_cells _ _ _) fun h4 H4 => ?_
  have H5 : Hp h0 h4 n3 (Lc bn bz bs bo bc n z so2 oo1 (set ++ [(x : Int)]) (out ++ D.map (set ++ ·))) := H4.drop.cast (by simp [Lc])
  rw [H5.load (k := 4) (i := 0) rfl rfl]
  rw [sCall_fn, show (x : Int) + 1 = ((x + 1 : Nat) : Int) by omega]
  have hsx : sets x (n + 1 - x) (k + 1) left = (sets (x + 1) (n + 1 - (x + 1)) k (left - x)).map ((x : Int) :: ·) ++ sets (x + 1) (n + 1 - (x + 1)) (k + 1) left := by
    rw [show n + 1 - x = (n + 1 - (x + 1)) + 1 by omega]; rfl
  have hzk : z - (set ++ [(x : Int)]).length = k := by simp; omega
  refine ih (n + 1 - (x + 1)) (by omega) rfl (by omega) (by omega) (by simp; omega) (by simpa using hol) H5 fun so3 oo3 out3 more h6 nx6 H6 hm1 hm2 => ?_
  rw [hzk] at hm1 hm2
  rw [H6.load (k := 2) (i := 0) rfl rfl, H6.load (k := 2) (i := 0) rfl rfl, H6.rowLen (k := 5) rfl, sSub (by simp; omega)]
  have e7 : (set ++ [(x : Int)]).length = set.length + 1 := by simp
  have H6' : Hp h0 h6 nx6 [.arr bn [I n], .arr bz [I z], .arr bs [rowV so3 1 (set.length + 1)], .arr bo [rowV oo3 1 out3.length], .arr bc [.fn 77 (.of 77) [.ptr bz 0, .ptr bs 0, .ptr bn 0, .ptr bo 0, .ptr bc 0]], .row so3 1 (set.length + 1) ((set ++ [(x : Int)]).map I), .row oo3 1 out3.length (out3.map encI)] := H6.cast (by simp [Lc])
  rw [e7, H6'.rowCut (k := 5) (n := set.length) rfl (by omega)]
  refine H6'.store (k := 2) rfl (by simp) (rowV_cells _ _ _) fun h7 H7 => ?_
  have H8 : Hp h0 h7 nx6 (Lc bn bz bs bo bc n z so3 oo3 set out3) := (H7.cut (k := 5) (n := set.length + 1) (m := set.length) rfl (by omega)).cast (by simp [Lc])
  cases more with
  | false =>
    simp only [sNot_b, Bool.not_false, sCond_t]
    refine hK so3 oo3 out3 false _ _ H8 (fun q => by cases q) fun _ => ?_
    have := hm2 rfl
    rw [← hk, hD, hsx]
    simp only [List.length_append, List.length_map] at this ⊢
    omega
  | true =>
    simp only [sNot_b, Bool.not_true, sCond_f]
    obtain ⟨g1, g2⟩ := hm1 rfl
    refine hR (n + 1 - (x + 1)) _ _ _ _ _ _ _ (by omega) ⟨x + 1, so3, oo3, D ++ (sets (x + 1) (n + 1 - (x + 1)) k (left - x)).map ((x : Int) :: ·), rfl, rfl, by omega, by omega, by rw [hD, hsx]; simp, ?_, H8.cast ?_⟩
    · rw [g1] at g2
      simp only [List.length_append, List.length_map] at g2 ⊢
      omega
    · rw [g1]; simp [Function.comp_def]

theorem Hp.addNil {h0 h : T Blk} {nx : Pa} {L : List Ob} {e : Nat} (H : Hp h0 h nx L) : Hp h0 h nx (.row none e 0 [] :: L) :=
  ⟨H.keep, fun x hx => by
    rcases List.mem_cons.1 hx with rfl | hx
    · exact ⟨rfl, rfl⟩
    · exact H.own x hx, by simpa [Ob.names] using H.off, by simpa [Ob.names] using H.nd, H.fr⟩

/-- What Sets gives. -/
def setsV (n z : Nat) (sum : Int) : AV := if cnt 1 n z sum ≤ 1024 then .tup [encT (sets 1 n z sum), I 0] else .tup [.nils, I 5]
theorem sets19 {n z : Nat} (hz : z ≤ n) (hn : n ≤ 20) (sum : Int) : Pure Tryz.prog B 19 [I n, I z, I sum] (· = setsV n z sum) := by
  refine pure_hp fun h nx K H0 hK => by_body tbl_ok dreg 1000 fun hf => ?_
  rw [F19.go]
  refine H0.box (l := [I n]) rfl fun bn h1 n1 H1 => ?_
  refine H1.box (l := [I z]) rfl fun bz h2 n2 H2 => ?_
  rw [H2.load (k := 1) (i := 0) rfl rfl, H2.load (k := 0) (i := 0) rfl rfl]
  refine checkSets76 _ _ _ _ _ _ ?_
  rintro _ rfl _
  rw [if_neg (by omega)]
  simp (disch := omega) only [sAdd, sSub, sMul, sEql, sNeq, sLss, sLeq, sGtr, sGeq, sPick_t, sPick_f, sCond_t, sCond_f, sG_tt, sG_ff, sG_tf, sG_ft, sNot_b, sExt0, sExt1, sExt2, sPart0, sPart1, sPart2, sLen_lst, sLen_sl, sLen_nils, sSame_refl, decide_true, decide_false, Bool.not_true, Bool.not_false, sChk_t]
  refine H2.alloc fun bo h3 n3 H3 => H3.alloc fun bs h4 n4 H4 => H4.alloc fun bc h5 n5 H5 => ?_
  refine H5.store (k := 0) rfl (by simp) rfl fun h6 H6 => ?_
  rw [H6.load (k := 0) (i := 0) rfl rfl, sCall_fn]
  have H7 : Hp h h6 n5 (Lc bn bz bs bo bc n z none none [] []) := (H6.addNil.addNil (e := 1)).perm (by
    refine (List.reverse_perm _).symm.trans ?_
    exact .cons _ (.cons _ (.swap _ _ _)))
  refine choose77 hn hz n (fr := 1) (by omega) (by omega) (by omega) (by simp) (by simp) H7 fun so oo out more h8 n8 H8 hm1 hm2 => ?_
  have e : sets 1 (n + 1 - 1) (z - ([] : List Int).length) sum = sets 1 n z sum := rfl
  rw [e] at hm1 hm2
  cases more with
  | false =>
    simp only [sNot_b, Bool.not_false, sCond_t]
    refine hK _ _ _ _ _ H8 (frz_tup2 (frz_fixd rfl) (frz_fixd rfl)) ?_
    have := hm2 rfl
    rw [sets_length] at this
    rw [setsV, if_neg (by simp at this; omega)]
  | true =>
    simp only [sNot_b, Bool.not_true, sCond_f]
    obtain ⟨g1, g2⟩ := hm1 rfl
    obtain rfl : out = sets 1 n z sum := by simpa using g1
    rw [H8.load (k := 3) (i := 0) rfl rfl]
    refine hK _ _ _ _ _ H8 (frz_tup2 (H8.frzRow (k := 6) rfl fun v hv => ?_) (frz_fixd rfl)) ?_
    · obtain ⟨t, _, rfl⟩ := List.mem_map.1 hv; exact fixd_encI _
    · rw [sets_length] at g2
      rw [setsV, if_pos g2]
theorem sets19_err {n z : Int} (h : n < 0 ∨ 64 < n ∨ z < 0 ∨ n < z) (sum : Int) : Pure Tryz.prog B 19 [I n, I z, I sum] (· = .tup [.nils, I 3]) := by
  refine pure_hp fun h nx K H0 hK => by_body tbl_ok dreg 9 fun hf => ?_
  rw [F19.go]
  refine H0.box (l := [I n]) rfl fun bn h1 n1 H1 => ?_
  refine H1.box (l := [I z]) rfl fun bz h2 n2 H2 => ?_
  rw [H2.load (k := 1) (i := 0) rfl rfl, H2.load (k := 0) (i := 0) rfl rfl]
  refine checkSets76 _ _ _ _ _ _ ?_
  rintro _ rfl _
  rw [if_pos (by assumption)]
  simp (disch := omega) only [sAdd, sSub, sMul, sEql, sNeq, sLss, sLeq, sGtr, sGeq, sPick_t, sPick_f, sCond_t, sCond_f, sG_tt, sG_ff, sG_tf, sG_ft, sNot_b, sExt0, sExt1, sExt2, sPart0, sPart1, sPart2, sLen_lst, sLen_sl, sLen_nils, sSame_refl, decide_true, decide_false, Bool.not_true, Bool.not_false, sChk_t]
  exact hK _ _ _ _ _ H2 (frz_tup2 (frz_fixd rfl) (frz_fixd rfl)) rfl
end Go.Ev
/-
  The law of CountSets.
-/
namespace Go.Ev
open Go Go.Proofs
variable {B : Nat}
theorem sGW_t (op : KW3 → OP) (h : T Blk) (nx : Pa) (k : KW3) (b : Bool) : sGW (.bool b) b op h nx k = op k := by cases b <;> rfl
theorem sets_len : ∀ (m lo k : Nat) (s : Int) (t : List Int), t ∈ sets lo m k s → t.length = k
  | 0, lo, k, s, t, h => by
    simp only [sets] at h
    split at h
    · rename_i hk; rw [List.mem_singleton.1 h]; exact hk.1.symm
    · cases h
  | m + 1, lo, 0, s, t, h => by
    simp only [sets] at h
    split at h
    · rw [List.mem_singleton.1 h]; rfl
    · cases h
  | m + 1, lo, k + 1, s, t, h => by
    simp only [sets, List.mem_append, List.mem_map] at h
    rcases h with ⟨u, hu, rfl⟩ | h
    · simp [sets_len m _ _ _ u hu]
    · exact sets_len m _ _ _ t h
theorem law3 (haw : Pure Tryz.prog B 18 [] (· = .bool true)) {n z s : Int} (hs1 : -9223372036854775808 ≤ s) (hs2 : s ≤ 9223372036854775807) : Pure Tryz.prog B 3 [I n, I z, I s] (· = .bool true) := by
  intro p h nx K hK
  refine by_body tbl_ok dreg 9 fun hf => ?_
  rw [F3.go]
  by_cases ha : 20 < n ∧ n ≤ 64
  · simp only [sGtr, sLeq, ha.1, ha.2, decide_true, sG_tt, sPick_t, sCond_t]
    exact haw _ _ _ _ hK
  have hcond : ∀ A C : OP, (sBin .gtr .int (I n) (I 20) fun v1 => sG v1 true (fun k => k (I n)) fun v2 => sG v1 true (fun k => sBin .leq .int v2 (I 64) k) fun v3 => sPick v1 v3 (.bool false) fun v4 => sCond v4 A C) = C := by
    intro A C
    by_cases h1 : 20 < n
    · simp only [sGtr, sLeq, h1, show ¬ n ≤ 64 by omega, decide_true, decide_false, sG_tt, sPick_t, sCond_f]
    · simp only [sGtr, h1, decide_false, sG_ft, sPick_f, sCond_f]
  have hv4 : ∀ (A C : AV → OP), (sBin .gtr .int (I n) (I 20) fun v1 => sG v1 true (fun k => k (I n)) fun v2 => sG v1 true (fun k => sBin .leq .int v2 (I 64) k) fun v3 => sPick v1 v3 (.bool false) fun v4 => sCond v4 (A v4) (C v4)) = C (.bool false) := by
    intro A C
    by_cases h1 : 20 < n
    · simp only [sGtr, sLeq, h1, show ¬ n ≤ 64 by omega, decide_true, decide_false, sG_tt, sPick_t, sCond_f]
    · simp only [sGtr, h1, decide_false, sG_ft, sPick_f, sCond_f]
  rw [hv4 (fun _ => _) (fun v4 => _)]
  by_cases he : n < 0 ∨ 64 < n ∨ z < 0 ∨ n < z
  · refine sets19_err he s _ _ _ _ ?_
    rintro _ rfl _
    try simp (disch := omega) only [sAdd, sSub, sMul, sEql, sNeq, sLss, sLeq, sGtr, sGeq, sPick_t, sPick_f, sCond_t, sCond_f, sG_tt, sG_ff, sG_tf, sG_ft, sNot_b, sExt0, sExt1, sExt2, sPart0, sPart1, sPart2, sLen_lst, sLen_sl, sLen_nils, sSame_refl, decide_true, decide_false, Bool.not_true, Bool.not_false, sChk_t]
    refine setCount20_err he s _ _ _ _ ?_
    rintro _ rfl _
    try simp (disch := omega) only [sAdd, sSub, sMul, sEql, sNeq, sLss, sLeq, sGtr, sGeq, sPick_t, sPick_f, sCond_t, sCond_f, sG_tt, sG_ff, sG_tf, sG_ft, sNot_b, sExt0, sExt1, sExt2, sPart0, sPart1, sPart2, sLen_lst, sLen_sl, sLen_nils, sSame_refl, decide_true, decide_false, Bool.not_true, Bool.not_false, sChk_t]
    refine refCheckSets21 _ _ _ _ _ _ ?_
    rintro _ rfl _
    rw [if_pos he]
    try simp (disch := omega) only [sAdd, sSub, sMul, sEql, sNeq, sLss, sLeq, sGtr, sGeq, sPick_t, sPick_f, sCond_t, sCond_f, sG_tt, sG_ff, sG_tf, sG_ft, sNot_b, sExt0, sExt1, sExt2, sPart0, sPart1, sPart2, sLen_lst, sLen_sl, sLen_nils, sSame_refl, decide_true, decide_false, Bool.not_true, Bool.not_false, sChk_t]
    rw [sGW_t]
    refine haw _ _ _ _ ?_
    rintro _ rfl _
    try simp (disch := omega) only [sAdd, sSub, sMul, sEql, sNeq, sLss, sLeq, sGtr, sGeq, sPick_t, sPick_f, sCond_t, sCond_f, sG_tt, sG_ff, sG_tf, sG_ft, sNot_b, sExt0, sExt1, sExt2, sPart0, sPart1, sPart2, sLen_lst, sLen_sl, sLen_nils, sSame_refl, decide_true, decide_false, Bool.not_true, Bool.not_false, sChk_t]
    exact hK _ rfl hf
  obtain ⟨n, rfl⟩ : ∃ n' : Nat, n = n' := ⟨n.toNat, by omega⟩
  obtain ⟨z, rfl⟩ : ∃ z' : Nat, z = z' := ⟨z.toNat, by omega⟩
  have hz : z ≤ n := by omega
  have hn : n ≤ 20 := by omega
  refine sets19 hz hn s _ _ _ _ ?_
  rintro _ rfl _
  have hext : ∀ {C : AV → AV → OP}, (sExt 0 (setsV n z s) fun v1 => sExt 1 (setsV n z s) fun v2 => C v1 v2) = if cnt 1 n z s ≤ 1024 then C (encT (sets 1 n z s)) (I 0) else C .nils (I 5) := by
    intro C
    unfold setsV
    split
    · rw [sExt0, sExt1]
    · rw [sExt0, sExt1]
  rw [hext (C := fun v1 v2 => _)]
  have hcnt := cnt_lt (x := n) (i := z) (s := s) hn
  have fin : (∀ (l e : AV), (l = encT (sets 1 n z s) ∧ e = I 0 ∧ cnt 1 n z s ≤ 1024) ∨ (l = .nils ∧ e = I 5 ∧ ¬ cnt 1 n z s ≤ 1024) → ∀ x10 x11, IR.run F3.b2 (CS Tryz.prog B) 9 (fnO F3.res K) (retK F3.res K) (F3.fr (I n) (I z) (I s) (.bool false) l e (I (cnt 1 n z s : Int)) (I 0) (I 0) .undef x10 x11 .undef .undef) h nx = .ok True) := by
    intro l e hle x10 x11
    rw [F3.k2]
    refine setCount22 hz hn s _ _ _ _ ?_
    rintro _ rfl _
    try simp (disch := omega) only [sAdd, sSub, sMul, sEql, sNeq, sLss, sLeq, sGtr, sGeq, sPick_t, sPick_f, sCond_t, sCond_f, sG_tt, sG_ff, sG_tf, sG_ft, sNot_b, sExt0, sExt1, sExt2, sPart0, sPart1, sPart2, sLen_lst, sLen_sl, sLen_nils, sSame_refl, decide_true, decide_false, Bool.not_true, Bool.not_false, sChk_t]
    rcases hle with ⟨rfl, rfl, hc⟩ | ⟨rfl, rfl, hc⟩
    · simp only [show ¬ (1024 : Int) < (cnt 1 n z s : Int) by omega, decide_false, sCond_f]
      rw [F3.k4]
      try simp (disch := omega) only [sAdd, sSub, sMul, sEql, sNeq, sLss, sLeq, sGtr, sGeq, sPick_t, sPick_f, sCond_t, sCond_f, sG_tt, sG_ff, sG_tf, sG_ft, sNot_b, sExt0, sExt1, sExt2, sPart0, sPart1, sPart2, sLen_lst, sLen_sl, sLen_nils, sSame_refl, decide_true, decide_false, Bool.not_true, Bool.not_false, sChk_t]
      rw [sGW_t]
      refine refSets24 z (lo := 1) (n := n) (b := .nils) (bl := []) (.inl ⟨rfl, rfl⟩) (by omega) hn (by omega) (by omega) (by simp; omega) hs1 hs2 hc _ _ _ _ ?_
      rintro _ rfl _
      rw [sGW_t]
      have em : ((sets 1 (n + 1 - 1) z s).map (([] : List Int) ++ ·)) = sets 1 n z s := by simp
      rw [em]
      refine sameTable23 (by rw [sets_length]; omega) (fun l hl => ?_) _ _ _ _ ?_
      · rw [sets_len _ _ _ _ l hl]; omega
      rintro _ rfl _
      try simp (disch := omega) only [sAdd, sSub, sMul, sEql, sNeq, sLss, sLeq, sGtr, sGeq, sPick_t, sPick_f, sCond_t, sCond_f, sG_tt, sG_ff, sG_tf, sG_ft, sNot_b, sExt0, sExt1, sExt2, sPart0, sPart1, sPart2, sLen_lst, sLen_sl, sLen_nils, sSame_refl, decide_true, decide_false, Bool.not_true, Bool.not_false, sChk_t]
      rw [sGW_t]
      refine haw _ _ _ _ ?_
      rintro _ rfl _
      try simp (disch := omega) only [sAdd, sSub, sMul, sEql, sNeq, sLss, sLeq, sGtr, sGeq, sPick_t, sPick_f, sCond_t, sCond_f, sG_tt, sG_ff, sG_tf, sG_ft, sNot_b, sExt0, sExt1, sExt2, sPart0, sPart1, sPart2, sLen_lst, sLen_sl, sLen_nils, sSame_refl, decide_true, decide_false, Bool.not_true, Bool.not_false, sChk_t]
      exact hK _ rfl hf
    · simp only [show (1024 : Int) < (cnt 1 n z s : Int) by omega, decide_true, sCond_t]
      try simp (disch := omega) only [sAdd, sSub, sMul, sEql, sNeq, sLss, sLeq, sGtr, sGeq, sPick_t, sPick_f, sCond_t, sCond_f, sG_tt, sG_ff, sG_tf, sG_ft, sNot_b, sExt0, sExt1, sExt2, sPart0, sPart1, sPart2, sLen_lst, sLen_sl, sLen_nils, sSame_refl, decide_true, decide_false, Bool.not_true, Bool.not_false, sChk_t]
      rw [sGW_t]
      refine haw _ _ _ _ ?_
      rintro _ rfl _
      try simp (disch := omega) only [sAdd, sSub, sMul, sEql, sNeq, sLss, sLeq, sGtr, sGeq, sPick_t, sPick_f, sCond_t, sCond_f, sG_tt, sG_ff, sG_tf, sG_ft, sNot_b, sExt0, sExt1, sExt2, sPart0, sPart1, sPart2, sLen_lst, sLen_sl, sLen_nils, sSame_refl, decide_true, decide_false, Bool.not_true, Bool.not_false, sChk_t]
      exact hK _ rfl hf
  have hsc : ∀ (l e : AV), (l = encT (sets 1 n z s) ∧ e = I 0 ∧ cnt 1 n z s ≤ 1024) ∨ (l = .nils ∧ e = I 5 ∧ ¬ cnt 1 n z s ≤ 1024) → True := fun _ _ _ => trivial
  split
  · rename_i hc
    refine setCount20 hz hn s _ _ _ _ ?_
    rintro _ rfl _
    try simp (disch := omega) only [sAdd, sSub, sMul, sEql, sNeq, sLss, sLeq, sGtr, sGeq, sPick_t, sPick_f, sCond_t, sCond_f, sG_tt, sG_ff, sG_tf, sG_ft, sNot_b, sExt0, sExt1, sExt2, sPart0, sPart1, sPart2, sLen_lst, sLen_sl, sLen_nils, sSame_refl, decide_true, decide_false, Bool.not_true, Bool.not_false, sChk_t]
    refine refCheckSets21 _ _ _ _ _ _ ?_
    rintro _ rfl _
    rw [if_neg he]
    try simp (disch := omega) only [sAdd, sSub, sMul, sEql, sNeq, sLss, sLeq, sGtr, sGeq, sPick_t, sPick_f, sCond_t, sCond_f, sG_tt, sG_ff, sG_tf, sG_ft, sNot_b, sExt0, sExt1, sExt2, sPart0, sPart1, sPart2, sLen_lst, sLen_sl, sLen_nils, sSame_refl, decide_true, decide_false, Bool.not_true, Bool.not_false, sChk_t]
    exact fin _ _ (.inl ⟨rfl, rfl, hc⟩) _ _
  · rename_i hc
    refine setCount20 hz hn s _ _ _ _ ?_
    rintro _ rfl _
    try simp (disch := omega) only [sAdd, sSub, sMul, sEql, sNeq, sLss, sLeq, sGtr, sGeq, sPick_t, sPick_f, sCond_t, sCond_f, sG_tt, sG_ff, sG_tf, sG_ft, sNot_b, sExt0, sExt1, sExt2, sPart0, sPart1, sPart2, sLen_lst, sLen_sl, sLen_nils, sSame_refl, decide_true, decide_false, Bool.not_true, Bool.not_false, sChk_t]
    refine refCheckSets21 _ _ _ _ _ _ ?_
    rintro _ rfl _
    rw [if_neg he]
    try simp (disch := omega) only [sAdd, sSub, sMul, sEql, sNeq, sLss, sLeq, sGtr, sGeq, sPick_t, sPick_f, sCond_t, sCond_f, sG_tt, sG_ff, sG_tf, sG_ft, sNot_b, sExt0, sExt1, sExt2, sPart0, sPart1, sPart2, sLen_lst, sLen_sl, sLen_nils, sSame_refl, decide_true, decide_false, Bool.not_true, Bool.not_false, sChk_t]
    exact fin _ _ (.inr ⟨rfl, rfl, hc⟩) _ _
end Go.Ev
/-
  Contracts: the tally of the fillings of some cells.
-/
namespace Go.Ev
open Go Go.Proofs
variable {B : Nat}

abbrev nI (x : Nat) : AV := I (x : Int)
/-- The memory of the tally: the cells' lines. -/
noncomputable abbrev Lt (on bx : Pa) (cells : Nat) (lines : List (List Int)) (o : Nat → Option Pa) (D : Nat → List Nat) (L : List Ob) : List Ob :=
  .arr on (rowL cells fun c => rowV (o c) 1 (D c).length) :: .arr bx [I cells, encT lines] :: (rowL cells (fun c => Ob.gro (o c) 1 (D c).length ((D c).map nI)) ++ L)

theorem Lt_get {on bx : Pa} {cells c : Nat} {lines : List (List Int)} {o : Nat → Option Pa} {D : Nat → List Nat} {L : List Ob} (hc : c < cells) : (Lt on bx cells lines o D L)[c + 2]? = some (.gro (o c) 1 (D c).length ((D c).map nI)) := by
  show (rowL cells _ ++ L)[c]? = _
  rw [List.getElem?_append_left (by simpa using hc), rowL_get hc]

/-- The lines are gone through. -/
theorem F89.on {N : Nat} {K0 : Kw Prop} {K : Ks Prop} {h0 h : T Blk} {nx : Pa} {L : List Ob} {x0 x1 x2 x3 x5 x7 x8 x9 x10 x11 x12 x13 x14 x15 x16 x17 x21 x22 x23 x24 x25 x26 x27 x28 x29 x30 x31 x32 x33 : AV} {on bx : Pa} {cells : Nat} {lines : List (List Int)} (hN : 100000000 < N) (hm : lines.length ≤ 128) (hw : ∀ l ∈ lines, l.length ≤ 1000) (hl : ∀ l ∈ lines, ∀ c ∈ l, 0 ≤ c ∧ c < (cells : Int))
    (H : Hp h0 h nx (.arr on (List.replicate cells .nils) :: .arr bx [I cells, encT lines] :: L))
    (hK : ∀ x7 x8 x9 x20 x21 x22 x23 x24 x25 h' nx' o, Hp h0 h' nx' (Lt on bx cells lines o (onC lines) L) → K (F89.fr x0 x1 x2 x3 (.ptr bx 0) x5 (.sl on 0 cells (some cells) 1) x7 x8 x9 x10 x11 x12 x13 x14 x15 x16 x17 (encT lines) (I lines.length) x20 x21 x22 x23 x24 x25 x26 x27 x28 x29 x30 x31 x32 x33) h' nx' = .ok True) :
    IR.run F89.b1 (CS Tryz.prog B) N (fnO F89.res K0) K (F89.fr x0 x1 x2 x3 (.ptr bx 0) x5 (.sl on 0 cells (some cells) 1) x7 x8 x9 x10 x11 x12 x13 x14 x15 x16 x17 (encT lines) (I lines.length) (I 0) x21 x22 x23 x24 x25 x26 x27 x28 x29 x30 x31 x32 x33) h nx = .ok True := by
  refine F89.L1 (fun m x20 h' nx' => ∃ (i : Nat) (o : Nat → Option Pa), x20 = I i ∧ lines.length - i = m ∧ i ≤ lines.length ∧ Hp h0 h' nx' (Lt on bx cells lines o (onP lines i) L)) (m := lines.length) (by omega) ⟨0, fun _ => none, rfl, rfl, by omega, ?_⟩ ?_
  · have H2 := (H.addE (E := rowL cells fun _ => Ob.gro none 1 0 []) fun x hx => by
      obtain ⟨j, _, rfl⟩ := rowL_mem hx
      exact ⟨rfl, fun _ => ⟨rfl, rfl⟩⟩).perm (List.perm_append_comm (l₂ := .arr on (List.replicate cells .nils) :: .arr bx [I cells, encT lines] :: L))
    refine (H2.perm (L' := .arr on (List.replicate cells .nils) :: .arr bx [I cells, encT lines] :: (rowL cells (fun _ => Ob.gro none 1 0 []) ++ L)) ?_).cast ?_
    · exact (List.perm_append_comm.cons _).cons _
    · rw [rowL_const]; rfl
  rintro m z7 z8 z9 z20 z21 z22 z23 z24 z25 h1 nx1 R ⟨i, o, rfl, rfl, hi, H1⟩ hR
  simp (disch := omega) only [sAdd, sSub, sMul, sEql, sNeq, sLss, sLeq, sGtr, sGeq, sPick_t, sPick_f, sCond_t, sCond_f, sG_tt, sG_ff, sG_tf, sG_ft, sNot_b, sExt0, sExt1, sExt2, sPart0, sPart1, sPart2, sLen_lst, sLen_sl, sLen_nils, sSame_refl, decide_true, decide_false, Bool.not_true, Bool.not_false, sChk_t]
  by_cases hlt : i < lines.length
  case neg =>
    simp only [show ¬ (i : Int) < (lines.length : Int) by omega, decide_false, sCond_f]
    obtain rfl : i = lines.length := by omega
    exact hK _ _ _ _ _ _ _ _ _ _ _ _ H1
  simp only [show (i : Int) < (lines.length : Int) by omega, decide_true, sCond_t]
  obtain ⟨line, hline⟩ : ∃ l, lines[i]? = some l := ⟨_, List.getElem?_eq_getElem hlt⟩
  have hmem := List.mem_of_getElem? hline
  have hgd : lines.getD i [] = line := by rw [List.getD_eq_getElem?_getD, hline]; rfl
  rw [sIxL rfl hlt, ldL (getT hline)]
  simp (disch := omega) only [sAdd, sSub, sMul, sEql, sNeq, sLss, sLeq, sGtr, sGeq, sPick_t, sPick_f, sCond_t, sCond_f, sG_tt, sG_ff, sG_tf, sG_ft, sNot_b, sExt0, sExt1, sExt2, sPart0, sPart1, sPart2, sLen_lst, sLen_sl, sLen_nils, sSame_refl, decide_true, decide_false, Bool.not_true, Bool.not_false, sChk_t]
  have hlw := hw _ hmem
  refine F89.L7 (fun m x24 h' nx' => ∃ (j : Nat) (o : Nat → Option Pa), x24 = I j ∧ line.length - j = m ∧ j ≤ line.length ∧ Hp h0 h' nx' (Lt on bx cells lines o (fun c => onP lines i c ++ ((line.take j).filter (· = (c : Int))).map fun _ => i) L)) (m := line.length) (by omega) ⟨0, o, rfl, rfl, by omega, H1.cast (by simp [Lt])⟩ ?_
  rintro m z9 z24 z25 h2 nx2 R2 ⟨j, o2, rfl, rfl, hj, H2⟩ hR2
  simp (disch := omega) only [sAdd, sSub, sMul, sEql, sNeq, sLss, sLeq, sGtr, sGeq, sPick_t, sPick_f, sCond_t, sCond_f, sG_tt, sG_ff, sG_tf, sG_ft, sNot_b, sExt0, sExt1, sExt2, sPart0, sPart1, sPart2, sLen_lst, sLen_sl, sLen_nils, sSame_refl, decide_true, decide_false, Bool.not_true, Bool.not_false, sChk_t]
  by_cases hjt : j < line.length
  case neg =>
    simp only [show ¬ (j : Int) < (line.length : Int) by omega, decide_false, sCond_f]
    rw [F89.k14]
    simp (disch := omega) only [sAdd, sSub, sMul, sEql, sNeq, sLss, sLeq, sGtr, sGeq, sPick_t, sPick_f, sCond_t, sCond_f, sG_tt, sG_ff, sG_tf, sG_ft, sNot_b, sExt0, sExt1, sExt2, sPart0, sPart1, sPart2, sLen_lst, sLen_sl, sLen_nils, sSame_refl, decide_true, decide_false, Bool.not_true, Bool.not_false, sChk_t]
    refine hR (lines.length - (i + 1)) _ _ _ _ _ _ _ _ _ _ _ (by omega) ⟨i + 1, o2, rfl, rfl, by omega, H2.cast ?_⟩
    have : ∀ c, onP lines (i + 1) c = onP lines i c ++ ((line.take j).filter (· = (c : Int))).map fun _ => i := fun c => by
      rw [onP_succ, hgd, List.take_of_length_le (by omega)]
    simp only [Lt, this]
  simp only [show (j : Int) < (line.length : Int) by omega, decide_true, sCond_t]
  obtain ⟨cz, hcz⟩ : ∃ c, line[j]? = some c := ⟨_, List.getElem?_eq_getElem hjt⟩
  have hcr := hl _ hmem cz (List.mem_of_getElem? hcz)
  obtain ⟨c, rfl⟩ : ∃ c : Nat, cz = c := ⟨cz.toNat, by omega⟩
  have hc : c < cells := by omega
  rw [sIxL rfl hjt, ldL (getI hcz), sIx (i := c) rfl hc, H2.load (k := 0) rfl (rowL_get hc)]
  refine H2.bslice (l := [I i]) rfl fun t h3 nx3 H3 => ?_
  refine H3.appN (k := c + 3) (o := o2 c) (c := 1) (new := [I i]) (by exact Lt_get (on := on) (bx := bx) (lines := lines) hc) (HasArr.rd (l := [I i]) (n := 1) (H3.own _ (List.mem_cons_self ..)) rfl) rfl rfl (by decide) (by decide) ?_ fun o' h4 nx4 _ H4 => ?_
  · have h1 : (onP lines i c).length ≤ 128000 := by
      have : ∀ i, i ≤ lines.length → (onP lines i c).length ≤ i * 1000 := by
        intro i
        induction i with
        | zero => intro _; simp [onP]
        | succ i ih =>
          intro hi
          rw [onP_succ, List.length_append, List.length_map]
          have h2 := ih (by omega)
          have h3 : ((lines.getD i []).filter (· = (c : Int))).length ≤ 1000 := by
            refine Nat.le_trans (List.length_filter_le _ _) ?_
            rw [List.getD_eq_getElem?_getD, List.getElem?_eq_getElem (by omega)]
            exact hw _ (List.getElem_mem _)
          omega
      have h9 := this i hi
      clear this
      omega
    have h2 : (((line.take j).filter (· = (c : Int))).map fun _ => i).length ≤ 1000 := by
      rw [List.length_map]
      refine Nat.le_trans (List.length_filter_le _ _) ?_
      rw [List.length_take]; omega
    rw [List.length_append]; omega
  rw [sIx (i := c) rfl hc]
  refine H4.store (k := 1) rfl (by simpa using hc) (rowV_cells _ _ _) fun h5 H5 => ?_
  refine hR2 (line.length - (j + 1)) _ _ _ _ _ (by omega) ⟨j + 1, fun p => if p = c then o' else o2 p, rfl, rfl, by omega, H5.drop.cast ?_⟩
  have hD : ∀ p : Nat, (onP lines i p ++ ((line.take (j + 1)).filter (· = (p : Int))).map fun _ => i) = if p = c then (onP lines i c ++ ((line.take j).filter (· = (c : Int))).map fun _ => i) ++ [i] else onP lines i p ++ ((line.take j).filter (· = (p : Int))).map fun _ => i := fun p => by
    rw [List.take_add_one, hcz]
    by_cases e : p = c
    · subst e; simp
    · have : ¬ (c : Int) = (p : Int) := by omega
      simp [e, this]
  simp only [hD]
  simp only [Lt, List.set_cons_succ, List.set_cons_zero, List.tail_cons]
  have e1 : ∀ x : Ob, (rowL cells (fun p => Ob.gro (o2 p) 1 (onP lines i p ++ ((line.take j).filter (· = (p : Int))).map fun _ => i).length ((onP lines i p ++ ((line.take j).filter (· = (p : Int))).map fun _ => i).map nI)) ++ L).set c x = rowL cells (fun p => if p = c then x else Ob.gro (o2 p) 1 (onP lines i p ++ ((line.take j).filter (· = (p : Int))).map fun _ => i).length ((onP lines i p ++ ((line.take j).filter (· = (p : Int))).map fun _ => i).map nI)) ++ L := fun x => by
    rw [List.set_append_left _ _ (by simpa using hc), rowL_set]
  rw [e1, rowL_set]
  congr 1
  · congr 1
    refine rowL_congr fun p _ => ?_
    by_cases e : p = c
    · subst e; simp [Nat.add_assoc]
    · simp [e]
  · congr 2
    refine rowL_congr fun p _ => ?_
    by_cases e : p = c
    · subst e; simp [Nat.add_assoc]
    · simp [e]

theorem sConv_u8 {k : IntKind} {x : Nat} {K : AV → OP} : sConv .u8 (.int k (x : Int)) K = K (u8 (x % 256)) := by
  show intK (wrapF .u8 (x : Int)) (fun z => K (.int .u8 z)) = _
  rw [intK_eq, wrapF_eq, IntKind.wrap_u8]
  have : u8 (x % 256) = .int .u8 ((x : Int) % 256) := by unfold u8; congr 1
  rw [this]
theorem sAdd_u8 {x y : Nat} {K : AV → OP} : sBin .add .int (u8 x) (u8 y) K = K (u8 ((x + y) % 256)) := by
  rw [sAddW, IntKind.wrap_u8]
  have : u8 ((x + y) % 256) = .int .u8 (((x : Int) + (y : Int)) % 256) := by unfold u8; congr 1
  rw [this]

/-- A filling's cell is added to a key. -/
theorem F89.add {N : Nat} {K0 : Kw Prop} {E4 E5 E6 E7 E8 E9 K : Ks Prop} {h0 h : T Blk} {nx : Pa} {L : List Ob} {x0 x1 x2 x3 x4 x5 x6 x7 x8 x9 x10 x11 x12 x13 x14 x17 x18 x19 x20 x21 x22 x23 x24 x25 x26 x27 x28 x29 x33 : AV} {yb : Pa} {y : Key} {idx : List Nat} {o : Option Pa} {k c : Nat} (hN : 100000000 < N) (hy : y.length ≤ 128) (hi : ∀ x ∈ idx, x < y.length) (hn : idx.length ≤ 1000000)
    (H : Hp h0 h nx (.arr yb (cellsK y) :: L)) (hc : L[c]? = some (.gro o 1 idx.length (idx.map nI)))
    (hK : ∀ x17 x32 x33 h' nx', Hp h0 h' nx' (.arr yb (cellsK (addL y idx k)) :: L) → K (F89.fr x0 x1 x2 x3 x4 x5 x6 x7 x8 x9 x10 x11 x12 x13 x14 (I k) (.ptr yb 0) x17 x18 x19 x20 x21 x22 x23 x24 x25 x26 x27 x28 x29 (rowV o 1 idx.length) (I idx.length) x32 x33) h' nx' = .ok True) :
    IR.run F89.b33 (CS Tryz.prog B) N (((((((fnO F89.res K0).blk 4 E4).blk 5 E5).blk 6 E6).blk 7 E7).blk 8 E8).blk 9 E9) K (F89.fr x0 x1 x2 x3 x4 x5 x6 x7 x8 x9 x10 x11 x12 x13 x14 (I k) (.ptr yb 0) x17 x18 x19 x20 x21 x22 x23 x24 x25 x26 x27 x28 x29 (rowV o 1 idx.length) (I idx.length) (I 0) x33) h nx = .ok True := by
  refine F89.L33 (fun m x32 h' nx' => ∃ j : Nat, x32 = I j ∧ idx.length - j = m ∧ j ≤ idx.length ∧ Hp h0 h' nx' (.arr yb (cellsK (addL y (idx.take j) k)) :: L)) (m := idx.length) (by omega) ⟨0, rfl, rfl, by omega, H⟩ ?_
  rintro m z17 z32 z33 h1 nx1 R ⟨j, rfl, rfl, hj, H1⟩ hR
  simp (disch := omega) only [sAdd, sSub, sMul, sEql, sNeq, sLss, sLeq, sGtr, sGeq, sPick_t, sPick_f, sCond_t, sCond_f, sG_tt, sG_ff, sG_tf, sG_ft, sNot_b, sExt0, sExt1, sExt2, sPart0, sPart1, sPart2, sLen_lst, sLen_sl, sLen_nils, sSame_refl, decide_true, decide_false, Bool.not_true, Bool.not_false, sChk_t]
  by_cases hlt : j < idx.length
  case neg =>
    simp only [show ¬ (j : Int) < (idx.length : Int) by omega, decide_false, sCond_f]
    rw [List.take_of_length_le (by omega)] at H1
    exact hK _ _ _ _ _ H1
  simp only [show (j : Int) < (idx.length : Int) by omega, decide_true, sCond_t]
  obtain ⟨x, hx⟩ : ∃ x, idx[j]? = some x := ⟨_, List.getElem?_eq_getElem hlt⟩
  have hxl := hi x (List.mem_of_getElem? hx)
  obtain ⟨id, q1, q2⟩ := H1.groIx (k := c + 1) (by exact hc) (v := I x) (by rw [List.getElem?_map, hx]; rfl)
  have hyl : x < (addL y (idx.take j) k).length := by simpa using hxl
  rw [q1, q2, sAx (i := x) rfl (by omega), H1.load (k := 0) rfl (cellsK_get (List.getElem?_eq_getElem hyl)), sConv_u8, sAdd_u8, sAx (i := x) rfl (by omega)]
  refine H1.store (k := 0) rfl (by rw [cellsK_length (by simpa using hy)]; omega) rfl fun h2 H2 => ?_
  refine hR (idx.length - (j + 1)) _ _ _ _ _ (by omega) ⟨j + 1, rfl, rfl, by omega, H2.cast ?_⟩
  rw [List.set_cons_zero, cellsK_set hyl, List.take_add_one, hx]
  show _ = .arr yb (cellsK (addL y (idx.take j ++ [x]) k)) :: L
  rw [addL_snoc, addAt]
  congr 3
  congr 1
  rw [List.getD_eq_getElem?_getD, List.getElem?_eq_getElem hyl]
  simp

theorem Hp.dropL {h0 h : T Blk} {nx : Pa} : ∀ {A L : List Ob}, Hp h0 h nx (A ++ L) → Hp h0 h nx L
  | [], _, H => H
  | _ :: _, _, H => Hp.dropL H.drop
theorem Hp.dropMid {h0 h : T Blk} {nx : Pa} {A L : List Ob} {x : Ob} (H : Hp h0 h nx (x :: (A ++ L))) : Hp h0 h nx (x :: L) :=
  Hp.dropL (H.perm List.perm_middle.symm)

/-- All numbers of a cell. -/
theorem F89.ks {N : Nat} {K0 : Kw Prop} {E4 E5 E6 E7 K : Ks Prop} {h0 h : T Blk} {nx : Pa} {Lr : List Ob} {x0 x1 x2 x4 x5 x7 x8 x9 x10 x16 x17 x18 x19 x20 x21 x22 x23 x24 x25 x26 x27 x28 x29 x30 x31 x32 x33 : AV} {xb nid on : Pa} {hdr : List AV} {x : Key} {idx : List Nat} {o : Option Pa} {ks G : List Key} {m most n p q r c cells : Nat} (hN : 100000000 < N) (hm : m ≤ 128) (hx : x.length = m) (hi : ∀ z ∈ idx, z < m) (hidx : idx.length ≤ 1000000) (hmost : most ≤ 1000) (hn : 1 ≤ n) (hG : G.length + (most + 2) * n ≤ 4000000000000000000)
    (H : Hp h0 h nx (.arr xb (cellsK x) :: Lr)) (hp : Lr[p]? = some (.map nid (ks.map (entK (cntV G))))) (O : KsOk m ks G) (hq : Lr[q]? = some (.arr on hdr)) (hqp : p ≠ q) (hh : hdr[c]? = some (rowV o 1 idx.length)) (hr : Lr[r]? = some (.gro o 1 idx.length (idx.map nI))) (hrp : p ≠ r) (hc : c < cells)
    (hK : ∀ x15 x16 x17 x29 x30 x31 x32 x33 h' nx' ks', KsOk m ks' (blk x idx n (most + 1) ++ G) → Hp h0 h' nx' (.arr xb (cellsK x) :: Lr.set p (.map nid (ks'.map (entK (cntV (blk x idx n (most + 1) ++ G)))))) → K (F89.fr x0 x1 x2 (I most) x4 x5 (.sl on 0 cells (some cells) 1) x7 x8 x9 x10 (I c) (.map nid) (.ptr xb 0) (I n) x15 x16 x17 x18 x19 x20 x21 x22 x23 x24 x25 x26 x27 x28 x29 x30 x31 x32 x33) h' nx' = .ok True) :
    IR.run F89.b27 (CS Tryz.prog B) N (((((fnO F89.res K0).blk 4 E4).blk 5 E5).blk 6 E6).blk 7 E7) K (F89.fr x0 x1 x2 (I most) x4 x5 (.sl on 0 cells (some cells) 1) x7 x8 x9 x10 (I c) (.map nid) (.ptr xb 0) (I n) (I 0) x16 x17 x18 x19 x20 x21 x22 x23 x24 x25 x26 x27 x28 x29 x30 x31 x32 x33) h nx = .ok True := by
  refine F89.L27 (fun m' x15 h' nx' => ∃ (k : Nat) (ks' : List Key), x15 = I k ∧ most + 1 - k = m' ∧ k ≤ most + 1 ∧ KsOk m ks' (blk x idx n k ++ G) ∧ Hp h0 h' nx' (.arr xb (cellsK x) :: Lr.set p (.map nid (ks'.map (entK (cntV (blk x idx n k ++ G))))))) (m := most + 1) (by omega) ⟨0, ks, rfl, rfl, by omega, O, H.cast ?_⟩ ?_
  · have e : Lr.set p (.map nid (ks.map (entK (cntV G)))) = Lr := by rw [(getSplit hp).2]; exact (getSplit hp).1.symm
    exact congrArg _ e.symm
  rintro m' z15 z16 z17 z29 z30 z31 z32 z33 h1 nx1 R ⟨k, ks1, rfl, rfl, hk, O1, H1⟩ hR
  simp (disch := omega) only [sAdd, sSub, sMul, sEql, sNeq, sLss, sLeq, sGtr, sGeq, sPick_t, sPick_f, sCond_t, sCond_f, sG_tt, sG_ff, sG_tf, sG_ft, sNot_b, sExt0, sExt1, sExt2, sPart0, sPart1, sPart2, sLen_lst, sLen_sl, sLen_nils, sSame_refl, decide_true, decide_false, Bool.not_true, Bool.not_false, sChk_t]
  by_cases hlt : k ≤ most
  case neg =>
    simp only [show ¬ (k : Int) ≤ (most : Int) by omega, decide_false, sCond_f]
    obtain rfl : k = most + 1 := by omega
    exact hK _ _ _ _ _ _ _ _ _ _ _ O1 H1
  simp only [show (k : Int) ≤ (most : Int) by omega, decide_true, sCond_t]
  have hpl := (List.getElem?_eq_some_iff.1 hp).1
  rw [H1.loadN (k := 0) rfl (cellsK_length (by omega))]
  refine H1.alloc fun yb h2 nx2 H2 => ?_
  refine H2.storeN (k := 0) rfl rfl (cellsK_length (by omega)) fun h3 H3 => ?_
  have H3 : Hp h0 h3 nx2 (.arr yb (cellsK x) :: .arr xb (cellsK x) :: Lr.set p (.map nid (ks1.map (entK (cntV (blk x idx n k ++ G)))))) := H3
  have hq3 : (Lr.set p (.map nid (ks1.map (entK (cntV (blk x idx n k ++ G))))))[q]? = some (.arr on hdr) := by rw [List.getElem?_set_ne hqp]; exact hq
  have hr3 : (Lr.set p (.map nid (ks1.map (entK (cntV (blk x idx n k ++ G))))))[r]? = some (.gro o 1 idx.length (idx.map nI)) := by rw [List.getElem?_set_ne hrp]; exact hr
  rw [sIx (i := c) rfl hc, H3.load (k := q + 2) hq3 hh, H3.groLen (k := r + 2) hr3]
  refine F89.add (k := k) hN (by omega) (fun z hz => by rw [hx]; exact hi z hz) hidx H3 (c := r + 1) hr3 fun y17 y32 y33 h4 nx4 H4 => ?_
  rw [F89.k40]
  rw [H4.loadN (k := 0) rfl (cellsK_length (by rw [addL_length]; omega))]
  have hlen : (blk x idx n k ++ G).length + n ≤ 4000000000000000000 := by
    rw [List.length_append, blk_length]
    have : k * n + n ≤ (most + 2) * n := by
      have := Nat.mul_le_mul_right n (show k + 1 ≤ most + 2 by omega)
      rw [Nat.add_mul] at this; omega
    omega
  refine H4.mapAdd (k := p + 2) (nn := n) (y := addL x idx k) hm (by exact List.getElem?_set_self hpl) O1 (by rw [addL_length]; exact hx) hn (by omega) (K := fun h9 n10 => IR.run F89.b41 (CS Tryz.prog B) N ((((((fnO F89.res K0).blk 4 E4).blk 5 E5).blk 6 E6).blk 7 E7).blk 8 K) R _ h9 n10) fun h5 ks2 O2 H5 => ?_
  rw [F89.k41, sAdd (by omega)]
  refine hR (most + 1 - (k + 1)) _ _ _ _ _ _ _ _ _ _ (by omega) ⟨k + 1, ks2, rfl, rfl, by omega, O2.perm (by simp [blk]), H5.drop.cast ?_⟩
  simp only [List.set_cons_succ, List.tail_cons, List.set_set]
  rw [blk, List.append_assoc]

/-- One entry's share, by the entry's number. -/
abbrev blkAt (ks G : List Key) (idx : List Nat) (most : Nat) (i : Nat) : List Key := blk (ks.getD i []) idx (G.count (ks.getD i [])) (most + 1)
theorem flatMap_len {α : Type} {f : α → List Key} {M : Nat} : ∀ (l : List α), (∀ i ∈ l, (f i).length ≤ M) → (l.flatMap f).length ≤ l.length * M
  | [], _ => by simp
  | a :: l, h => by
    have h1 := h a (by simp)
    have h2 := flatMap_len l fun i hi => h i (by simp [hi])
    rw [List.flatMap_cons, List.length_append, List.length_cons, Nat.add_mul]; omega

/-- All entries of the last map. -/
theorem F89.ents {N : Nat} {K0 : Kw Prop} {E4 E5 K : Ks Prop} {h0 h : T Blk} {nx : Pa} {L : List Ob} {x0 x1 x2 x4 x5 x7 x8 x9 x10 x13 x14 x15 x16 x17 x18 x19 x20 x21 x22 x23 x24 x25 x26 x28 x29 x30 x31 x32 x33 : AV} {it mid nid on bx : Pa} {o : Nat → Option Pa} {lines : List (List Int)} {ksM GM : List Key} {most c cells : Nat} (hN : 100000000 < N) (hm : lines.length ≤ 128) (hD : ∀ c, (onC lines c).length ≤ 1000000) (hmost : most ≤ 1000) (hGM : GM.length ≤ 1000000) (O : KsOk lines.length ksM GM) (hkl : ksM.length ≤ 1000000) (hc : c < cells)
    (H : Hp h0 h nx (.iter it mid (ksM.map (entK (cntV GM))).length [] (ksM.map (entK (cntV GM))).length :: .map nid [] :: .map mid (ksM.map (entK (cntV GM))) :: Lt on bx cells lines o (onC lines) L))
    (hK : ∀ x13 x14 x15 x16 x17 x28 x29 x30 x31 x32 x33 h' nx' ks' G', KsOk lines.length ks' G' → G'.Perm (GM.flatMap fun x => (List.range (most + 1)).map fun k => addL x (onC lines c) k) → Hp h0 h' nx' (.map nid (ks'.map (entK (cntV G'))) :: .map mid (ksM.map (entK (cntV GM))) :: Lt on bx cells lines o (onC lines) L) → K (F89.fr x0 x1 x2 (I most) x4 x5 (.sl on 0 cells (some cells) 1) x7 x8 x9 x10 (I c) (.map nid) x13 x14 x15 x16 x17 x18 x19 x20 x21 x22 x23 x24 x25 x26 (.ptr it 0) x28 x29 x30 x31 x32 x33) h' nx' = .ok True) :
    IR.run F89.b22 (CS Tryz.prog B) N (((fnO F89.res K0).blk 4 E4).blk 5 E5) K (F89.fr x0 x1 x2 (I most) x4 x5 (.sl on 0 cells (some cells) 1) x7 x8 x9 x10 (I c) (.map nid) x13 x14 x15 x16 x17 x18 x19 x20 x21 x22 x23 x24 x25 x26 (.ptr it 0) x28 x29 x30 x31 x32 x33) h nx = .ok True := by
  refine F89.L22 (fun m' h' nx' => ∃ (seen : List Nat) (ks' : List Key), (leftA ksM.length seen).length = m' ∧ seen.length + m' = ksM.length ∧ seen.Nodup ∧ (∀ i ∈ seen, i < ksM.length) ∧ KsOk lines.length ks' (seen.flatMap (blkAt ksM GM (onC lines c) most)) ∧
    Hp h0 h' nx' (.iter it mid (ksM.map (entK (cntV GM))).length seen (ksM.map (entK (cntV GM))).length :: .map nid (ks'.map (entK (cntV (seen.flatMap (blkAt ksM GM (onC lines c) most))))) :: .map mid (ksM.map (entK (cntV GM))) :: Lt on bx cells lines o (onC lines) L)) (m := ksM.length) (by omega) ⟨[], [], by (have e : leftA ksM.length [] = List.range ksM.length := List.filter_eq_self.2 (by simp)); rw [e]; simp, by simp, by simp, by simp, KsOk.nil _, H⟩ ?_
  rintro m' z13 z14 z15 z16 z17 z28 z29 z30 z31 z32 z33 h1 nx1 R ⟨seen, ks1, rfl, hsl, hnd, hlt, O1, H1⟩ hR
  refine H1.next (k := 0) (j := 2) rfl rfl (fun hall => ?_) fun i a b h2 hi hns hab H2 => ?_
  · simp (disch := omega) only [sAdd, sSub, sMul, sEql, sNeq, sLss, sLeq, sGtr, sGeq, sPick_t, sPick_f, sCond_t, sCond_f, sG_tt, sG_ff, sG_tf, sG_ft, sNot_b, sExt0, sExt1, sExt2, sPart0, sPart1, sPart2, sLen_lst, sLen_sl, sLen_nils, sSame_refl, decide_true, decide_false, Bool.not_true, Bool.not_false, sChk_t]
    refine hK _ _ _ _ _ _ _ _ _ _ _ _ _ ks1 _ O1 ?_ H1.drop
    have hsp := seen_perm hnd hlt fun i hi => hall i (by simpa using hi)
    refine (hsp.flatMap_right _).trans ?_
    have e : (List.range ksM.length).flatMap (blkAt ksM GM (onC lines c) most) = ksM.flatMap fun x => blk x (onC lines c) (GM.count x) (most + 1) := by
      have : ksM = (List.range ksM.length).map fun i => ksM.getD i [] := by
        have := rowL_self ksM []
        exact this
      conv => rhs; rw [this]
      rw [List.flatMap_map]
    rw [e]
    exact next_perm ksM GM (onC lines c) (most + 1) O.nd O.mem
  · have hi' : i < ksM.length := by simpa using hi
    obtain ⟨x, hx⟩ : ∃ x, ksM[i]? = some x := ⟨_, List.getElem?_eq_getElem hi'⟩
    have hxm := List.mem_of_getElem? hx
    rw [List.getElem?_map, hx] at hab
    obtain ⟨rfl, rfl⟩ : encK x = a ∧ cntV GM x = b := by simpa [entK] using hab
    have hgx : ksM.getD i [] = x := by rw [List.getD_eq_getElem?_getD, hx]; rfl
    have hxl := O.klen x hxm
    have hcx : 1 ≤ GM.count x := List.count_pos_iff.2 ((O.mem x).1 hxm)
    have hcx2 : GM.count x ≤ GM.length := List.count_le_length
    simp (disch := omega) only [sAdd, sSub, sMul, sEql, sNeq, sLss, sLeq, sGtr, sGeq, sPick_t, sPick_f, sCond_t, sCond_f, sG_tt, sG_ff, sG_tf, sG_ft, sNot_b, sExt0, sExt1, sExt2, sPart0, sPart1, sPart2, sLen_lst, sLen_sl, sLen_nils, sSame_refl, decide_true, decide_false, Bool.not_true, Bool.not_false, sChk_t]
    have hent : (ksM.map (entK (cntV GM)))[i]? = some (encK x, cntV GM x) := by rw [List.getElem?_map, hx]; rfl
    rw [H2.entry (k := 0) (j := 2) rfl rfl hent]
    simp (disch := omega) only [sAdd, sSub, sMul, sEql, sNeq, sLss, sLeq, sGtr, sGeq, sPick_t, sPick_f, sCond_t, sCond_f, sG_tt, sG_ff, sG_tf, sG_ft, sNot_b, sExt0, sExt1, sExt2, sPart0, sPart1, sPart2, sLen_lst, sLen_sl, sLen_nils, sSame_refl, decide_true, decide_false, Bool.not_true, Bool.not_false, sChk_t]
    refine H2.alloc fun xb h3 nx3 H3 => ?_
    refine H3.storeN (k := 0) rfl rfl (cellsK_length (by omega)) fun h4 H4 => ?_
    have hb : ∀ j ∈ seen, (blkAt ksM GM (onC lines c) most j).length ≤ 1001 * 1000000 := fun j _ => by
      rw [blk_length]
      exact Nat.mul_le_mul (by omega) (Nat.le_trans List.count_le_length hGM)
    have hfl : (seen.flatMap (blkAt ksM GM (onC lines c) most)).length ≤ seen.length * (1001 * 1000000) := flatMap_len seen hb
    have hsl2 : seen.length * (1001 * 1000000) ≤ 1000000 * (1001 * 1000000) := Nat.mul_le_mul_right _ (by omega)
    have hmn : (most + 2) * GM.count x ≤ 1002 * 1000000 := Nat.mul_le_mul (by omega) (by omega)
    refine F89.ks (most := most) (n := GM.count x) (p := 1) (q := 3) (r := c + 5) (idx := onC lines c) (o := o c) hN hm hxl (fun z hz => onP_lt hz) (hD c) hmost hcx (by omega) H4 rfl O1 rfl (by decide) (rowL_get hc) (by exact Lt_get (on := on) (bx := bx) (lines := lines) hc) (by omega) hc fun y15 y16 y17 y29 y30 y31 y32 y33 h5 nx5 ks2 O2 H5 => ?_
    have hst := leftA_step hi' hns
    have e : (i :: seen).flatMap (blkAt ksM GM (onC lines c) most) = blk x (onC lines c) (GM.count x) (most + 1) ++ seen.flatMap (blkAt ksM GM (onC lines c) most) := by
      rw [List.flatMap_cons, blkAt, hgx]
    refine hR _ _ _ _ _ _ _ _ _ _ _ _ _ _ (by omega) ⟨i :: seen, ks2, rfl, by simp; omega, List.nodup_cons.2 ⟨hns, hnd⟩, fun j hj => ?_, by rw [e]; exact O2, by rw [e]; exact H5.drop⟩
    rcases List.mem_cons.1 hj with rfl | q
    · exact hi'
    · exact hlt j q

theorem Hp.swap {h0 h : T Blk} {nx : Pa} {a b : Ob} {L : List Ob} (H : Hp h0 h nx (a :: b :: L)) : Hp h0 h nx (b :: a :: L) := H.perm (.swap _ _ _)
/-- All cells. -/
theorem F89.cells {N : Nat} {K0 : Kw Prop} {K : Ks Prop} {h0 h : T Blk} {nx : Pa} {L : List Ob} {x0 x1 x4 x5 x7 x8 x9 x12 x13 x14 x15 x16 x17 x18 x19 x20 x21 x22 x23 x24 x25 x26 x27 x28 x29 x30 x31 x32 x33 : AV} {mid on bx : Pa} {o : Nat → Option Pa} {lines : List (List Int)} {most fr to cells : Nat} (hN : 100000000 < N) (hm : lines.length ≤ 128) (hD : ∀ c, (onC lines c).length ≤ 1000000) (hmost : most ≤ 1000) (hfr : fr ≤ to) (hto : to ≤ cells) (hcl : cells ≤ 1000000) (hpow : (most + 1) ^ (to - fr) ≤ 1000000)
    (H : Hp h0 h nx (.map mid ([List.replicate lines.length 0].map (entK (cntV [List.replicate lines.length 0]))) :: Lt on bx cells lines o (onC lines) L))
    (hK : ∀ x12 x13 x14 x15 x16 x17 x26 x27 x28 x29 x30 x31 x32 x33 h' nx' id ks G, KsOk lines.length ks G → G.Perm (tallyT lines most fr (to - fr)) → Hp h0 h' nx' (.map id (ks.map (entK (cntV G))) :: Lt on bx cells lines o (onC lines) L) → K (F89.fr x0 x1 (I to) (I most) x4 x5 (.sl on 0 cells (some cells) 1) x7 x8 x9 (.map id) (I to) x12 x13 x14 x15 x16 x17 x18 x19 x20 x21 x22 x23 x24 x25 x26 x27 x28 x29 x30 x31 x32 x33) h' nx' = .ok True) :
    IR.run F89.b16 (CS Tryz.prog B) N (fnO F89.res K0) K (F89.fr x0 x1 (I to) (I most) x4 x5 (.sl on 0 cells (some cells) 1) x7 x8 x9 (.map mid) (I fr) x12 x13 x14 x15 x16 x17 x18 x19 x20 x21 x22 x23 x24 x25 x26 x27 x28 x29 x30 x31 x32 x33) h nx = .ok True := by
  refine F89.L16 (fun m' x10 x11 h' nx' => ∃ (c : Nat) (mid : Pa) (ks G : List Key), x10 = .map mid ∧ x11 = I c ∧ to - c = m' ∧ fr ≤ c ∧ c ≤ to ∧ KsOk lines.length ks G ∧ G.Perm (tallyT lines most fr (c - fr)) ∧ Hp h0 h' nx' (.map mid (ks.map (entK (cntV G))) :: Lt on bx cells lines o (onC lines) L)) (m := to - fr) (by omega)
    ⟨fr, mid, [List.replicate lines.length 0], [List.replicate lines.length 0], rfl, rfl, rfl, Nat.le_refl _, hfr, ⟨by simp, by simp, by simp⟩, by rw [Nat.sub_self]; exact .refl _, H⟩ ?_
  rintro m' z10 z11 z12 z13 z14 z15 z16 z17 z26 z27 z28 z29 z30 z31 z32 z33 h1 nx1 R ⟨c, mid1, ks1, G1, rfl, rfl, rfl, hc1, hc2, O1, hp1, H1⟩ hR
  simp (disch := omega) only [sAdd, sSub, sMul, sEql, sNeq, sLss, sLeq, sGtr, sGeq, sPick_t, sPick_f, sCond_t, sCond_f, sG_tt, sG_ff, sG_tf, sG_ft, sNot_b, sExt0, sExt1, sExt2, sPart0, sPart1, sPart2, sLen_lst, sLen_sl, sLen_nils, sSame_refl, decide_true, decide_false, Bool.not_true, Bool.not_false, sChk_t]
  by_cases hlt : c < to
  case neg =>
    simp only [show ¬ (c : Int) < (to : Int) by omega, decide_false, sCond_f]
    obtain rfl : c = to := by omega
    exact hK _ _ _ _ _ _ _ _ _ _ _ _ _ _ _ _ _ _ _ O1 hp1 H1
  simp only [show (c : Int) < (to : Int) by omega, decide_true, sCond_t]
  refine H1.mkmap fun nid h2 nx2 H2 => ?_
  refine H2.range (k := 1) rfl fun it h3 nx3 H3 => ?_
  have hlen : G1.length ≤ 1000000 := by
    rw [hp1.length_eq, tallyT_length]
    exact Nat.le_trans (Nat.pow_le_pow_right (by omega) (by omega)) hpow
  have hkl : ks1.length ≤ G1.length := by
    have h1 := (perm_self ks1 G1 O1.nd O1.mem).length_eq
    rw [← h1, List.length_flatMap]
    have : ∀ l : List Key, (∀ y ∈ l, y ∈ G1) → l.length ≤ (l.map fun x => (List.replicate (G1.count x) x).length).sum := by
      intro l
      induction l with
      | nil => simp
      | cons a l ih =>
        intro h
        have h2 := ih fun y hy => h y (by simp [hy])
        have h3 : 1 ≤ G1.count a := List.count_pos_iff.2 (h a (by simp))
        simp only [List.map_cons, List.sum_cons, List.length_cons, List.length_replicate] at h2 ⊢
        omega
    exact this ks1 fun y hy => (O1.mem y).1 hy
  refine F89.ents (c := c) (o := o) (bx := bx) (L := L) hN hm hD hmost hlen O1 (by omega) (by omega) H3 fun y13 y14 y15 y16 y17 y28 y29 y30 y31 y32 y33 h4 nx4 ks2 G2 O2 hp2 H4 => ?_
  rw [F89.k42, F89.k43, sAdd (by omega)]
  refine hR (to - (c + 1)) _ _ _ _ _ _ _ _ _ _ _ _ _ _ _ _ _ _ (by omega) ⟨c + 1, nid, ks2, G2, rfl, rfl, rfl, by omega, by omega, O2, ?_, H4.swap.drop⟩
  rw [show c + 1 - fr = (c - fr) + 1 by omega, tallyT, show fr + (c - fr) = c by omega]
  exact hp2.trans (hp1.flatMap_right _)

/-- THE TALLY. -/
theorem tally89 {h0 h : T Blk} {nx : Pa} {L : List Ob} {lines : List (List Int)} {most fr to cells : Nat} {p : Pa} {K : Kw Prop} (hm : lines.length ≤ 128) (hw : ∀ l ∈ lines, l.length ≤ 1000) (hl : ∀ l ∈ lines, ∀ c ∈ l, 0 ≤ c ∧ c < (cells : Int)) (hmost : most ≤ 1000) (hfr : fr ≤ to) (hto : to ≤ cells) (hcl : cells ≤ 1000000) (hpow : (most + 1) ^ (to - fr) ≤ 1000000) (H : Hp h0 h nx L)
    (hK : ∀ h' nx' id ks G, KsOk lines.length ks G → G.Perm (tallyT lines most fr (to - fr)) → Hp h0 h' nx' (.map id (ks.map (entK (cntV G))) :: L) → K (.map id) h' nx' = .ok True) :
    (CS Tryz.prog B).fn 89 p [.agg [I cells, encT lines], I fr, I to, I most] h nx K = .ok True := by
  have hD : ∀ c, (onC lines c).length ≤ 1000000 := fun c => by
    have : ∀ i, i ≤ lines.length → (onP lines i c).length ≤ i * 1000 := by
      intro i
      induction i with
      | zero => intro _; simp [onP]
      | succ i ih =>
        intro hi
        rw [onP_succ, List.length_append, List.length_map]
        have h2 := ih (by omega)
        have h3 : ((lines.getD i []).filter (· = (c : Int))).length ≤ 1000 := by
          refine Nat.le_trans (List.length_filter_le _ _) ?_
          rw [List.getD_eq_getElem?_getD, List.getElem?_eq_getElem (by omega)]
          exact hw _ (List.getElem_mem _)
        omega
    have h9 := this _ (Nat.le_refl _)
    clear this
    show (onP lines lines.length c).length ≤ _
    omega
  refine CS_fn_mono (p := .of 89) (K := K) (by_body tbl_ok dreg 1000000000 fun hf => ?_) fun _ _ _ _ q => q
  rw [F89.go]
  refine H.box (l := [I cells, encT lines]) rfl fun bx h1 nx1 H1 => ?_
  rw [sFx, H1.load (k := 0) (i := 0) rfl rfl]
  refine H1.mk1 cells rfl rfl hcl (by decide) fun on h2 nx2 H2 => ?_
  rw [sFx, H2.load (k := 1) (i := 0 + 1) rfl rfl]
  simp (disch := omega) only [sAdd, sSub, sMul, sEql, sNeq, sLss, sLeq, sGtr, sGeq, sPick_t, sPick_f, sCond_t, sCond_f, sG_tt, sG_ff, sG_tf, sG_ft, sNot_b, sExt0, sExt1, sExt2, sPart0, sPart1, sPart2, sLen_lst, sLen_sl, sLen_nils, sSame_refl, decide_true, decide_false, Bool.not_true, Bool.not_false, sChk_t]
  refine F89.on (by decide) hm hw hl H2 fun y7 y8 y9 y20 y21 y22 y23 y24 y25 h3 nx3 o H3 => ?_
  rw [F89.k15]
  refine H3.mkmap fun mid h4 nx4 H4 => ?_
  have hz : encK (List.replicate lines.length 0) = .agg (List.replicate 128 (u8 0)) := by rw [encK, cellsK_zero hm]
  have hb : ∀ (z : List AV) (op : AV → OP), sBuild z [] op = op (.agg z) := fun z op => rfl
  rw [hb]
  have hz2 : AV.agg (List.replicate 128 (u8 0)) = encK (List.replicate lines.length 0) := hz.symm
  refine Eq.trans (b := sMapup (.agg 128) (.map mid) (AV.agg (List.replicate 128 (u8 0))) (I 1) h4 nx4 _) rfl ?_
  rw [hz2]
  refine H4.mapFirst (m := lines.length) hm (by simp) (k := 0) rfl fun h5 H5 => ?_
  refine F89.cells (o := o) (by decide) hm hD hmost hfr hto hcl hpow H5 fun y12 y13 y14 y15 y16 y17 y26 y27 y28 y29 y30 y31 y32 y33 h6 nx6 id ks G O6 hp6 H6 => ?_
  rw [F89.k44]
  exact hK _ _ _ _ _ O6 hp6 (Hp.dropMid (A := .arr on _ :: .arr bx _ :: rowL cells _) H6)
end Go.Ev
/-
  Contracts: the program's number of bounded fillings.
-/
namespace Go.Ev
open Go Go.Proofs
variable {B : Nat}

theorem tallyT_lt (lines : List (List Int)) (most fr : Nat) : ∀ n, ∀ y ∈ tallyT lines most fr n, ∀ v ∈ y, v < 256
  | 0, y, h, v, hv => by
    rw [List.mem_singleton.1 h] at hv
    rw [(List.mem_replicate.1 hv).2]; decide
  | n + 1, y, h, v, hv => by
    simp only [tallyT, List.mem_flatMap, List.mem_map] at h
    obtain ⟨x, hx, k, _, rfl⟩ := h
    have ih := tallyT_lt lines most fr n x hx
    have : ∀ (idx : List Nat) (y : List Nat), (∀ v ∈ y, v < 256) → ∀ v ∈ addL y idx k, v < 256 := by
      intro idx
      induction idx with
      | nil => exact fun y h => h
      | cons i l ih2 =>
        intro y h
        refine ih2 _ fun v hv => ?_
        rcases List.mem_or_eq_of_mem_set hv with q | rfl
        · exact h v q
        · omega
    exact this _ _ ih v hv

/-- The fillings of the other half that a key needs. -/
def fB (sum : Nat) (G : List Key) (x : Key) : Nat := if x.all (fun v => decide (v ≤ sum)) then G.count (x.map fun v => sum - v) else 0
/-- What Bounded gives. -/
def bsum (lines : List (List Int)) (most sum half cells : Nat) : Nat := ((tallyT lines most 0 half).map (fB sum (tallyT lines most half (cells - half)))).sum

theorem sum_perm {α : Type} {l l' : List α} (f : α → Nat) (h : l.Perm l') : (l.map f).sum = (l'.map f).sum := by
  induction h with
  | nil => rfl
  | cons a _ ih => simp [ih]
  | swap a b l => simp; omega
  | trans _ _ h1 h2 => exact h1.trans h2
theorem sum_flat {f : Key → Nat} {G : List Key} : ∀ (l : List Key), ((l.flatMap fun x => List.replicate (G.count x) x).map f).sum = (l.map fun x => G.count x * f x).sum
  | [] => rfl
  | a :: l => by
    rw [List.flatMap_cons, List.map_append, List.sum_append, sum_flat l, List.map_cons, List.sum_cons]
    congr 1
    rw [List.map_replicate, List.sum_replicate_nat]
theorem sum_keys {f : Key → Nat} {ks G : List Key} {m : Nat} (O : KsOk m ks G) : (ks.map fun x => G.count x * f x).sum = (G.map f).sum := by
  rw [← sum_flat, sum_perm f (perm_self ks G O.nd O.mem)]
theorem fB_perm {sum : Nat} {G G' : List Key} (h : G.Perm G') : fB sum G = fB sum G' := by
  funext x; simp only [fB]; rw [h.count_eq]
theorem fB_le {sum : Nat} {G : List Key} {x : Key} : fB sum G x ≤ G.length := by
  unfold fB; split
  · exact List.count_le_length
  · omega

theorem sConv_i64 {k : IntKind} {x : Nat} {K : AV → OP} (h : x ≤ 1000000) : sConv .i64 (.int k (x : Int)) K = K (I x) := by
  show intK (wrapF .i64 (x : Int)) (fun z => K (.int .i64 z)) = _
  rw [intK_eq, wrapF_eq, wrap64_in (by omega)]
theorem sSub_u8 {x y : Nat} {K : AV → OP} (h : y ≤ x) (hx : x < 256) : sBin .sub .int (u8 x) (u8 y) K = K (u8 (x - y)) := by
  rw [sSubW, IntKind.wrap_u8]
  have : u8 (x - y) = .int .u8 (((x : Int) - (y : Int)) % 256) := by unfold u8; congr 1; omega
  rw [this]

/-- The other half's key. -/
theorem F31.rest {N : Nat} {K0 : Kw Prop} {E0 E1 K : Ks Prop} {h0 h : T Blk} {nx : Pa} {L : List Ob} {x0 x1 x3 x4 x5 x6 x7 x8 x9 x11 x13 x14 x15 x16 x17 x18 x21 x22 : AV} {xb rb : Pa} {x : Key} {sum m : Nat} (hN : 1000 < N) (hm : m ≤ 128) (hx : x.length = m) (hv : ∀ v ∈ x, v < 256) {s : Int} (hs : m = 0 ∨ (s = sum ∧ sum ≤ 255))
    (H : Hp h0 h nx (.arr rb (cellsK (List.replicate m 0)) :: .arr xb (cellsK x) :: L))
    (hno : ∀ x13 x20 x21 x22 h' nx', ¬ x.all (fun v => decide (v ≤ sum)) = true → Hp h0 h' nx' L → E1 (F31.fr x0 x1 (I s) x3 x4 x5 x6 x7 x8 x9 (.ptr xb 0) x11 (.ptr rb 0) x13 x14 x15 x16 x17 x18 (I m) x20 x21 x22) h' nx' = .ok True)
    (hK : ∀ x13 x20 x21 x22 h' nx', x.all (fun v => decide (v ≤ sum)) = true → Hp h0 h' nx' (.arr rb (cellsK (x.map fun v => sum - v)) :: .arr xb (cellsK x) :: L) → K (F31.fr x0 x1 (I s) x3 x4 x5 x6 x7 x8 x9 (.ptr xb 0) x11 (.ptr rb 0) x13 x14 x15 x16 x17 x18 (I m) x20 x21 x22) h' nx' = .ok True) :
    IR.run F31.b9 (CS Tryz.prog B) N (((fnO F31.res K0).blk 0 E0).blk 1 E1) K (F31.fr x0 x1 (I s) x3 x4 x5 x6 x7 x8 x9 (.ptr xb 0) x11 (.ptr rb 0) x13 x14 x15 x16 x17 x18 (I m) (I 0) x21 x22) h nx = .ok True := by
  refine F31.L9 (fun m' x20 h' nx' => ∃ j : Nat, x20 = I j ∧ m - j = m' ∧ j ≤ m ∧ (x.take j).all (fun v => decide (v ≤ sum)) = true ∧ Hp h0 h' nx' (.arr rb (cellsK ((x.take j).map (fun v => sum - v) ++ List.replicate (m - j) 0)) :: .arr xb (cellsK x) :: L)) (m := m) (by omega) ⟨0, rfl, rfl, by omega, rfl, H⟩ ?_
  rintro m' z13 z20 z21 z22 h1 nx1 R ⟨j, rfl, rfl, hj, hall, H1⟩ hR
  simp (disch := omega) only [sAdd, sSub, sMul, sEql, sNeq, sLss, sLeq, sGtr, sGeq, sPick_t, sPick_f, sCond_t, sCond_f, sG_tt, sG_ff, sG_tf, sG_ft, sNot_b, sExt0, sExt1, sExt2, sPart0, sPart1, sPart2, sLen_lst, sLen_sl, sLen_nils, sSame_refl, decide_true, decide_false, Bool.not_true, Bool.not_false, sChk_t]
  by_cases hlt : j < m
  case neg =>
    simp only [show ¬ (j : Int) < (m : Int) by omega, decide_false, sCond_f]
    obtain rfl : j = m := by omega
    rw [List.take_of_length_le (by omega)] at hall H1
    exact hK _ _ _ _ _ _ hall (H1.cast (by simp))
  simp only [show (j : Int) < (m : Int) by omega, decide_true, sCond_t]
  have hjx : j < x.length := by omega
  have hxj : x[j]? = some x[j] := List.getElem?_eq_getElem hjx
  have hv1 := hv _ (List.getElem_mem hjx)
  obtain ⟨rfl, hs'⟩ := hs.resolve_left (by omega)
  rw [sAx (i := j) rfl (by omega), H1.load (k := 1) rfl (cellsK_get hxj), sConv_i64 (by omega)]
  simp (disch := omega) only [sAdd, sSub, sMul, sEql, sNeq, sLss, sLeq, sGtr, sGeq, sPick_t, sPick_f, sCond_t, sCond_f, sG_tt, sG_ff, sG_tf, sG_ft, sNot_b, sExt0, sExt1, sExt2, sPart0, sPart1, sPart2, sLen_lst, sLen_sl, sLen_nils, sSame_refl, decide_true, decide_false, Bool.not_true, Bool.not_false, sChk_t]
  by_cases hle : x[j] ≤ sum
  case neg =>
    simp only [show (sum : Int) < (x[j] : Int) by omega, decide_true, sCond_t]
    refine hno _ _ _ _ _ _ (fun q => ?_) H1.drop.drop
    have := List.all_eq_true.1 q _ (List.getElem_mem hjx)
    exact hle (of_decide_eq_true this)
  simp only [show ¬ (sum : Int) < (x[j] : Int) by omega, decide_false, sCond_f]
  have hlen : ((x.take j).map (fun v => sum - v) ++ List.replicate (m - j) 0).length = m := by simp; omega
  rw [sConv_u8, Nat.mod_eq_of_lt (show sum < 256 by omega), sAx (i := j) rfl (by omega), H1.load (k := 1) rfl (cellsK_get hxj), sSub_u8 hle (by omega), sAx (i := j) rfl (by omega)]
  refine H1.store (k := 0) rfl (by rw [cellsK_length (by omega)]; omega) rfl fun h2 H2 => ?_
  refine hR (m - (j + 1)) _ _ _ _ _ _ (by omega) ⟨j + 1, by congr 1, rfl, by omega, ?_, H2.cast ?_⟩
  · rw [List.take_add_one, hxj, List.all_append, hall]
    simp [hle]
  · rw [List.set_cons_zero, cellsK_set (by omega), List.take_add_one, hxj]
    congr 3
    rw [List.set_append_right _ _ (by simp; omega)]
    have e : m - j = (m - (j + 1)) + 1 := by omega
    have e2 : j - ((x.take j).map fun v => sum - v).length = 0 := by simp; omega
    rw [e, e2, List.replicate_succ, List.set_cons_zero]
    simp only [Option.toList_some, List.map_append, List.map_cons, List.map_nil, List.append_assoc, List.cons_append, List.nil_append]

theorem sum_len {α : Type} {f : α → Nat} {M : Nat} : ∀ (l : List α), (∀ i ∈ l, f i ≤ M) → (l.map f).sum ≤ l.length * M
  | [], _ => by simp
  | a :: l, h => by
    have h1 := h a (by simp)
    have h2 := sum_len l fun i hi => h i (by simp [hi])
    rw [List.map_cons, List.sum_cons, List.length_cons, Nat.add_mul]; omega
abbrev termB (ks GL GR : List Key) (sum i : Nat) : Nat := GL.count (ks.getD i []) * fB sum GR (ks.getD i [])

/-- Both halves meet. -/
theorem F31.meet {N : Nat} {K0 : Kw Prop} {K : Ks Prop} {h0 h : T Blk} {nx : Pa} {L : List Ob} {x0 x1 x4 x5 x6 x7 x10 x11 x12 x13 x14 x15 x16 x18 x19 x20 x21 x22 : AV} {it lid rid bx : Pa} {lines : List (List Int)} {ksL GL ksR GR : List Key} {sum cells : Nat} {s : Int} (hN : 100000000 < N) (hm : lines.length ≤ 128) (hs : lines.length = 0 ∨ (s = sum ∧ sum ≤ 255)) (OL : KsOk lines.length ksL GL) (OR : KsOk lines.length ksR GR) (hL : GL.length ≤ 1000000) (hR0 : GR.length ≤ 1000000) (hkl : ksL.length ≤ 1000000) (hlt : ∀ y ∈ GL, ∀ v ∈ y, v < 256)
    (H : Hp h0 h nx (.iter it lid (ksL.map (entK (cntV GL))).length [] (ksL.map (entK (cntV GL))).length :: .map lid (ksL.map (entK (cntV GL))) :: .map rid (ksR.map (entK (cntV GR))) :: .arr bx [I cells, encT lines] :: L))
    (hK : ∀ x10 x11 x12 x13 x18 x19 x20 x21 x22 h' nx' L', Hp h0 h' nx' L' → K (F31.fr x0 x1 (I s) (.ptr bx 0) x4 x5 x6 x7 (.map rid) (I ((GL.map (fB sum GR)).sum : Nat)) x10 x11 x12 x13 x14 x15 x16 (.ptr it 0) x18 x19 x20 x21 x22) h' nx' = .ok True) :
    IR.run F31.b4 (CS Tryz.prog B) N (fnO F31.res K0) K (F31.fr x0 x1 (I s) (.ptr bx 0) x4 x5 x6 x7 (.map rid) (I 0) x10 x11 x12 x13 x14 x15 x16 (.ptr it 0) x18 x19 x20 x21 x22) h nx = .ok True := by
  refine F31.L4 (fun m' x9 h' nx' => ∃ (seen : List Nat), x9 = I ((seen.map (termB ksL GL GR sum)).sum : Nat) ∧ (leftA ksL.length seen).length = m' ∧ seen.length + m' = ksL.length ∧ seen.Nodup ∧ (∀ i ∈ seen, i < ksL.length) ∧
    Hp h0 h' nx' (.iter it lid (ksL.map (entK (cntV GL))).length seen (ksL.map (entK (cntV GL))).length :: .map lid (ksL.map (entK (cntV GL))) :: .map rid (ksR.map (entK (cntV GR))) :: .arr bx [I cells, encT lines] :: L)) (m := ksL.length) (by omega) ⟨[], rfl, by (have e : leftA ksL.length [] = List.range ksL.length := List.filter_eq_self.2 (by simp)); rw [e]; simp, by simp, by simp, by simp, H⟩ ?_
  rintro m' z9 z10 z11 z12 z13 z18 z19 z20 z21 z22 h1 nx1 R ⟨seen, rfl, rfl, hsl, hnd, hse, H1⟩ hR
  refine H1.next (k := 0) (j := 1) rfl rfl (fun hall => ?_) fun i a b h2 hi hns hab H2 => ?_
  · simp (disch := omega) only [sAdd, sSub, sMul, sEql, sNeq, sLss, sLeq, sGtr, sGeq, sPick_t, sPick_f, sCond_t, sCond_f, sG_tt, sG_ff, sG_tf, sG_ft, sNot_b, sExt0, sExt1, sExt2, sPart0, sPart1, sPart2, sLen_lst, sLen_sl, sLen_nils, sSame_refl, decide_true, decide_false, Bool.not_true, Bool.not_false, sChk_t]
    have hsp := seen_perm hnd hse fun i hi => hall i (by simpa using hi)
    have e : (seen.map (termB ksL GL GR sum)).sum = (GL.map (fB sum GR)).sum := by
      rw [sum_perm _ hsp, ← sum_keys OL]
      have : ksL = (List.range ksL.length).map fun i => ksL.getD i [] := rowL_self ksL []
      conv => rhs; rw [this]
      rw [List.map_map]
      rfl
    rw [e]
    exact hK _ _ _ _ _ _ _ _ _ _ _ _ H1
  · have hi' : i < ksL.length := by simpa using hi
    obtain ⟨x, hx⟩ : ∃ x, ksL[i]? = some x := ⟨_, List.getElem?_eq_getElem hi'⟩
    have hxm := List.mem_of_getElem? hx
    rw [List.getElem?_map, hx] at hab
    obtain ⟨rfl, rfl⟩ : encK x = a ∧ cntV GL x = b := by simpa [entK] using hab
    have hgx : ksL.getD i [] = x := by rw [List.getD_eq_getElem?_getD, hx]; rfl
    have hxl := OL.klen x hxm
    have hcx2 : GL.count x ≤ GL.length := List.count_le_length
    simp (disch := omega) only [sAdd, sSub, sMul, sEql, sNeq, sLss, sLeq, sGtr, sGeq, sPick_t, sPick_f, sCond_t, sCond_f, sG_tt, sG_ff, sG_tf, sG_ft, sNot_b, sExt0, sExt1, sExt2, sPart0, sPart1, sPart2, sLen_lst, sLen_sl, sLen_nils, sSame_refl, decide_true, decide_false, Bool.not_true, Bool.not_false, sChk_t]
    have hent : (ksL.map (entK (cntV GL)))[i]? = some (encK x, cntV GL x) := by rw [List.getElem?_map, hx]; rfl
    rw [H2.entry (k := 0) (j := 1) rfl rfl hent]
    simp (disch := omega) only [sAdd, sSub, sMul, sEql, sNeq, sLss, sLeq, sGtr, sGeq, sPick_t, sPick_f, sCond_t, sCond_f, sG_tt, sG_ff, sG_tf, sG_ft, sNot_b, sExt0, sExt1, sExt2, sPart0, sPart1, sPart2, sLen_lst, sLen_sl, sLen_nils, sSame_refl, decide_true, decide_false, Bool.not_true, Bool.not_false, sChk_t]
    refine H2.alloc fun xb h3 nx3 H3 => ?_
    refine H3.storeN (k := 0) rfl rfl (cellsK_length (by omega)) fun h4 H4 => ?_
    refine H4.alloc fun rb h5 nx5 H5 => ?_
    rw [sFx, H5.load (k := 5) (i := 0 + 1) rfl rfl]
    simp (disch := omega) only [sAdd, sSub, sMul, sEql, sNeq, sLss, sLeq, sGtr, sGeq, sPick_t, sPick_f, sCond_t, sCond_f, sG_tt, sG_ff, sG_tf, sG_ft, sNot_b, sExt0, sExt1, sExt2, sPart0, sPart1, sPart2, sLen_lst, sLen_sl, sLen_nils, sSame_refl, decide_true, decide_false, Bool.not_true, Bool.not_false, sChk_t]
    have hst := leftA_step hi' hns
    have hterm : termB ksL GL GR sum i = GL.count x * fB sum GR x := by rw [termB, hgx]
    have hb : ∀ j ∈ seen, termB ksL GL GR sum j ≤ 1000000 * 1000000 := fun j _ => Nat.mul_le_mul (Nat.le_trans List.count_le_length hL) (Nat.le_trans fB_le hR0)
    have hfl := sum_len seen hb
    have hsl2 : seen.length * (1000000 * 1000000) ≤ 1000000 * (1000000 * 1000000) := Nat.mul_le_mul_right _ (by omega)
    have hres : ∀ (v : Nat) (hv : v = termB ksL GL GR sum i) (h' : T Blk) (w10 w11 w12 w13 w18 w19 w20 w21 w22 : AV) (nx' : Pa), Hp h0 h' nx' (.iter it lid (ksL.map (entK (cntV GL))).length (i :: seen) (ksL.map (entK (cntV GL))).length :: .map lid (ksL.map (entK (cntV GL))) :: .map rid (ksR.map (entK (cntV GR))) :: .arr bx [I cells, encT lines] :: L) →
        R (F31.fr x0 x1 (I s) (.ptr bx 0) x4 x5 x6 x7 (.map rid) (I (((seen.map (termB ksL GL GR sum)).sum : Nat) + (v : Int))) w10 w11 w12 w13 x14 x15 x16 (.ptr it 0) w18 w19 w20 w21 w22) h' nx' = .ok True := by
      rintro v rfl h' w10 w11 w12 w13 w18 w19 w20 w21 w22 nx' H'
      refine hR _ _ _ _ _ _ _ _ _ _ _ _ _ (by omega) ⟨i :: seen, ?_, rfl, by simp; omega, List.nodup_cons.2 ⟨hns, hnd⟩, fun j hj => ?_, H'⟩
      · congr 1
        rw [List.map_cons, List.sum_cons]; omega
      · rcases List.mem_cons.1 hj with rfl | q
        · exact hi'
        · exact hse j q
    have H6 : Hp h0 h5 nx5 (.arr rb (cellsK (List.replicate lines.length 0)) :: .arr xb (cellsK x) :: .iter it lid (ksL.map (entK (cntV GL))).length (i :: seen) (ksL.map (entK (cntV GL))).length :: .map lid (ksL.map (entK (cntV GL))) :: .map rid (ksR.map (entK (cntV GR))) :: .arr bx [I cells, encT lines] :: L) := H5.cast (by rw [cellsK_zero hm]; rfl)
    have hcm : ((GL.count x : Int) * ((fB sum GR x : Nat) : Int)) = ((termB ksL GL GR sum i : Nat) : Int) := by rw [hterm, Int.natCast_mul]
    have htl : termB ksL GL GR sum i ≤ 1000000 * 1000000 := by
      rw [hterm]; exact Nat.mul_le_mul (by omega) (Nat.le_trans fB_le hR0)
    refine F31.rest (m := lines.length) (x := x) (sum := sum) (by omega) hm hxl (hlt x ((OL.mem x).1 hxm)) hs H6 (fun y13 y20 y21 y22 h7 nx7 hall H7 => ?_) fun y13 y20 y21 y22 h7 nx7 hall H7 => ?_
    · have := hres 0 (by rw [hterm, fB, if_neg hall]; simp) h7 (.ptr xb 0) (cntV GL x) (.ptr rb 0) y13 (.bool true) (I lines.length) y20 y21 y22 nx7 H7
      simpa using this
    · rw [F31.k17]
      have hrl : (x.map fun v => sum - v).length = lines.length := by rw [List.length_map]; exact hxl
      rw [H7.loadN (k := 0) rfl (cellsK_length (by omega))]
      have hlk := fun op => sLook_map (op := op) hm H7 (k := 4) (id := rid) rfl OR hrl
      refine Eq.trans (b := sLook (.agg 128) (I 0) false (.map rid) (encK (x.map fun v => sum - v)) h7 _) rfl ?_
      rw [hlk]
      have hf : fB sum GR x = GR.count (x.map fun v => sum - v) := by rw [fB, if_pos hall]
      rw [cntV, cntV, ← hf, sMul (by omega), hcm, sAdd (by omega)]
      exact hres _ rfl h7 _ _ _ _ _ _ _ _ _ nx7 H7.drop.drop
end Go.Ev
namespace Go.Ev
open Go Go.Proofs
variable {B : Nat}
theorem half_q (n : Nat) : ((n : Int)).tdiv 2 = ((n / 2 : Nat) : Int) := by
  rw [Int.tdiv_eq_ediv_of_nonneg (by omega)]; omega
theorem sQuo2 {n : Nat} {K : AV → OP} (h : n ≤ 1000000) : sBin .quo .int (I (n : Int)) (I 2) K = K (I ((n / 2 : Nat) : Int)) := by
  have e : sBin .quo .int (I (n : Int)) (I 2) K = (bif ieq (2 : Int) 0 then Out.no 5 else intK (IntKind.wrap .i64 ((n : Int).tdiv 2)) fun z => K (.int .i64 z)) := rfl
  rw [e, show ieq (2 : Int) 0 = false from rfl, cond_false, intK_eq, half_q, wrap64_in (by omega)]
theorem sG_undef (b : Bool) (op : (AV → OP) → OP) (K : AV → OP) : sG .undef b op K = K .undef := nr rfl
/-- BOUNDED. -/
theorem bounded31 {lines : List (List Int)} {cells most : Nat} {s : Int} (hm : lines.length ≤ 128) (hw : ∀ l ∈ lines, l.length ≤ 1000) (hl : ∀ l ∈ lines, ∀ c ∈ l, 0 ≤ c ∧ c < (cells : Int)) (hcl : cells ≤ 16) (hmost : most ≤ 9) (hpow : (most + 1) ^ (cells - cells / 2) ≤ 1000000)
    (h87 : Pure Tryz.prog B 87 [.agg [I cells, encT lines], I most] (· = I 0)) (h88 : Pure Tryz.prog B 88 [I ((cells - cells / 2 : Nat) : Int), I most] (· = .bool false)) :
    Pure Tryz.prog B 31 [.agg [I cells, encT lines], I most, I s] (· = .tup [I (if 0 < lines.length ∧ (s < 0 ∨ 255 < s) then 0 else (bsum lines most s.toNat (cells / 2) cells : Nat)), I 0]) := by
  refine pure_hp fun h nx K H0 hK => by_body tbl_ok dreg 1000000000 fun hf => ?_
  rw [F31.go]
  refine H0.box (l := [I cells, encT lines]) rfl fun bx h1 nx1 H1 => ?_
  rw [H1.loadN (k := 0) (n := 2) rfl rfl]
  refine h87 _ _ _ _ ?_
  rintro _ rfl _
  simp (disch := omega) only [sAdd, sSub, sMul, sEql, sNeq, sLss, sLeq, sGtr, sGeq, sPick_t, sPick_f, sCond_t, sCond_f, sG_tt, sG_ff, sG_tf, sG_ft, sNot_b, sExt0, sExt1, sExt2, sPart0, sPart1, sPart2, sLen_lst, sLen_sl, sLen_nils, sSame_refl, decide_true, decide_false, Bool.not_true, Bool.not_false, sChk_t]
  rw [sFx, H1.load (k := 0) (i := 0) rfl rfl, sQuo2 (by omega), sFx, H1.load (k := 0) (i := 0) rfl rfl, sSub (by omega), show (cells : Int) - ((cells / 2 : Nat) : Int) = ((cells - cells / 2 : Nat) : Int) by omega]
  refine h88 _ _ _ _ ?_
  rintro _ rfl _
  rw [sCond_f, sFx, H1.load (k := 0) (i := 0 + 1) rfl rfl]
  simp (disch := omega) only [sAdd, sSub, sMul, sEql, sNeq, sLss, sLeq, sGtr, sGeq, sPick_t, sPick_f, sCond_t, sCond_f, sG_tt, sG_ff, sG_tf, sG_ft, sNot_b, sExt0, sExt1, sExt2, sPart0, sPart1, sPart2, sLen_lst, sLen_sl, sLen_nils, sSame_refl, decide_true, decide_false, Bool.not_true, Bool.not_false, sChk_t]
  have ret : ∀ v : Int, v = (if 0 < lines.length ∧ (s < 0 ∨ 255 < s) then (0 : Int) else ((bsum lines most s.toNat (cells / 2) cells : Nat) : Int)) → ∀ h' nx' L, Hp h h' nx' L → K (.tup [I v, I 0]) h' nx' = .ok True := fun v hv h' nx' L H => by
    rw [hv]; exact hK _ _ _ L _ H (frz_tup2 (frz_fixd rfl) (frz_fixd rfl)) rfl
  by_cases hz : 0 < lines.length ∧ (s < 0 ∨ 255 < s)
  · rw [if_pos hz] at ret
    simp only [show (0 : Int) < (lines.length : Int) by omega, decide_true, sG_tt]
    by_cases hs0 : s < 0
    · simp only [sLss, hs0, decide_true, sG_tf, sPick_t, sCond_t]
      exact ret 0 rfl _ _ _ H1
    · simp only [sLss, sGtr, hs0, show (255 : Int) < s by omega, decide_true, decide_false, sG_ff, sPick_t, sPick_f, sCond_t]
      exact ret 0 rfl _ _ _ H1
  rw [if_neg hz] at ret
  have fin : ∀ z5 z6 z14 z15 z16, IR.run F31.b3 (CS Tryz.prog B) 1000000000 (fnO F31.res K) (retK F31.res K) (F31.fr (.agg [I cells, encT lines]) (I most) (I s) (.ptr bx 0) (I 0) z5 z6 (I ((cells / 2 : Nat) : Int)) .undef .undef .undef .undef .undef .undef z14 z15 z16 .undef .undef .undef .undef .undef .undef) h1 nx1 = .ok True := by
    intro z5 z6 z14 z15 z16
    rw [F31.k3, H1.loadN (k := 0) (n := 2) rfl rfl, sFx, H1.load (k := 0) (i := 0) rfl rfl]
    refine tally89 (cells := cells) hm hw hl (by omega) (by omega) (Nat.le_refl _) (by omega) hpow H1 fun h2 nx2 rid ksR GR OR hpR H2 => ?_
    rw [H2.loadN (k := 1) (n := 2) rfl rfl]
    refine tally89 (fr := 0) (cells := cells) hm hw hl (by omega) (by omega) (by omega) (by omega) (by rw [Nat.sub_zero]; exact Nat.le_trans (Nat.pow_le_pow_right (by omega) (by omega)) hpow) H2 fun h3 nx3 lid ksL GL OL hpL H3 => ?_
    rw [Nat.sub_zero] at hpL
    refine H3.range (k := 0) rfl fun it h4 nx4 H4 => ?_
    have hLl : GL.length ≤ 1000000 := by
      rw [hpL.length_eq, tallyT_length]
      exact Nat.le_trans (Nat.pow_le_pow_right (by omega) (by omega)) hpow
    have hRl : GR.length ≤ 1000000 := by rw [hpR.length_eq, tallyT_length]; exact hpow
    have hkl : ksL.length ≤ GL.length := by
      have h1 := (perm_self ksL GL OL.nd OL.mem).length_eq
      rw [← h1, List.length_flatMap]
      have : ∀ l : List Key, (∀ y ∈ l, y ∈ GL) → l.length ≤ (l.map fun x => (List.replicate (GL.count x) x).length).sum := by
        intro l
        induction l with
        | nil => simp
        | cons a l ih =>
          intro h
          have h2 := ih fun y hy => h y (by simp [hy])
          have h3 : 1 ≤ GL.count a := List.count_pos_iff.2 (h a (by simp))
          simp only [List.map_cons, List.sum_cons, List.length_cons, List.length_replicate] at h2 ⊢
          omega
      exact this ksL fun y hy => (OL.mem y).1 hy
    refine F31.meet (sum := s.toNat) (cells := cells) (by decide) hm (by omega) OL OR hLl hRl (by omega) (fun y hy => tallyT_lt _ _ _ _ y (hpL.mem_iff.1 hy)) H4 fun w10 w11 w12 w13 w18 w19 w20 w21 w22 h5 nx5 L5 H5 => ?_
    rw [F31.k18]
    refine ret _ ?_ _ _ _ H5
    rw [sum_perm _ hpL, fB_perm hpR]; rfl
  by_cases hl0 : 0 < lines.length
  · simp only [show (0 : Int) < (lines.length : Int) by omega, decide_true, sG_tt, sLss, sGtr, show ¬ s < 0 by omega, show ¬ (255 : Int) < s by omega, decide_false, sG_ff, sPick_t, sPick_f, sCond_f]
    exact fin _ _ _ _ _
  · simp only [show ¬ (0 : Int) < (lines.length : Int) by omega, decide_false, sG_ft, sG_undef, sPick_f, sCond_f]
    exact fin _ _ _ _ _
end Go.Ev
