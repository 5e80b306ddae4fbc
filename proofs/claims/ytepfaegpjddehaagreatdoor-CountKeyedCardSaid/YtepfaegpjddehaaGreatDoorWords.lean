import Derived.Test.YtepfaegpjddehaaGreatDoorEvD
import Derived.Deep.Matrix
import Derived.Lib.SmallJoins
import Derived.Test.YtepfaegpjddehaaGreatDoorCode
import GoSem.Core.Next
import Derived.Test.YtepfaegpjddehaaGreatDoorLaws
set_option linter.unusedSimpArgs false
set_option linter.unusedVariables false
namespace Go.Ev
open Go Go.RowKit Go.ChangeShapes Go.WideShapes Go.Deep Go.Joins
variable {H : Type} {enc : TypeId × Value → H} {P : Program}
theorem cellOf_of_cell {w : World} {a : Addr} {i : Nat} {v : Value} (h : w.cell? (a.add i) = some v) : a = ⟨a.block, a.off, a.spot⟩ ∧ (i = 0 → a.spot = none) ∧ cellOf w a.block (a.off + i) = some v := by
  unfold Addr.add at h
  by_cases hi : i = 0
  · subst hi
    rw [if_pos rfl] at h
    unfold World.cell? at h
    split at h
    · rename_i c ty fr hb
      split at h
      · cases h
      · rename_i hs
        refine ⟨rfl, fun _ => by cases e : a.spot <;> simp_all, ?_⟩
        simp [cellOf, hb, h]
    · cases h
  · rw [if_neg hi] at h
    unfold World.cell? at h
    split at h
    · rename_i c ty fr hb
      refine ⟨rfl, fun q => absurd q hi, ?_⟩
      simp at h hb
      simp [cellOf, hb, h]
    · cases h
theorem VRF_mk {E : Env} {b : Nat} : ∀ {l : List AV} {off : Nat}, (∀ i a, l[i]? = some a → ∃ v, E.fz b (off + i) = some v ∧ VR E a v) → VRF E l b off
  | [], _, _ => by simp only [VRF]
  | a :: l, off, h => by
    simp only [VRF]
    obtain ⟨v, h1, h2⟩ := h 0 a rfl
    refine ⟨v, h1, h2, VRF_mk fun i x hx => ?_⟩
    obtain ⟨v', h3, h4⟩ := h (i + 1) x (by simpa using hx)
    exact ⟨v', by rw [Nat.add_assoc, Nat.add_comm 1 i]; exact h3, h4⟩
theorem scalI2 (l : List Int) : (l.map I).all scal = true := by
  rw [List.all_eq_true]; intro v hv
  obtain ⟨x, _, rfl⟩ := List.mem_map.1 hv; rfl
theorem scalT2 (l : List (List Int)) : (l.map encI).all scal = true := by
  rw [List.all_eq_true]; intro v hv
  obtain ⟨x, _, rfl⟩ := List.mem_map.1 hv; rfl
theorem vr_row {w : World} {p : Option Addr} {L C : Nat} {Z : List Int} (hL : L ≤ C) (hZ : Z.length = C) (h0 : p = none → C = 0) (hc : ∀ a, p = some a → ∀ c, c < C → w.cell? (a.add c) = some (.int .i64 (Z.getD c 0))) :
    VR (allE w) (encI (Z.take L)) (.slice p L C) := by
  have hlen : (Z.take L).length = L := by rw [List.length_take]; omega
  simp only [VR]
  refine ⟨scalI2 _, by simp, p, C, by rw [hlen], ?_⟩
  rw [hlen]
  cases p with
  | none => exact .inl (by have := h0 rfl; omega)
  | some a =>
    by_cases hL0 : L = 0
    · exact .inl hL0
    · obtain ⟨_, hs, _⟩ := cellOf_of_cell (hc a rfl 0 (by omega))
      obtain ⟨b, off, sp⟩ := a
      have : sp = none := hs rfl
      subst this
      refine .inr ⟨b, off, rfl, hL, VRF_mk fun i x hx => ?_⟩
      rw [List.getElem?_map] at hx
      have hi : i < L := by
        cases e : (Z.take L)[i]? with
        | none => rw [e] at hx; cases hx
        | some y => have := (List.getElem?_eq_some_iff.1 e).1; omega
      obtain ⟨_, _, h3⟩ := cellOf_of_cell (hc _ rfl i (by omega))
      refine ⟨_, h3, ?_⟩
      rw [List.getElem?_take, if_pos hi] at hx
      cases e : Z[i]? with
      | none => rw [e] at hx; cases hx
      | some y =>
        rw [e] at hx
        have hx := Option.some.inj hx
        subst hx
        rw [List.getD_eq_getElem?_getD, e]
        simp only [VR, Option.getD_some]
theorem open_listI {t e : TypeId} {w : World} {base : Nat} {held : Bool} {fuel : Nat} {cs : List Value} {x : DataW H × List MemPlace} (ht : P.underlying t = some (.slice e)) (he : P.underlying e = some (.int .i64)) (hc : P.cellsOf e = 1)
    (h : DataW.trod enc P w base (fun _ => true) held fuel t cs = some x) : ∃ (l : List Int) (v : Value), cs = [v] ∧ VR (allE w) (encI l) v ∧ l.length ≤ maxLen ∧ ∀ n ∈ l, (Lit.int .i64 n).wf = true := by
  rcases open_ints ht he hc h with ⟨rfl, _⟩ | ⟨a, len, cap, zs, rfl, hb, hl, hm, hz, _, hcell, hwz⟩
  · exact ⟨[], _, rfl, by simp only [VR]; exact ⟨rfl, rfl, none, 0, rfl, .inl rfl⟩, by simp, by simp⟩
  · simp only [if_true] at hz
    refine ⟨zs.take len, _, rfl, vr_row hl hz (fun q => by cases q) (fun a' q c hc => by cases q; exact hcell c (by rw [hz]; exact hc)), by rw [List.length_take]; omega, fun n hn => hwz n (List.mem_of_mem_take hn)⟩
theorem open_listV {r : Reach} {b0 : Nat} {t e : TypeId} {w : World} {base : Nat} {held : Bool} {v : Value} {d : DataW H} {p : List MemPlace} (ht : P.underlying t = some (.slice e)) (he : P.underlying e = some (.int .i64)) (hc : P.cellsOf e = 1)
    (hval : Value.okWide P w r b0 t v) (h : DataW.Trod enc P w base (fun _ => true) held t v d p) : ∃ l : List Int, VR (allE w) (encI l) v ∧ l.length ≤ maxLen ∧ ∀ n ∈ l, (Lit.int .i64 n).wf = true := by
  obtain ⟨fuel, hf⟩ := h
  obtain ⟨a, len, cap, rfl⟩ := okWide_slice ht hval
  obtain ⟨l, v', hv, h1, h2, h3⟩ := open_listI ht he hc hf
  simp only [Value.cells, List.cons.injEq, and_true] at hv
  subst hv
  exact ⟨l, h1, h2, h3⟩
theorem open_listT {t e q : TypeId} {w : World} {base : Nat} {held : Bool} {fuel : Nat} {cs : List Value} {x : DataW H × List MemPlace} (ht : P.underlying t = some (.slice e)) (he : P.underlying e = some (.slice q)) (hq : P.underlying q = some (.int .i64))
    (ce : P.cellsOf e = 1) (cq : P.cellsOf q = 1) (h : DataW.trod enc P w base (fun _ => true) held fuel t cs = some x) :
    ∃ (ll : List (List Int)) (v : Value), cs = [v] ∧ VR (allE w) (encT ll) v ∧ ll.length ≤ maxLen ∧ ∀ l ∈ ll, l.length ≤ maxLen ∧ ∀ n ∈ l, (Lit.int .i64 n).wf = true := by
  rcases open_int_rows ht he hq ce cq h with ⟨rfl, _⟩ | ⟨a, len, cap, A, L, C, Z, rfl, hb, hl, hm, _, hr⟩
  · exact ⟨[], _, rfl, by simp only [VR]; exact ⟨rfl, rfl, none, 0, rfl, .inl rfl⟩, by simp, by simp⟩
  · refine ⟨(List.range len).map fun r => (Z r).take (L r), _, rfl, ?_, by simp; omega, fun l hm' => ?_⟩
    · simp only [VR]
      refine ⟨scalT2 _, by simp, some a, cap, by simp, ?_⟩
      by_cases h0 : len = 0
      · exact .inl (by simp [h0])
      · obtain ⟨_, hs, _⟩ := cellOf_of_cell (hr 0 (by omega)).1
        obtain ⟨b, off, sp⟩ := a
        have : sp = none := hs rfl
        subst this
        refine .inr ⟨b, off, rfl, by simpa using hl, VRF_mk fun i x hx => ?_⟩
        rw [List.map_map, List.getElem?_map] at hx
        have hi : i < len := by
          cases e : (List.range len)[i]? with
          | none => rw [e] at hx; cases hx
          | some y => have := (List.getElem?_eq_some_iff.1 e).1; simpa using this
        rw [List.getElem?_range hi] at hx
        have hx := Option.some.inj hx
        subst hx
        obtain ⟨g1, g2, g3, g4, _, g6, g7⟩ := hr i (by omega)
        obtain ⟨_, _, h3⟩ := cellOf_of_cell g1
        exact ⟨_, h3, vr_row g2 g4 g6 fun a' q c hc => (g7 a' q).2 c hc⟩
    · obtain ⟨r, hr', rfl⟩ := List.mem_map.1 hm'
      obtain ⟨_, g2, g3, g4, g5, _⟩ := hr r (by have := List.mem_range.1 hr'; omega)
      exact ⟨by rw [List.length_take]; omega, fun n hn => g5 n (List.mem_of_mem_take hn)⟩
theorem open_system {r : Reach} {b0 base : Nat} {held : Bool} {w : World} {t ti tl tr : TypeId} {f0 f1 : Field} {v : Value} {d : DataW H} {p : List MemPlace} (hs : P.underlying t = some (.struct #[f0, f1])) (hone : oneCellFields P #[f0, f1] = true) (hC : P.cellsOf t = 2)
    (e0 : f0.type = ti) (e1 : f1.type = tl) (u0 : P.underlying ti = some (.int .i64)) (u1 : P.underlying tl = some (.slice tr)) (u2 : P.underlying tr = some (.slice ti)) (c1 : P.cellsOf tr = 1) (c2 : P.cellsOf ti = 1)
    (hv : Value.okWide P w r b0 t v) (h : DataW.Trod enc P w base (fun _ => true) held t v d p) :
    ∃ (cells : Int) (lines : List (List Int)), VR (allE w) (.agg [I cells, encT lines]) v ∧ (Lit.int .i64 cells).wf = true ∧ lines.length ≤ maxLen ∧ ∀ l ∈ lines, l.length ≤ maxLen ∧ ∀ n ∈ l, (Lit.int .i64 n).wf = true := by
  obtain ⟨v0, v1, y0, y1, n, rfl, _, _, h0, h1⟩ := open_agg2 hs hone hC hv h
  rw [e0] at h0
  rw [e1] at h1
  obtain ⟨x, hx, _, hw⟩ := DataW.trod_int u0 h0
  simp only [List.cons.injEq, and_true] at hx
  subst hx
  obtain ⟨ll, v', hv', g1, g2, g3⟩ := open_listT u1 u2 u0 c1 c2 h1
  simp only [List.cons.injEq, and_true] at hv'
  subst hv'
  refine ⟨x, ll, ?_, hw, g2, g3⟩
  simp only [VR]
  exact ⟨rfl, _, rfl, VRL.cons (by simp only [VR]) (VRL.cons g1 VRL.nil)⟩
end Go.Ev
namespace Go.Ev
open Go Go.RowKit Go.ChangeShapes Go.WideShapes Go.Deep Go.Joins
variable {H : Type} {enc : TypeId × Value → H} {P : Program}
theorem open_symmetry {r : Reach} {b0 base : Nat} {held : Bool} {w : World} {t ti tl tb : TypeId} {f0 f1 : Field} {v : Value} {d : DataW H} {p : List MemPlace} (hs : P.underlying t = some (.struct #[f0, f1])) (hone : oneCellFields P #[f0, f1] = true) (hC : P.cellsOf t = 2)
    (e0 : f0.type = tl) (e1 : f1.type = tb) (u0 : P.underlying tl = some (.slice ti)) (u1 : P.underlying ti = some (.int .i64)) (u2 : P.underlying tb = some .bool) (c1 : P.cellsOf ti = 1)
    (hv : Value.okWide P w r b0 t v) (h : DataW.Trod enc P w base (fun _ => true) held t v d p) :
    ∃ (l : List Int) (b : Bool), VR (allE w) (.agg [encI l, .bool b]) v ∧ l.length ≤ maxLen ∧ ∀ n ∈ l, (Lit.int .i64 n).wf = true := by
  obtain ⟨v0, v1, y0, y1, n, rfl, _, _, h0, h1⟩ := open_agg2 hs hone hC hv h
  rw [e0] at h0
  rw [e1] at h1
  obtain ⟨x, hx, _⟩ := DataW.trod_bool u2 h1
  simp only [List.cons.injEq, and_true] at hx
  subst hx
  obtain ⟨l, v', hv', g1, g2, g3⟩ := open_listI u0 u1 c1 h0
  simp only [List.cons.injEq, and_true] at hv'
  subst hv'
  refine ⟨l, x, ?_, g2, g3⟩
  simp only [VR]
  exact ⟨rfl, _, rfl, VRL.cons g1 (VRL.cons (by simp only [VR]) VRL.nil)⟩
end Go.Ev
namespace Go.Ev
open Go Go.Proofs
theorem dreg {B : Nat} : DregAll Tryz.prog B Prop := dreg_all mixed
variable {B : Nat}
theorem sameInts35 {a b : List Int} (ha : a.length ≤ 1000000000) : Pure Tryz.prog B 35 [encI a, encI b] (· = .bool (decide (a = b))) := by
  intro p h nx K hK
  refine by_body tbl_ok dreg (a.length + 2) fun hf => ?_
  rw [F35.go]
  simp (disch := omega) only [sAdd, sSub, sMul, sEql, sNeq, sLss, sLeq, sGtr, sGeq, sPick_t, sPick_f, sCond_t, sCond_f, sG_tt, sG_ff, sG_tf, sG_ft, sNot_b, sExt0, sExt1, sExt2, sPart0, sPart1, sPart2, sLen_lst, sLen_sl, sLen_nils, sSame_refl, decide_true, decide_false, Bool.not_true, Bool.not_false, sChk_t]
  by_cases hl : a.length = b.length
  · simp only [hl, decide_true, Bool.not_true, sCond_f]
    refine F35.L2 (fun m z3 h' nx' => ∃ i : Nat, z3 = I i ∧ m = a.length - i ∧ i ≤ a.length ∧ h' = h ∧ nx' = nx ∧ a.take i = b.take i) (m := a.length) (by omega) ⟨0, rfl, by simp, by omega, rfl, rfl, by simp⟩ ?_
    rintro m z2 z3 z5 z6 _ _ R ⟨i, rfl, rfl, hi, rfl, rfl, htk⟩ hR
    simp (disch := omega) only [sAdd, sSub, sMul, sEql, sNeq, sLss, sLeq, sGtr, sGeq, sPick_t, sPick_f, sCond_t, sCond_f, sG_tt, sG_ff, sG_tf, sG_ft, sNot_b, sExt0, sExt1, sExt2, sPart0, sPart1, sPart2, sLen_lst, sLen_sl, sLen_nils, sSame_refl, decide_true, decide_false, Bool.not_true, Bool.not_false, sChk_t]
    by_cases hlt : i < a.length
    · have h1 : (i : Int) < a.length := by omega
      have hb : i < b.length := by omega
      simp only [h1, decide_true, sCond_t]
      rw [sIxL rfl hlt, ldL (getI (List.getElem?_eq_getElem hlt)), sIxL rfl hb, ldL (getI (List.getElem?_eq_getElem hb))]
      simp (disch := omega) only [sAdd, sSub, sMul, sEql, sNeq, sLss, sLeq, sGtr, sGeq, sPick_t, sPick_f, sCond_t, sCond_f, sG_tt, sG_ff, sG_tf, sG_ft, sNot_b, sExt0, sExt1, sExt2, sPart0, sPart1, sPart2, sLen_lst, sLen_sl, sLen_nils, sSame_refl, decide_true, decide_false, Bool.not_true, Bool.not_false, sChk_t]
      by_cases he : a[i] = b[i]
      · simp only [he, decide_true, Bool.not_true, sCond_f]
        refine hR (a.length - (i + 1)) _ _ _ _ _ _ (by omega) ⟨i + 1, rfl, rfl, by omega, rfl, rfl, ?_⟩
        rw [List.take_add_one, List.take_add_one, htk, List.getElem?_eq_getElem hlt, List.getElem?_eq_getElem hb, he]
      · simp only [he, decide_false, Bool.not_false, sCond_t]
        refine hK _ ?_ hf
        rw [decide_eq_false]
        rintro rfl
        exact he rfl
    · have h1 : ¬ (i : Int) < a.length := by omega
      simp only [h1, decide_false, sCond_f]
      rw [F35.k9]
      refine hK _ ?_ hf
      rw [List.take_of_length_le (by omega), List.take_of_length_le (by omega)] at htk
      rw [decide_eq_true htk]
  · have h1 : ¬ (a.length : Int) = b.length := by omega
    simp only [h1, decide_false, Bool.not_false, sCond_t]
    refine hK _ ?_ hf
    rw [decide_eq_false]
    rintro rfl; exact hl rfl
end Go.Ev
namespace Go.Ev
def addAt (y : List Nat) (i k : Nat) : List Nat := y.set i ((y.getD i 0 + k) % 256)
def addL (y : List Nat) (idx : List Nat) (k : Nat) : List Nat := idx.foldl (fun y i => addAt y i k) y
@[simp] theorem addAt_length (y : List Nat) (i k : Nat) : (addAt y i k).length = y.length := by simp [addAt]
@[simp] theorem addL_length (idx : List Nat) (k : Nat) : ∀ y : List Nat, (addL y idx k).length = y.length := by
  induction idx with
  | nil => intro y; rfl
  | cons i l ih => intro y; show (addL (addAt y i k) l k).length = _; rw [ih]; simp
theorem addL_snoc (y : List Nat) (l : List Nat) (i k : Nat) : addL y (l ++ [i]) k = addAt (addL y l k) i k := by simp [addL]
def onP (lines : List (List Int)) (i c : Nat) : List Nat := (List.range i).flatMap fun j => ((lines.getD j []).filter (· = (c : Int))).map fun _ => j
abbrev onC (lines : List (List Int)) (c : Nat) : List Nat := onP lines lines.length c
theorem onP_succ (lines : List (List Int)) (i c : Nat) : onP lines (i + 1) c = onP lines i c ++ ((lines.getD i []).filter (· = (c : Int))).map fun _ => i := by
  simp [onP, List.range_succ, List.flatMap_append]
theorem onP_lt {lines : List (List Int)} {i c x : Nat} (h : x ∈ onP lines i c) : x < i := by
  simp only [onP, List.mem_flatMap, List.mem_range, List.mem_map] at h
  obtain ⟨j, h1, y, _, rfl⟩ := h
  exact h1
def tallyT (lines : List (List Int)) (most fr : Nat) : Nat → List (List Nat)
  | 0 => [List.replicate lines.length 0]
  | n + 1 => (tallyT lines most fr n).flatMap fun x => (List.range (most + 1)).map fun k => addL x (onC lines (fr + n)) k
theorem tallyT_length (lines : List (List Int)) (most fr : Nat) : ∀ n, (tallyT lines most fr n).length = (most + 1) ^ n
  | 0 => rfl
  | n + 1 => by
    simp only [tallyT, List.length_flatMap, List.length_map, List.length_range, List.map_const', List.sum_replicate_nat]
    rw [tallyT_length lines most fr n, Nat.pow_succ]
def blk (x : List Nat) (idx : List Nat) (n : Nat) : Nat → List (List Nat)
  | 0 => []
  | j + 1 => List.replicate n (addL x idx j) ++ blk x idx n j
theorem blk_length (x idx : List Nat) (n : Nat) : ∀ j, (blk x idx n j).length = j * n
  | 0 => by simp [blk]
  | j + 1 => by simp [blk, blk_length x idx n j, Nat.add_mul]; omega
theorem perm_self (ks G : List (List Nat)) (nd : ks.Nodup) (hm : ∀ y, y ∈ ks ↔ y ∈ G) : (ks.flatMap fun x => List.replicate (G.count x) x).Perm G := by
  rw [List.perm_iff_count]
  intro y
  have key : ∀ (l : List (List Nat)), l.Nodup → (l.flatMap fun x => List.replicate (G.count x) x).count y = if y ∈ l then G.count y else 0 := by
    intro l
    induction l with
    | nil => intro _; rfl
    | cons a l ih =>
      intro nd
      rw [List.flatMap_cons, List.count_append, ih (List.nodup_cons.1 nd).2, List.count_replicate]
      by_cases e : y = a
      · subst e
        have : y ∉ l := (List.nodup_cons.1 nd).1
        simp [this]
      · have : ¬ (a == y) = true := by simpa using fun q => e q.symm
        simp [this, e]
  rw [key ks nd]
  by_cases e : y ∈ ks
  · rw [if_pos e]
  · rw [if_neg e, List.count_eq_zero.2 fun q => e ((hm y).2 q)]
theorem blk_perm (x idx : List Nat) (n : Nat) : ∀ j, (blk x idx n j).Perm ((List.replicate n x).flatMap fun x => (List.range j).map fun k => addL x idx k)
  | 0 => by
    have : ((List.replicate n x).flatMap fun x => (List.range 0).map fun k => addL x idx k) = [] := by simp
    rw [this]; exact .refl _
  | j + 1 => by
    refine (List.Perm.append_left _ (blk_perm x idx n j)).trans ?_
    clear blk_perm
    induction n with
    | zero => simp
    | succ n ih =>
      rw [List.replicate_succ, List.replicate_succ, List.flatMap_cons, List.flatMap_cons, List.range_succ, List.map_append, List.map_singleton]
      rw [List.range_succ] at ih
      generalize addL x idx j = a at *
      generalize (List.range j).map (fun k => addL x idx k) = r at *
      have : (a :: List.replicate n a ++ (r ++ (List.replicate n x).flatMap fun x => (List.range j).map fun k => addL x idx k)).Perm (r ++ [a] ++ (List.replicate n a ++ (List.replicate n x).flatMap fun x => (List.range j).map fun k => addL x idx k)) := by
        rw [List.perm_iff_count]; intro y; simp only [List.count_append, List.count_cons, List.cons_append, List.nil_append, List.count_nil]; omega
      refine this.trans ?_
      exact List.Perm.append_left _ ih
theorem next_perm (ks G : List (List Nat)) (idx : List Nat) (j : Nat) (nd : ks.Nodup) (hm : ∀ y, y ∈ ks ↔ y ∈ G) : (ks.flatMap fun x => blk x idx (G.count x) j).Perm (G.flatMap fun x => (List.range j).map fun k => addL x idx k) := by
  refine List.Perm.trans ?_ ((perm_self ks G nd hm).flatMap_right _)
  rw [List.flatMap_assoc]
  clear hm nd
  induction ks with
  | nil => exact .refl _
  | cons a l ih =>
    rw [List.flatMap_cons, List.flatMap_cons]
    exact (blk_perm a idx _ j).append ih
theorem seen_perm {n : Nat} {seen : List Nat} (nd : seen.Nodup) (h1 : ∀ i ∈ seen, i < n) (h2 : ∀ i, i < n → i ∈ seen) : seen.Perm (List.range n) := by
  rw [List.perm_iff_count]
  intro a
  rw [nd.count, List.nodup_range.count]
  by_cases e : a < n
  · rw [if_pos (h2 a e), if_pos (by simpa using e)]
  · rw [if_neg fun q => e (h1 a q), if_neg (by simpa using e)]
end Go.Ev
namespace Go.Ev
open Go Go.Proofs
variable {B : Nat}
abbrev nI (x : Nat) : AV := I (x : Int)
noncomputable abbrev Lt (on bx : Pa) (cells : Nat) (lines : List (List Int)) (o : Nat → Option Pa) (D : Nat → List Nat) (L : List Ob) : List Ob :=
  .arr on (rowL cells fun c => rowV (o c) 1 (D c).length) :: .arr bx [I cells, encT lines] :: (rowL cells (fun c => Ob.gro (o c) 1 (D c).length ((D c).map nI)) ++ L)
theorem Lt_get {on bx : Pa} {cells c : Nat} {lines : List (List Int)} {o : Nat → Option Pa} {D : Nat → List Nat} {L : List Ob} (hc : c < cells) : (Lt on bx cells lines o D L)[c + 2]? = some (.gro (o c) 1 (D c).length ((D c).map nI)) := by
  show (rowL cells _ ++ L)[c]? = _
  rw [List.getElem?_append_left (by simpa using hc), rowL_get hc]
theorem F89.on {N : Nat} {K0 : Kw Prop} {K : Ks Prop} {h0 h : T Blk} {nx : Pa} {L : List Ob} {x0 x1 x2 x3 x5 x7 x8 x9 x10 x11 x12 x13 x14 x15 x16 x17 x21 x22 x23 x24 x25 x26 x27 x28 x29 x30 x31 x32 x33 : AV} {on bx : Pa} {cells : Nat} {lines : List (List Int)} (hN : 100000000 < N) (hm : lines.length ≤ 128) (hw : ∀ l ∈ lines, l.length ≤ 1000) (hl : ∀ l ∈ lines, ∀ c ∈ l, 0 ≤ c ∧ c < (cells : Int))
    (H : Hp h0 h nx (.arr on (List.replicate cells .nils) :: .arr bx [I cells, encT lines] :: L))
    (hK : ∀ x7 x8 x9 x20 x21 x22 x23 x24 x25 h' nx' o, Hp h0 h' nx' (Lt on bx cells lines o (onC lines) L) → K (F89.fr x0 x1 x2 x3 (.ptr bx 0) x5 (.sl on 0 cells (some cells) 1) x7 x8 x9 x10 x11 x12 x13 x14 x15 x16 x17 (encT lines) (I lines.length) x20 x21 x22 x23 x24 x25 x26 x27 x28 x29 x30 x31 x32 x33) h' nx' = .ok True) :
    IR.run F89.b1 (CS Tryz.prog B) N (fnO F89.res K0) K (F89.fr x0 x1 x2 x3 (.ptr bx 0) x5 (.sl on 0 cells (some cells) 1) x7 x8 x9 x10 x11 x12 x13 x14 x15 x16 x17 (encT lines) (I lines.length) (I 0) x21 x22 x23 x24 x25 x26 x27 x28 x29 x30 x31 x32 x33) h nx = .ok True := by
  refine F89.L1 (fun m x20 h' nx' => ∃ (i : Nat) (o : Nat → Option Pa), x20 = I i ∧ lines.length - i = m ∧ i ≤ lines.length ∧ Hp h0 h' nx' (Lt on bx cells lines o (onP lines i) L)) (m := lines.length) (by omega) ⟨0, fun _ => none, rfl, rfl, by omega, ?_⟩ ?_
  · have H2 := (H.addE (E := rowL cells fun _ => Ob.gro none 1 0 []) fun x hx => by
      obtain ⟨j, _, rfl⟩ := rowL_mem hx
      exact ⟨rfl, fun _ => ⟨rfl, rfl⟩⟩).perm (List.perm_append_comm (l₂ := .arr on (List.replicate cells .nils) :: .arr bx [I cells, encT lines] :: L))
    refine (H2.perm (L' := .arr on (List.replicate cells .nils) :: .arr bx [I cells, encT lines] :: (rowL cells (fun _ => Ob.gro none 1 0 []) ++ L)) ?_).cast ?_
    · exact (List.perm_append_comm.cons _).cons _
    · rw [rowL_const]; rfl
  rintro m z7 z8 z9 z20 z21 z22 z23 z24 z25 h1 nx1 R ⟨i, o, rfl, rfl, hi, H1⟩ hR
  simp (disch := omega) only [sAdd, sSub, sMul, sEql, sNeq, sLss, sLeq, sGtr, sGeq, sPick_t, sPick_f, sCond_t, sCond_f, sG_tt, sG_ff, sG_tf, sG_ft, sNot_b, sExt0, sExt1, sExt2, sPart0, sPart1, sPart2, sLen_lst, sLen_sl, sLen_nils, sSame_refl, decide_true, decide_false, Bool.not_true, Bool.not_false, sChk_t]
  by_cases hlt : i < lines.length
  case neg =>
    simp only [show ¬ (i : Int) < (lines.length : Int) by omega, decide_false, sCond_f]
    obtain rfl : i = lines.length := by omega
    exact hK _ _ _ _ _ _ _ _ _ _ _ _ H1
  simp only [show (i : Int) < (lines.length : Int) by omega, decide_true, sCond_t]
  obtain ⟨line, hline⟩ : ∃ l, lines[i]? = some l := ⟨_, List.getElem?_eq_getElem hlt⟩
  have hmem := List.mem_of_getElem? hline
  have hgd : lines.getD i [] = line := by rw [List.getD_eq_getElem?_getD, hline]; rfl
  rw [sIxL rfl hlt, ldL (getT hline)]
  simp (disch := omega) only [sAdd, sSub, sMul, sEql, sNeq, sLss, sLeq, sGtr, sGeq, sPick_t, sPick_f, sCond_t, sCond_f, sG_tt, sG_ff, sG_tf, sG_ft, sNot_b, sExt0, sExt1, sExt2, sPart0, sPart1, sPart2, sLen_lst, sLen_sl, sLen_nils, sSame_refl, decide_true, decide_false, Bool.not_true, Bool.not_false, sChk_t]
  have hlw := hw _ hmem
  refine F89.L7 (fun m x24 h' nx' => ∃ (j : Nat) (o : Nat → Option Pa), x24 = I j ∧ line.length - j = m ∧ j ≤ line.length ∧ Hp h0 h' nx' (Lt on bx cells lines o (fun c => onP lines i c ++ ((line.take j).filter (· = (c : Int))).map fun _ => i) L)) (m := line.length) (by omega) ⟨0, o, rfl, rfl, by omega, H1.cast (by simp [Lt])⟩ ?_
  rintro m z9 z24 z25 h2 nx2 R2 ⟨j, o2, rfl, rfl, hj, H2⟩ hR2
  simp (disch := omega) only [sAdd, sSub, sMul, sEql, sNeq, sLss, sLeq, sGtr, sGeq, sPick_t, sPick_f, sCond_t, sCond_f, sG_tt, sG_ff, sG_tf, sG_ft, sNot_b, sExt0, sExt1, sExt2, sPart0, sPart1, sPart2, sLen_lst, sLen_sl, sLen_nils, sSame_refl, decide_true, decide_false, Bool.not_true, Bool.not_false, sChk_t]
  by_cases hjt : j < line.length
  case neg =>
    simp only [show ¬ (j : Int) < (line.length : Int) by omega, decide_false, sCond_f]
    rw [F89.k14]
    simp (disch := omega) only [sAdd, sSub, sMul, sEql, sNeq, sLss, sLeq, sGtr, sGeq, sPick_t, sPick_f, sCond_t, sCond_f, sG_tt, sG_ff, sG_tf, sG_ft, sNot_b, sExt0, sExt1, sExt2, sPart0, sPart1, sPart2, sLen_lst, sLen_sl, sLen_nils, sSame_refl, decide_true, decide_false, Bool.not_true, Bool.not_false, sChk_t]
    refine hR (lines.length - (i + 1)) _ _ _ _ _ _ _ _ _ _ _ (by omega) ⟨i + 1, o2, rfl, rfl, by omega, H2.cast ?_⟩
    have : ∀ c, onP lines (i + 1) c = onP lines i c ++ ((line.take j).filter (· = (c : Int))).map fun _ => i := fun c => by
      rw [onP_succ, hgd, List.take_of_length_le (by omega)]
    simp only [Lt, this]
  simp only [show (j : Int) < (line.length : Int) by omega, decide_true, sCond_t]
  obtain ⟨cz, hcz⟩ : ∃ c, line[j]? = some c := ⟨_, List.getElem?_eq_getElem hjt⟩
  have hcr := hl _ hmem cz (List.mem_of_getElem? hcz)
  obtain ⟨c, rfl⟩ : ∃ c : Nat, cz = c := ⟨cz.toNat, by omega⟩
  have hc : c < cells := by omega
  rw [sIxL rfl hjt, ldL (getI hcz), sIx (i := c) rfl hc, H2.load (k := 0) rfl (rowL_get hc)]
  refine H2.bslice (l := [I i]) rfl fun t h3 nx3 H3 => ?_
  refine H3.appN (k := c + 3) (o := o2 c) (c := 1) (new := [I i]) (by exact Lt_get (on := on) (bx := bx) (lines := lines) hc) (HasArr.rd (l := [I i]) (n := 1) (H3.own _ (List.mem_cons_self ..)) rfl) rfl rfl (by decide) (by decide) ?_ fun o' h4 nx4 _ H4 => ?_
  · have h1 : (onP lines i c).length ≤ 128000 := by
      have : ∀ i, i ≤ lines.length → (onP lines i c).length ≤ i * 1000 := by
        intro i
        induction i with
        | zero => intro _; simp [onP]
        | succ i ih =>
          intro hi
          rw [onP_succ, List.length_append, List.length_map]
          have h2 := ih (by omega)
          have h3 : ((lines.getD i []).filter (· = (c : Int))).length ≤ 1000 := by
            refine Nat.le_trans (List.length_filter_le _ _) ?_
            rw [List.getD_eq_getElem?_getD, List.getElem?_eq_getElem (by omega)]
            exact hw _ (List.getElem_mem _)
          omega
      have h9 := this i hi
      clear this
      omega
    have h2 : (((line.take j).filter (· = (c : Int))).map fun _ => i).length ≤ 1000 := by
      rw [List.length_map]
      refine Nat.le_trans (List.length_filter_le _ _) ?_
      rw [List.length_take]; omega
    rw [List.length_append]; omega
  rw [sIx (i := c) rfl hc]
  refine H4.store (k := 1) rfl (by simpa using hc) (rowV_cells _ _ _) fun h5 H5 => ?_
  refine hR2 (line.length - (j + 1)) _ _ _ _ _ (by omega) ⟨j + 1, fun p => if p = c then o' else o2 p, rfl, rfl, by omega, H5.drop.cast ?_⟩
  have hD : ∀ p : Nat, (onP lines i p ++ ((line.take (j + 1)).filter (· = (p : Int))).map fun _ => i) = if p = c then (onP lines i c ++ ((line.take j).filter (· = (c : Int))).map fun _ => i) ++ [i] else onP lines i p ++ ((line.take j).filter (· = (p : Int))).map fun _ => i := fun p => by
    rw [List.take_add_one, hcz]
    by_cases e : p = c
    · subst e; simp
    · have : ¬ (c : Int) = (p : Int) := by omega
      simp [e, this]
  simp only [hD]
  simp only [Lt, List.set_cons_succ, List.set_cons_zero, List.tail_cons]
  have e1 : ∀ x : Ob, (rowL cells (fun p => Ob.gro (o2 p) 1 (onP lines i p ++ ((line.take j).filter (· = (p : Int))).map fun _ => i).length ((onP lines i p ++ ((line.take j).filter (· = (p : Int))).map fun _ => i).map nI)) ++ L).set c x = rowL cells (fun p => if p = c then x else Ob.gro (o2 p) 1 (onP lines i p ++ ((line.take j).filter (· = (p : Int))).map fun _ => i).length ((onP lines i p ++ ((line.take j).filter (· = (p : Int))).map fun _ => i).map nI)) ++ L := fun x => by
    rw [List.set_append_left _ _ (by simpa using hc), rowL_set]
  rw [e1, rowL_set]
  congr 1
  · congr 1
    refine rowL_congr fun p _ => ?_
    by_cases e : p = c
    · subst e; simp [Nat.add_assoc]
    · simp [e]
  · congr 2
    refine rowL_congr fun p _ => ?_
    by_cases e : p = c
    · subst e; simp [Nat.add_assoc]
    · simp [e]
theorem sConv_u8 {k : IntKind} {x : Nat} {K : AV → OP} : sConv .u8 (.int k (x : Int)) K = K (u8 (x % 256)) := by
  show intK (wrapF .u8 (x : Int)) (fun z => K (.int .u8 z)) = _
  rw [intK_eq, wrapF_eq, IntKind.wrap_u8]
  have : u8 (x % 256) = .int .u8 ((x : Int) % 256) := by unfold u8; congr 1
  rw [this]
theorem sAdd_u8 {x y : Nat} {K : AV → OP} : sBin .add .int (u8 x) (u8 y) K = K (u8 ((x + y) % 256)) := by
  rw [sAddW, IntKind.wrap_u8]
  have : u8 ((x + y) % 256) = .int .u8 (((x : Int) + (y : Int)) % 256) := by unfold u8; congr 1
  rw [this]
theorem F89.add {N : Nat} {K0 : Kw Prop} {E4 E5 E6 E7 E8 E9 K : Ks Prop} {h0 h : T Blk} {nx : Pa} {L : List Ob} {x0 x1 x2 x3 x4 x5 x6 x7 x8 x9 x10 x11 x12 x13 x14 x17 x18 x19 x20 x21 x22 x23 x24 x25 x26 x27 x28 x29 x33 : AV} {yb : Pa} {y : Key} {idx : List Nat} {o : Option Pa} {k c : Nat} (hN : 100000000 < N) (hy : y.length ≤ 128) (hi : ∀ x ∈ idx, x < y.length) (hn : idx.length ≤ 1000000)
    (H : Hp h0 h nx (.arr yb (cellsK y) :: L)) (hc : L[c]? = some (.gro o 1 idx.length (idx.map nI)))
    (hK : ∀ x17 x32 x33 h' nx', Hp h0 h' nx' (.arr yb (cellsK (addL y idx k)) :: L) → K (F89.fr x0 x1 x2 x3 x4 x5 x6 x7 x8 x9 x10 x11 x12 x13 x14 (I k) (.ptr yb 0) x17 x18 x19 x20 x21 x22 x23 x24 x25 x26 x27 x28 x29 (rowV o 1 idx.length) (I idx.length) x32 x33) h' nx' = .ok True) :
    IR.run F89.b33 (CS Tryz.prog B) N (((((((fnO F89.res K0).blk 4 E4).blk 5 E5).blk 6 E6).blk 7 E7).blk 8 E8).blk 9 E9) K (F89.fr x0 x1 x2 x3 x4 x5 x6 x7 x8 x9 x10 x11 x12 x13 x14 (I k) (.ptr yb 0) x17 x18 x19 x20 x21 x22 x23 x24 x25 x26 x27 x28 x29 (rowV o 1 idx.length) (I idx.length) (I 0) x33) h nx = .ok True := by
  refine F89.L33 (fun m x32 h' nx' => ∃ j : Nat, x32 = I j ∧ idx.length - j = m ∧ j ≤ idx.length ∧ Hp h0 h' nx' (.arr yb (cellsK (addL y (idx.take j) k)) :: L)) (m := idx.length) (by omega) ⟨0, rfl, rfl, by omega, H⟩ ?_
  rintro m z17 z32 z33 h1 nx1 R ⟨j, rfl, rfl, hj, H1⟩ hR
  simp (disch := omega) only [sAdd, sSub, sMul, sEql, sNeq, sLss, sLeq, sGtr, sGeq, sPick_t, sPick_f, sCond_t, sCond_f, sG_tt, sG_ff, sG_tf, sG_ft, sNot_b, sExt0, sExt1, sExt2, sPart0, sPart1, sPart2, sLen_lst, sLen_sl, sLen_nils, sSame_refl, decide_true, decide_false, Bool.not_true, Bool.not_false, sChk_t]
  by_cases hlt : j < idx.length
  case neg =>
    simp only [show ¬ (j : Int) < (idx.length : Int) by omega, decide_false, sCond_f]
    rw [List.take_of_length_le (by omega)] at H1
    exact hK _ _ _ _ _ H1
  simp only [show (j : Int) < (idx.length : Int) by omega, decide_true, sCond_t]
  obtain ⟨x, hx⟩ : ∃ x, idx[j]? = some x := ⟨_, List.getElem?_eq_getElem hlt⟩
  have hxl := hi x (List.mem_of_getElem? hx)
  obtain ⟨id, q1, q2⟩ := H1.groIx (k := c + 1) (by exact hc) (v := I x) (by rw [List.getElem?_map, hx]; rfl)
  have hyl : x < (addL y (idx.take j) k).length := by simpa using hxl
  rw [q1, q2, sAx (i := x) rfl (by omega), H1.load (k := 0) rfl (cellsK_get (List.getElem?_eq_getElem hyl)), sConv_u8, sAdd_u8, sAx (i := x) rfl (by omega)]
  refine H1.store (k := 0) rfl (by rw [cellsK_length (by simpa using hy)]; omega) rfl fun h2 H2 => ?_
  refine hR (idx.length - (j + 1)) _ _ _ _ _ (by omega) ⟨j + 1, rfl, rfl, by omega, H2.cast ?_⟩
  rw [List.set_cons_zero, cellsK_set hyl, List.take_add_one, hx]
  show _ = .arr yb (cellsK (addL y (idx.take j ++ [x]) k)) :: L
  rw [addL_snoc, addAt]
  congr 3
  congr 1
  rw [List.getD_eq_getElem?_getD, List.getElem?_eq_getElem hyl]
  simp
theorem Hp.dropL {h0 h : T Blk} {nx : Pa} : ∀ {A L : List Ob}, Hp h0 h nx (A ++ L) → Hp h0 h nx L
  | [], _, H => H
  | _ :: _, _, H => Hp.dropL H.drop
theorem Hp.dropMid {h0 h : T Blk} {nx : Pa} {A L : List Ob} {x : Ob} (H : Hp h0 h nx (x :: (A ++ L))) : Hp h0 h nx (x :: L) :=
  Hp.dropL (H.perm List.perm_middle.symm)
theorem F89.ks {N : Nat} {K0 : Kw Prop} {E4 E5 E6 E7 K : Ks Prop} {h0 h : T Blk} {nx : Pa} {Lr : List Ob} {x0 x1 x2 x4 x5 x7 x8 x9 x10 x16 x17 x18 x19 x20 x21 x22 x23 x24 x25 x26 x27 x28 x29 x30 x31 x32 x33 : AV} {xb nid on : Pa} {hdr : List AV} {x : Key} {idx : List Nat} {o : Option Pa} {ks G : List Key} {m most n p q r c cells : Nat} (hN : 100000000 < N) (hm : m ≤ 128) (hx : x.length = m) (hi : ∀ z ∈ idx, z < m) (hidx : idx.length ≤ 1000000) (hmost : most ≤ 1000) (hn : 1 ≤ n) (hG : G.length + (most + 2) * n ≤ 4000000000000000000)
    (H : Hp h0 h nx (.arr xb (cellsK x) :: Lr)) (hp : Lr[p]? = some (.map nid (ks.map (entK (cntV G))))) (O : KsOk m ks G) (hq : Lr[q]? = some (.arr on hdr)) (hqp : p ≠ q) (hh : hdr[c]? = some (rowV o 1 idx.length)) (hr : Lr[r]? = some (.gro o 1 idx.length (idx.map nI))) (hrp : p ≠ r) (hc : c < cells)
    (hK : ∀ x15 x16 x17 x29 x30 x31 x32 x33 h' nx' ks', KsOk m ks' (blk x idx n (most + 1) ++ G) → Hp h0 h' nx' (.arr xb (cellsK x) :: Lr.set p (.map nid (ks'.map (entK (cntV (blk x idx n (most + 1) ++ G)))))) → K (F89.fr x0 x1 x2 (I most) x4 x5 (.sl on 0 cells (some cells) 1) x7 x8 x9 x10 (I c) (.map nid) (.ptr xb 0) (I n) x15 x16 x17 x18 x19 x20 x21 x22 x23 x24 x25 x26 x27 x28 x29 x30 x31 x32 x33) h' nx' = .ok True) :
    IR.run F89.b27 (CS Tryz.prog B) N (((((fnO F89.res K0).blk 4 E4).blk 5 E5).blk 6 E6).blk 7 E7) K (F89.fr x0 x1 x2 (I most) x4 x5 (.sl on 0 cells (some cells) 1) x7 x8 x9 x10 (I c) (.map nid) (.ptr xb 0) (I n) (I 0) x16 x17 x18 x19 x20 x21 x22 x23 x24 x25 x26 x27 x28 x29 x30 x31 x32 x33) h nx = .ok True := by
  refine F89.L27 (fun m' x15 h' nx' => ∃ (k : Nat) (ks' : List Key), x15 = I k ∧ most + 1 - k = m' ∧ k ≤ most + 1 ∧ KsOk m ks' (blk x idx n k ++ G) ∧ Hp h0 h' nx' (.arr xb (cellsK x) :: Lr.set p (.map nid (ks'.map (entK (cntV (blk x idx n k ++ G))))))) (m := most + 1) (by omega) ⟨0, ks, rfl, rfl, by omega, O, H.cast ?_⟩ ?_
  · have e : Lr.set p (.map nid (ks.map (entK (cntV G)))) = Lr := by rw [(getSplit hp).2]; exact (getSplit hp).1.symm
    exact congrArg _ e.symm
  rintro m' z15 z16 z17 z29 z30 z31 z32 z33 h1 nx1 R ⟨k, ks1, rfl, rfl, hk, O1, H1⟩ hR
  simp (disch := omega) only [sAdd, sSub, sMul, sEql, sNeq, sLss, sLeq, sGtr, sGeq, sPick_t, sPick_f, sCond_t, sCond_f, sG_tt, sG_ff, sG_tf, sG_ft, sNot_b, sExt0, sExt1, sExt2, sPart0, sPart1, sPart2, sLen_lst, sLen_sl, sLen_nils, sSame_refl, decide_true, decide_false, Bool.not_true, Bool.not_false, sChk_t]
  by_cases hlt : k ≤ most
  case neg =>
    simp only [show ¬ (k : Int) ≤ (most : Int) by omega, decide_false, sCond_f]
    obtain rfl : k = most + 1 := by omega
    exact hK _ _ _ _ _ _ _ _ _ _ _ O1 H1
  simp only [show (k : Int) ≤ (most : Int) by omega, decide_true, sCond_t]
  have hpl := (List.getElem?_eq_some_iff.1 hp).1
  rw [H1.loadN (k := 0) rfl (cellsK_length (by omega))]
  refine H1.alloc fun yb h2 nx2 H2 => ?_
  refine H2.storeN (k := 0) rfl rfl (cellsK_length (by omega)) fun h3 H3 => ?_
  have H3 : Hp h0 h3 nx2 (.arr yb (cellsK x) :: .arr xb (cellsK x) :: Lr.set p (.map nid (ks1.map (entK (cntV (blk x idx n k ++ G)))))) := H3
  have hq3 : (Lr.set p (.map nid (ks1.map (entK (cntV (blk x idx n k ++ G))))))[q]? = some (.arr on hdr) := by rw [List.getElem?_set_ne hqp]; exact hq
  have hr3 : (Lr.set p (.map nid (ks1.map (entK (cntV (blk x idx n k ++ G))))))[r]? = some (.gro o 1 idx.length (idx.map nI)) := by rw [List.getElem?_set_ne hrp]; exact hr
  rw [sIx (i := c) rfl hc, H3.load (k := q + 2) hq3 hh, H3.groLen (k := r + 2) hr3]
  refine F89.add (k := k) hN (by omega) (fun z hz => by rw [hx]; exact hi z hz) hidx H3 (c := r + 1) hr3 fun y17 y32 y33 h4 nx4 H4 => ?_
  rw [F89.k40]
  rw [H4.loadN (k := 0) rfl (cellsK_length (by rw [addL_length]; omega))]
  have hlen : (blk x idx n k ++ G).length + n ≤ 4000000000000000000 := by
    rw [List.length_append, blk_length]
    have : k * n + n ≤ (most + 2) * n := by
      have := Nat.mul_le_mul_right n (show k + 1 ≤ most + 2 by omega)
      rw [Nat.add_mul] at this; omega
    omega
  refine H4.mapAdd (k := p + 2) (nn := n) (y := addL x idx k) hm (by exact List.getElem?_set_self hpl) O1 (by rw [addL_length]; exact hx) hn (by omega) (K := fun h9 n10 => IR.run F89.b41 (CS Tryz.prog B) N ((((((fnO F89.res K0).blk 4 E4).blk 5 E5).blk 6 E6).blk 7 E7).blk 8 K) R _ h9 n10) fun h5 ks2 O2 H5 => ?_
  rw [F89.k41, sAdd (by omega)]
  refine hR (most + 1 - (k + 1)) _ _ _ _ _ _ _ _ _ _ (by omega) ⟨k + 1, ks2, rfl, rfl, by omega, O2.perm (by simp [blk]), H5.drop.cast ?_⟩
  simp only [List.set_cons_succ, List.tail_cons, List.set_set]
  rw [blk, List.append_assoc]
abbrev blkAt (ks G : List Key) (idx : List Nat) (most : Nat) (i : Nat) : List Key := blk (ks.getD i []) idx (G.count (ks.getD i [])) (most + 1)
theorem flatMap_len {α : Type} {f : α → List Key} {M : Nat} : ∀ (l : List α), (∀ i ∈ l, (f i).length ≤ M) → (l.flatMap f).length ≤ l.length * M
  | [], _ => by simp
  | a :: l, h => by
    have h1 := h a (by simp)
    have h2 := flatMap_len l fun i hi => h i (by simp [hi])
    rw [List.flatMap_cons, List.length_append, List.length_cons, Nat.add_mul]; omega
theorem F89.ents {N : Nat} {K0 : Kw Prop} {E4 E5 K : Ks Prop} {h0 h : T Blk} {nx : Pa} {L : List Ob} {x0 x1 x2 x4 x5 x7 x8 x9 x10 x13 x14 x15 x16 x17 x18 x19 x20 x21 x22 x23 x24 x25 x26 x28 x29 x30 x31 x32 x33 : AV} {it mid nid on bx : Pa} {o : Nat → Option Pa} {lines : List (List Int)} {ksM GM : List Key} {most c cells : Nat} (hN : 100000000 < N) (hm : lines.length ≤ 128) (hD : ∀ c, (onC lines c).length ≤ 1000000) (hmost : most ≤ 1000) (hGM : GM.length ≤ 1000000) (O : KsOk lines.length ksM GM) (hkl : ksM.length ≤ 1000000) (hc : c < cells)
    (H : Hp h0 h nx (.iter it mid (ksM.map (entK (cntV GM))).length [] (ksM.map (entK (cntV GM))).length :: .map nid [] :: .map mid (ksM.map (entK (cntV GM))) :: Lt on bx cells lines o (onC lines) L))
    (hK : ∀ x13 x14 x15 x16 x17 x28 x29 x30 x31 x32 x33 h' nx' ks' G', KsOk lines.length ks' G' → G'.Perm (GM.flatMap fun x => (List.range (most + 1)).map fun k => addL x (onC lines c) k) → Hp h0 h' nx' (.map nid (ks'.map (entK (cntV G'))) :: .map mid (ksM.map (entK (cntV GM))) :: Lt on bx cells lines o (onC lines) L) → K (F89.fr x0 x1 x2 (I most) x4 x5 (.sl on 0 cells (some cells) 1) x7 x8 x9 x10 (I c) (.map nid) x13 x14 x15 x16 x17 x18 x19 x20 x21 x22 x23 x24 x25 x26 (.ptr it 0) x28 x29 x30 x31 x32 x33) h' nx' = .ok True) :
    IR.run F89.b22 (CS Tryz.prog B) N (((fnO F89.res K0).blk 4 E4).blk 5 E5) K (F89.fr x0 x1 x2 (I most) x4 x5 (.sl on 0 cells (some cells) 1) x7 x8 x9 x10 (I c) (.map nid) x13 x14 x15 x16 x17 x18 x19 x20 x21 x22 x23 x24 x25 x26 (.ptr it 0) x28 x29 x30 x31 x32 x33) h nx = .ok True := by
  refine F89.L22 (fun m' h' nx' => ∃ (seen : List Nat) (ks' : List Key), (leftA ksM.length seen).length = m' ∧ seen.length + m' = ksM.length ∧ seen.Nodup ∧ (∀ i ∈ seen, i < ksM.length) ∧ KsOk lines.length ks' (seen.flatMap (blkAt ksM GM (onC lines c) most)) ∧
    Hp h0 h' nx' (.iter it mid (ksM.map (entK (cntV GM))).length seen (ksM.map (entK (cntV GM))).length :: .map nid (ks'.map (entK (cntV (seen.flatMap (blkAt ksM GM (onC lines c) most))))) :: .map mid (ksM.map (entK (cntV GM))) :: Lt on bx cells lines o (onC lines) L)) (m := ksM.length) (by omega) ⟨[], [], by (have e : leftA ksM.length [] = List.range ksM.length := List.filter_eq_self.2 (by simp)); rw [e]; simp, by simp, by simp, by simp, KsOk.nil _, H⟩ ?_
  rintro m' z13 z14 z15 z16 z17 z28 z29 z30 z31 z32 z33 h1 nx1 R ⟨seen, ks1, rfl, hsl, hnd, hlt, O1, H1⟩ hR
  refine H1.next (k := 0) (j := 2) rfl rfl (fun hall => ?_) fun i a b h2 hi hns hab H2 => ?_
  · simp (disch := omega) only [sAdd, sSub, sMul, sEql, sNeq, sLss, sLeq, sGtr, sGeq, sPick_t, sPick_f, sCond_t, sCond_f, sG_tt, sG_ff, sG_tf, sG_ft, sNot_b, sExt0, sExt1, sExt2, sPart0, sPart1, sPart2, sLen_lst, sLen_sl, sLen_nils, sSame_refl, decide_true, decide_false, Bool.not_true, Bool.not_false, sChk_t]
    refine hK _ _ _ _ _ _ _ _ _ _ _ _ _ ks1 _ O1 ?_ H1.drop
    have hsp := seen_perm hnd hlt fun i hi => hall i (by simpa using hi)
    refine (hsp.flatMap_right _).trans ?_
    have e : (List.range ksM.length).flatMap (blkAt ksM GM (onC lines c) most) = ksM.flatMap fun x => blk x (onC lines c) (GM.count x) (most + 1) := by
      have : ksM = (List.range ksM.length).map fun i => ksM.getD i [] := by
        have := rowL_self ksM []
        exact this
      conv => rhs; rw [this]
      rw [List.flatMap_map]
    rw [e]
    exact next_perm ksM GM (onC lines c) (most + 1) O.nd O.mem
  · have hi' : i < ksM.length := by simpa using hi
    obtain ⟨x, hx⟩ : ∃ x, ksM[i]? = some x := ⟨_, List.getElem?_eq_getElem hi'⟩
    have hxm := List.mem_of_getElem? hx
    rw [List.getElem?_map, hx] at hab
    obtain ⟨rfl, rfl⟩ : encK x = a ∧ cntV GM x = b := by simpa [entK] using hab
    have hgx : ksM.getD i [] = x := by rw [List.getD_eq_getElem?_getD, hx]; rfl
    have hxl := O.klen x hxm
    have hcx : 1 ≤ GM.count x := List.count_pos_iff.2 ((O.mem x).1 hxm)
    have hcx2 : GM.count x ≤ GM.length := List.count_le_length
    simp (disch := omega) only [sAdd, sSub, sMul, sEql, sNeq, sLss, sLeq, sGtr, sGeq, sPick_t, sPick_f, sCond_t, sCond_f, sG_tt, sG_ff, sG_tf, sG_ft, sNot_b, sExt0, sExt1, sExt2, sPart0, sPart1, sPart2, sLen_lst, sLen_sl, sLen_nils, sSame_refl, decide_true, decide_false, Bool.not_true, Bool.not_false, sChk_t]
    have hent : (ksM.map (entK (cntV GM)))[i]? = some (encK x, cntV GM x) := by rw [List.getElem?_map, hx]; rfl
    rw [H2.entry (k := 0) (j := 2) rfl rfl hent]
    simp (disch := omega) only [sAdd, sSub, sMul, sEql, sNeq, sLss, sLeq, sGtr, sGeq, sPick_t, sPick_f, sCond_t, sCond_f, sG_tt, sG_ff, sG_tf, sG_ft, sNot_b, sExt0, sExt1, sExt2, sPart0, sPart1, sPart2, sLen_lst, sLen_sl, sLen_nils, sSame_refl, decide_true, decide_false, Bool.not_true, Bool.not_false, sChk_t]
    refine H2.alloc fun xb h3 nx3 H3 => ?_
    refine H3.storeN (k := 0) rfl rfl (cellsK_length (by omega)) fun h4 H4 => ?_
    have hb : ∀ j ∈ seen, (blkAt ksM GM (onC lines c) most j).length ≤ 1001 * 1000000 := fun j _ => by
      rw [blk_length]
      exact Nat.mul_le_mul (by omega) (Nat.le_trans List.count_le_length hGM)
    have hfl : (seen.flatMap (blkAt ksM GM (onC lines c) most)).length ≤ seen.length * (1001 * 1000000) := flatMap_len seen hb
    have hsl2 : seen.length * (1001 * 1000000) ≤ 1000000 * (1001 * 1000000) := Nat.mul_le_mul_right _ (by omega)
    have hmn : (most + 2) * GM.count x ≤ 1002 * 1000000 := Nat.mul_le_mul (by omega) (by omega)
    refine F89.ks (most := most) (n := GM.count x) (p := 1) (q := 3) (r := c + 5) (idx := onC lines c) (o := o c) hN hm hxl (fun z hz => onP_lt hz) (hD c) hmost hcx (by omega) H4 rfl O1 rfl (by decide) (rowL_get hc) (by exact Lt_get (on := on) (bx := bx) (lines := lines) hc) (by omega) hc fun y15 y16 y17 y29 y30 y31 y32 y33 h5 nx5 ks2 O2 H5 => ?_
    have hst := leftA_step hi' hns
    have e : (i :: seen).flatMap (blkAt ksM GM (onC lines c) most) = blk x (onC lines c) (GM.count x) (most + 1) ++ seen.flatMap (blkAt ksM GM (onC lines c) most) := by
      rw [List.flatMap_cons, blkAt, hgx]
    refine hR _ _ _ _ _ _ _ _ _ _ _ _ _ _ (by omega) ⟨i :: seen, ks2, rfl, by simp; omega, List.nodup_cons.2 ⟨hns, hnd⟩, fun j hj => ?_, by rw [e]; exact O2, by rw [e]; exact H5.drop⟩
    rcases List.mem_cons.1 hj with rfl | q
    · exact hi'
    · exact hlt j q
theorem Hp.swap {h0 h : T Blk} {nx : Pa} {a b : Ob} {L : List Ob} (H : Hp h0 h nx (a :: b :: L)) : Hp h0 h nx (b :: a :: L) := H.perm (.swap _ _ _)
theorem F89.cells {N : Nat} {K0 : Kw Prop} {K : Ks Prop} {h0 h : T Blk} {nx : Pa} {L : List Ob} {x0 x1 x4 x5 x7 x8 x9 x12 x13 x14 x15 x16 x17 x18 x19 x20 x21 x22 x23 x24 x25 x26 x27 x28 x29 x30 x31 x32 x33 : AV} {mid on bx : Pa} {o : Nat → Option Pa} {lines : List (List Int)} {most fr to cells : Nat} (hN : 100000000 < N) (hm : lines.length ≤ 128) (hD : ∀ c, (onC lines c).length ≤ 1000000) (hmost : most ≤ 1000) (hfr : fr ≤ to) (hto : to ≤ cells) (hcl : cells ≤ 1000000) (hpow : (most + 1) ^ (to - fr) ≤ 1000000)
    (H : Hp h0 h nx (.map mid ([List.replicate lines.length 0].map (entK (cntV [List.replicate lines.length 0]))) :: Lt on bx cells lines o (onC lines) L))
    (hK : ∀ x12 x13 x14 x15 x16 x17 x26 x27 x28 x29 x30 x31 x32 x33 h' nx' id ks G, KsOk lines.length ks G → G.Perm (tallyT lines most fr (to - fr)) → Hp h0 h' nx' (.map id (ks.map (entK (cntV G))) :: Lt on bx cells lines o (onC lines) L) → K (F89.fr x0 x1 (I to) (I most) x4 x5 (.sl on 0 cells (some cells) 1) x7 x8 x9 (.map id) (I to) x12 x13 x14 x15 x16 x17 x18 x19 x20 x21 x22 x23 x24 x25 x26 x27 x28 x29 x30 x31 x32 x33) h' nx' = .ok True) :
    IR.run F89.b16 (CS Tryz.prog B) N (fnO F89.res K0) K (F89.fr x0 x1 (I to) (I most) x4 x5 (.sl on 0 cells (some cells) 1) x7 x8 x9 (.map mid) (I fr) x12 x13 x14 x15 x16 x17 x18 x19 x20 x21 x22 x23 x24 x25 x26 x27 x28 x29 x30 x31 x32 x33) h nx = .ok True := by
  refine F89.L16 (fun m' x10 x11 h' nx' => ∃ (c : Nat) (mid : Pa) (ks G : List Key), x10 = .map mid ∧ x11 = I c ∧ to - c = m' ∧ fr ≤ c ∧ c ≤ to ∧ KsOk lines.length ks G ∧ G.Perm (tallyT lines most fr (c - fr)) ∧ Hp h0 h' nx' (.map mid (ks.map (entK (cntV G))) :: Lt on bx cells lines o (onC lines) L)) (m := to - fr) (by omega)
    ⟨fr, mid, [List.replicate lines.length 0], [List.replicate lines.length 0], rfl, rfl, rfl, Nat.le_refl _, hfr, ⟨by simp, by simp, by simp⟩, by rw [Nat.sub_self]; exact .refl _, H⟩ ?_
  rintro m' z10 z11 z12 z13 z14 z15 z16 z17 z26 z27 z28 z29 z30 z31 z32 z33 h1 nx1 R ⟨c, mid1, ks1, G1, rfl, rfl, rfl, hc1, hc2, O1, hp1, H1⟩ hR
  simp (disch := omega) only [sAdd, sSub, sMul, sEql, sNeq, sLss, sLeq, sGtr, sGeq, sPick_t, sPick_f, sCond_t, sCond_f, sG_tt, sG_ff, sG_tf, sG_ft, sNot_b, sExt0, sExt1, sExt2, sPart0, sPart1, sPart2, sLen_lst, sLen_sl, sLen_nils, sSame_refl, decide_true, decide_false, Bool.not_true, Bool.not_false, sChk_t]
  by_cases hlt : c < to
  case neg =>
    simp only [show ¬ (c : Int) < (to : Int) by omega, decide_false, sCond_f]
    obtain rfl : c = to := by omega
    exact hK _ _ _ _ _ _ _ _ _ _ _ _ _ _ _ _ _ _ _ O1 hp1 H1
  simp only [show (c : Int) < (to : Int) by omega, decide_true, sCond_t]
  refine H1.mkmap fun nid h2 nx2 H2 => ?_
  refine H2.range (k := 1) rfl fun it h3 nx3 H3 => ?_
  have hlen : G1.length ≤ 1000000 := by
    rw [hp1.length_eq, tallyT_length]
    exact Nat.le_trans (Nat.pow_le_pow_right (by omega) (by omega)) hpow
  have hkl : ks1.length ≤ G1.length := by
    have h1 := (perm_self ks1 G1 O1.nd O1.mem).length_eq
    rw [← h1, List.length_flatMap]
    have : ∀ l : List Key, (∀ y ∈ l, y ∈ G1) → l.length ≤ (l.map fun x => (List.replicate (G1.count x) x).length).sum := by
      intro l
      induction l with
      | nil => simp
      | cons a l ih =>
        intro h
        have h2 := ih fun y hy => h y (by simp [hy])
        have h3 : 1 ≤ G1.count a := List.count_pos_iff.2 (h a (by simp))
        simp only [List.map_cons, List.sum_cons, List.length_cons, List.length_replicate] at h2 ⊢
        omega
    exact this ks1 fun y hy => (O1.mem y).1 hy
  refine F89.ents (c := c) (o := o) (bx := bx) (L := L) hN hm hD hmost hlen O1 (by omega) (by omega) H3 fun y13 y14 y15 y16 y17 y28 y29 y30 y31 y32 y33 h4 nx4 ks2 G2 O2 hp2 H4 => ?_
  rw [F89.k42, F89.k43, sAdd (by omega)]
  refine hR (to - (c + 1)) _ _ _ _ _ _ _ _ _ _ _ _ _ _ _ _ _ _ (by omega) ⟨c + 1, nid, ks2, G2, rfl, rfl, rfl, by omega, by omega, O2, ?_, H4.swap.drop⟩
  rw [show c + 1 - fr = (c - fr) + 1 by omega, tallyT, show fr + (c - fr) = c by omega]
  exact hp2.trans (hp1.flatMap_right _)
theorem tally89 {h0 h : T Blk} {nx : Pa} {L : List Ob} {lines : List (List Int)} {most fr to cells : Nat} {p : Pa} {K : Kw Prop} (hm : lines.length ≤ 128) (hw : ∀ l ∈ lines, l.length ≤ 1000) (hl : ∀ l ∈ lines, ∀ c ∈ l, 0 ≤ c ∧ c < (cells : Int)) (hmost : most ≤ 1000) (hfr : fr ≤ to) (hto : to ≤ cells) (hcl : cells ≤ 1000000) (hpow : (most + 1) ^ (to - fr) ≤ 1000000) (H : Hp h0 h nx L)
    (hK : ∀ h' nx' id ks G, KsOk lines.length ks G → G.Perm (tallyT lines most fr (to - fr)) → Hp h0 h' nx' (.map id (ks.map (entK (cntV G))) :: L) → K (.map id) h' nx' = .ok True) :
    (CS Tryz.prog B).fn 89 p [.agg [I cells, encT lines], I fr, I to, I most] h nx K = .ok True := by
  have hD : ∀ c, (onC lines c).length ≤ 1000000 := fun c => by
    have : ∀ i, i ≤ lines.length → (onP lines i c).length ≤ i * 1000 := by
      intro i
      induction i with
      | zero => intro _; simp [onP]
      | succ i ih =>
        intro hi
        rw [onP_succ, List.length_append, List.length_map]
        have h2 := ih (by omega)
        have h3 : ((lines.getD i []).filter (· = (c : Int))).length ≤ 1000 := by
          refine Nat.le_trans (List.length_filter_le _ _) ?_
          rw [List.getD_eq_getElem?_getD, List.getElem?_eq_getElem (by omega)]
          exact hw _ (List.getElem_mem _)
        omega
    have h9 := this _ (Nat.le_refl _)
    clear this
    show (onP lines lines.length c).length ≤ _
    omega
  refine CS_fn_mono (p := .of 89) (K := K) (by_body tbl_ok dreg 1000000000 fun hf => ?_) fun _ _ _ _ q => q
  rw [F89.go]
  refine H.box (l := [I cells, encT lines]) rfl fun bx h1 nx1 H1 => ?_
  rw [sFx, H1.load (k := 0) (i := 0) rfl rfl]
  refine H1.mk1 cells rfl rfl hcl (by decide) fun on h2 nx2 H2 => ?_
  rw [sFx, H2.load (k := 1) (i := 0 + 1) rfl rfl]
  simp (disch := omega) only [sAdd, sSub, sMul, sEql, sNeq, sLss, sLeq, sGtr, sGeq, sPick_t, sPick_f, sCond_t, sCond_f, sG_tt, sG_ff, sG_tf, sG_ft, sNot_b, sExt0, sExt1, sExt2, sPart0, sPart1, sPart2, sLen_lst, sLen_sl, sLen_nils, sSame_refl, decide_true, decide_false, Bool.not_true, Bool.not_false, sChk_t]
  refine F89.on (by decide) hm hw hl H2 fun y7 y8 y9 y20 y21 y22 y23 y24 y25 h3 nx3 o H3 => ?_
  rw [F89.k15]
  refine H3.mkmap fun mid h4 nx4 H4 => ?_
  have hz : encK (List.replicate lines.length 0) = .agg (List.replicate 128 (u8 0)) := by rw [encK, cellsK_zero hm]
  have hb : ∀ (z : List AV) (op : AV → OP), sBuild z [] op = op (.agg z) := fun z op => rfl
  rw [hb]
  have hz2 : AV.agg (List.replicate 128 (u8 0)) = encK (List.replicate lines.length 0) := hz.symm
  refine Eq.trans (b := sMapup (.agg 128) (.map mid) (AV.agg (List.replicate 128 (u8 0))) (I 1) h4 nx4 _) rfl ?_
  rw [hz2]
  refine H4.mapFirst (m := lines.length) hm (by simp) (k := 0) rfl fun h5 H5 => ?_
  refine F89.cells (o := o) (by decide) hm hD hmost hfr hto hcl hpow H5 fun y12 y13 y14 y15 y16 y17 y26 y27 y28 y29 y30 y31 y32 y33 h6 nx6 id ks G O6 hp6 H6 => ?_
  rw [F89.k44]
  exact hK _ _ _ _ _ O6 hp6 (Hp.dropMid (A := .arr on _ :: .arr bx _ :: rowL cells _) H6)
end Go.Ev
namespace Go.Ev
open Go Go.Proofs
variable {B : Nat}
theorem tallyT_lt (lines : List (List Int)) (most fr : Nat) : ∀ n, ∀ y ∈ tallyT lines most fr n, ∀ v ∈ y, v < 256
  | 0, y, h, v, hv => by
    rw [List.mem_singleton.1 h] at hv
    rw [(List.mem_replicate.1 hv).2]; decide
  | n + 1, y, h, v, hv => by
    simp only [tallyT, List.mem_flatMap, List.mem_map] at h
    obtain ⟨x, hx, k, _, rfl⟩ := h
    have ih := tallyT_lt lines most fr n x hx
    have : ∀ (idx : List Nat) (y : List Nat), (∀ v ∈ y, v < 256) → ∀ v ∈ addL y idx k, v < 256 := by
      intro idx
      induction idx with
      | nil => exact fun y h => h
      | cons i l ih2 =>
        intro y h
        refine ih2 _ fun v hv => ?_
        rcases List.mem_or_eq_of_mem_set hv with q | rfl
        · exact h v q
        · omega
    exact this _ _ ih v hv
def fB (sum : Nat) (G : List Key) (x : Key) : Nat := if x.all (fun v => decide (v ≤ sum)) then G.count (x.map fun v => sum - v) else 0
def bsum (lines : List (List Int)) (most sum half cells : Nat) : Nat := ((tallyT lines most 0 half).map (fB sum (tallyT lines most half (cells - half)))).sum
theorem sum_perm {α : Type} {l l' : List α} (f : α → Nat) (h : l.Perm l') : (l.map f).sum = (l'.map f).sum := by
  induction h with
  | nil => rfl
  | cons a _ ih => simp [ih]
  | swap a b l => simp; omega
  | trans _ _ h1 h2 => exact h1.trans h2
theorem sum_flat {f : Key → Nat} {G : List Key} : ∀ (l : List Key), ((l.flatMap fun x => List.replicate (G.count x) x).map f).sum = (l.map fun x => G.count x * f x).sum
  | [] => rfl
  | a :: l => by
    rw [List.flatMap_cons, List.map_append, List.sum_append, sum_flat l, List.map_cons, List.sum_cons]
    congr 1
    rw [List.map_replicate, List.sum_replicate_nat]
theorem sum_keys {f : Key → Nat} {ks G : List Key} {m : Nat} (O : KsOk m ks G) : (ks.map fun x => G.count x * f x).sum = (G.map f).sum := by
  rw [← sum_flat, sum_perm f (perm_self ks G O.nd O.mem)]
theorem fB_perm {sum : Nat} {G G' : List Key} (h : G.Perm G') : fB sum G = fB sum G' := by
  funext x; simp only [fB]; rw [h.count_eq]
theorem fB_le {sum : Nat} {G : List Key} {x : Key} : fB sum G x ≤ G.length := by
  unfold fB; split
  · exact List.count_le_length
  · omega
theorem sConv_i64 {k : IntKind} {x : Nat} {K : AV → OP} (h : x ≤ 1000000) : sConv .i64 (.int k (x : Int)) K = K (I x) := by
  show intK (wrapF .i64 (x : Int)) (fun z => K (.int .i64 z)) = _
  rw [intK_eq, wrapF_eq, wrap64_in (by omega)]
theorem sSub_u8 {x y : Nat} {K : AV → OP} (h : y ≤ x) (hx : x < 256) : sBin .sub .int (u8 x) (u8 y) K = K (u8 (x - y)) := by
  rw [sSubW, IntKind.wrap_u8]
  have : u8 (x - y) = .int .u8 (((x : Int) - (y : Int)) % 256) := by unfold u8; congr 1; omega
  rw [this]
theorem F31.rest {N : Nat} {K0 : Kw Prop} {E0 E1 K : Ks Prop} {h0 h : T Blk} {nx : Pa} {L : List Ob} {x0 x1 x3 x4 x5 x6 x7 x8 x9 x11 x13 x14 x15 x16 x17 x18 x21 x22 : AV} {xb rb : Pa} {x : Key} {sum m : Nat} (hN : 1000 < N) (hm : m ≤ 128) (hx : x.length = m) (hv : ∀ v ∈ x, v < 256) {s : Int} (hs : m = 0 ∨ (s = sum ∧ sum ≤ 255))
    (H : Hp h0 h nx (.arr rb (cellsK (List.replicate m 0)) :: .arr xb (cellsK x) :: L))
    (hno : ∀ x13 x20 x21 x22 h' nx', ¬ x.all (fun v => decide (v ≤ sum)) = true → Hp h0 h' nx' L → E1 (F31.fr x0 x1 (I s) x3 x4 x5 x6 x7 x8 x9 (.ptr xb 0) x11 (.ptr rb 0) x13 x14 x15 x16 x17 x18 (I m) x20 x21 x22) h' nx' = .ok True)
    (hK : ∀ x13 x20 x21 x22 h' nx', x.all (fun v => decide (v ≤ sum)) = true → Hp h0 h' nx' (.arr rb (cellsK (x.map fun v => sum - v)) :: .arr xb (cellsK x) :: L) → K (F31.fr x0 x1 (I s) x3 x4 x5 x6 x7 x8 x9 (.ptr xb 0) x11 (.ptr rb 0) x13 x14 x15 x16 x17 x18 (I m) x20 x21 x22) h' nx' = .ok True) :
    IR.run F31.b9 (CS Tryz.prog B) N (((fnO F31.res K0).blk 0 E0).blk 1 E1) K (F31.fr x0 x1 (I s) x3 x4 x5 x6 x7 x8 x9 (.ptr xb 0) x11 (.ptr rb 0) x13 x14 x15 x16 x17 x18 (I m) (I 0) x21 x22) h nx = .ok True := by
  refine F31.L9 (fun m' x20 h' nx' => ∃ j : Nat, x20 = I j ∧ m - j = m' ∧ j ≤ m ∧ (x.take j).all (fun v => decide (v ≤ sum)) = true ∧ Hp h0 h' nx' (.arr rb (cellsK ((x.take j).map (fun v => sum - v) ++ List.replicate (m - j) 0)) :: .arr xb (cellsK x) :: L)) (m := m) (by omega) ⟨0, rfl, rfl, by omega, rfl, H⟩ ?_
  rintro m' z13 z20 z21 z22 h1 nx1 R ⟨j, rfl, rfl, hj, hall, H1⟩ hR
  simp (disch := omega) only [sAdd, sSub, sMul, sEql, sNeq, sLss, sLeq, sGtr, sGeq, sPick_t, sPick_f, sCond_t, sCond_f, sG_tt, sG_ff, sG_tf, sG_ft, sNot_b, sExt0, sExt1, sExt2, sPart0, sPart1, sPart2, sLen_lst, sLen_sl, sLen_nils, sSame_refl, decide_true, decide_false, Bool.not_true, Bool.not_false, sChk_t]
  by_cases hlt : j < m
  case neg =>
    simp only [show ¬ (j : Int) < (m : Int) by omega, decide_false, sCond_f]
    obtain rfl : j = m := by omega
    rw [List.take_of_length_le (by omega)] at hall H1
    exact hK _ _ _ _ _ _ hall (H1.cast (by simp))
  simp only [show (j : Int) < (m : Int) by omega, decide_true, sCond_t]
  have hjx : j < x.length := by omega
  have hxj : x[j]? = some x[j] := List.getElem?_eq_getElem hjx
  have hv1 := hv _ (List.getElem_mem hjx)
  obtain ⟨rfl, hs'⟩ := hs.resolve_left (by omega)
  rw [sAx (i := j) rfl (by omega), H1.load (k := 1) rfl (cellsK_get hxj), sConv_i64 (by omega)]
  simp (disch := omega) only [sAdd, sSub, sMul, sEql, sNeq, sLss, sLeq, sGtr, sGeq, sPick_t, sPick_f, sCond_t, sCond_f, sG_tt, sG_ff, sG_tf, sG_ft, sNot_b, sExt0, sExt1, sExt2, sPart0, sPart1, sPart2, sLen_lst, sLen_sl, sLen_nils, sSame_refl, decide_true, decide_false, Bool.not_true, Bool.not_false, sChk_t]
  by_cases hle : x[j] ≤ sum
  case neg =>
    simp only [show (sum : Int) < (x[j] : Int) by omega, decide_true, sCond_t]
    refine hno _ _ _ _ _ _ (fun q => ?_) H1.drop.drop
    have := List.all_eq_true.1 q _ (List.getElem_mem hjx)
    exact hle (of_decide_eq_true this)
  simp only [show ¬ (sum : Int) < (x[j] : Int) by omega, decide_false, sCond_f]
  have hlen : ((x.take j).map (fun v => sum - v) ++ List.replicate (m - j) 0).length = m := by simp; omega
  rw [sConv_u8, Nat.mod_eq_of_lt (show sum < 256 by omega), sAx (i := j) rfl (by omega), H1.load (k := 1) rfl (cellsK_get hxj), sSub_u8 hle (by omega), sAx (i := j) rfl (by omega)]
  refine H1.store (k := 0) rfl (by rw [cellsK_length (by omega)]; omega) rfl fun h2 H2 => ?_
  refine hR (m - (j + 1)) _ _ _ _ _ _ (by omega) ⟨j + 1, by congr 1, rfl, by omega, ?_, H2.cast ?_⟩
  · rw [List.take_add_one, hxj, List.all_append, hall]
    simp [hle]
  · rw [List.set_cons_zero, cellsK_set (by omega), List.take_add_one, hxj]
    congr 3
    rw [List.set_append_right _ _ (by simp; omega)]
    have e : m - j = (m - (j + 1)) + 1 := by omega
    have e2 : j - ((x.take j).map fun v => sum - v).length = 0 := by simp; omega
    rw [e, e2, List.replicate_succ, List.set_cons_zero]
    simp only [Option.toList_some, List.map_append, List.map_cons, List.map_nil, List.append_assoc, List.cons_append, List.nil_append]
theorem sum_len {α : Type} {f : α → Nat} {M : Nat} : ∀ (l : List α), (∀ i ∈ l, f i ≤ M) → (l.map f).sum ≤ l.length * M
  | [], _ => by simp
  | a :: l, h => by
    have h1 := h a (by simp)
    have h2 := sum_len l fun i hi => h i (by simp [hi])
    rw [List.map_cons, List.sum_cons, List.length_cons, Nat.add_mul]; omega
abbrev termB (ks GL GR : List Key) (sum i : Nat) : Nat := GL.count (ks.getD i []) * fB sum GR (ks.getD i [])
theorem F31.meet {N : Nat} {K0 : Kw Prop} {K : Ks Prop} {h0 h : T Blk} {nx : Pa} {L : List Ob} {x0 x1 x4 x5 x6 x7 x10 x11 x12 x13 x14 x15 x16 x18 x19 x20 x21 x22 : AV} {it lid rid bx : Pa} {lines : List (List Int)} {ksL GL ksR GR : List Key} {sum cells : Nat} {s : Int} (hN : 100000000 < N) (hm : lines.length ≤ 128) (hs : lines.length = 0 ∨ (s = sum ∧ sum ≤ 255)) (OL : KsOk lines.length ksL GL) (OR : KsOk lines.length ksR GR) (hL : GL.length ≤ 1000000) (hR0 : GR.length ≤ 1000000) (hkl : ksL.length ≤ 1000000) (hlt : ∀ y ∈ GL, ∀ v ∈ y, v < 256)
    (H : Hp h0 h nx (.iter it lid (ksL.map (entK (cntV GL))).length [] (ksL.map (entK (cntV GL))).length :: .map lid (ksL.map (entK (cntV GL))) :: .map rid (ksR.map (entK (cntV GR))) :: .arr bx [I cells, encT lines] :: L))
    (hK : ∀ x10 x11 x12 x13 x18 x19 x20 x21 x22 h' nx' L', Hp h0 h' nx' L' → K (F31.fr x0 x1 (I s) (.ptr bx 0) x4 x5 x6 x7 (.map rid) (I ((GL.map (fB sum GR)).sum : Nat)) x10 x11 x12 x13 x14 x15 x16 (.ptr it 0) x18 x19 x20 x21 x22) h' nx' = .ok True) :
    IR.run F31.b4 (CS Tryz.prog B) N (fnO F31.res K0) K (F31.fr x0 x1 (I s) (.ptr bx 0) x4 x5 x6 x7 (.map rid) (I 0) x10 x11 x12 x13 x14 x15 x16 (.ptr it 0) x18 x19 x20 x21 x22) h nx = .ok True := by
  refine F31.L4 (fun m' x9 h' nx' => ∃ (seen : List Nat), x9 = I ((seen.map (termB ksL GL GR sum)).sum : Nat) ∧ (leftA ksL.length seen).length = m' ∧ seen.length + m' = ksL.length ∧ seen.Nodup ∧ (∀ i ∈ seen, i < ksL.length) ∧
    Hp h0 h' nx' (.iter it lid (ksL.map (entK (cntV GL))).length seen (ksL.map (entK (cntV GL))).length :: .map lid (ksL.map (entK (cntV GL))) :: .map rid (ksR.map (entK (cntV GR))) :: .arr bx [I cells, encT lines] :: L)) (m := ksL.length) (by omega) ⟨[], rfl, by (have e : leftA ksL.length [] = List.range ksL.length := List.filter_eq_self.2 (by simp)); rw [e]; simp, by simp, by simp, by simp, H⟩ ?_
  rintro m' z9 z10 z11 z12 z13 z18 z19 z20 z21 z22 h1 nx1 R ⟨seen, rfl, rfl, hsl, hnd, hse, H1⟩ hR
  refine H1.next (k := 0) (j := 1) rfl rfl (fun hall => ?_) fun i a b h2 hi hns hab H2 => ?_
  · simp (disch := omega) only [sAdd, sSub, sMul, sEql, sNeq, sLss, sLeq, sGtr, sGeq, sPick_t, sPick_f, sCond_t, sCond_f, sG_tt, sG_ff, sG_tf, sG_ft, sNot_b, sExt0, sExt1, sExt2, sPart0, sPart1, sPart2, sLen_lst, sLen_sl, sLen_nils, sSame_refl, decide_true, decide_false, Bool.not_true, Bool.not_false, sChk_t]
    have hsp := seen_perm hnd hse fun i hi => hall i (by simpa using hi)
    have e : (seen.map (termB ksL GL GR sum)).sum = (GL.map (fB sum GR)).sum := by
      rw [sum_perm _ hsp, ← sum_keys OL]
      have : ksL = (List.range ksL.length).map fun i => ksL.getD i [] := rowL_self ksL []
      conv => rhs; rw [this]
      rw [List.map_map]
      rfl
    rw [e]
    exact hK _ _ _ _ _ _ _ _ _ _ _ _ H1
  · have hi' : i < ksL.length := by simpa using hi
    obtain ⟨x, hx⟩ : ∃ x, ksL[i]? = some x := ⟨_, List.getElem?_eq_getElem hi'⟩
    have hxm := List.mem_of_getElem? hx
    rw [List.getElem?_map, hx] at hab
    obtain ⟨rfl, rfl⟩ : encK x = a ∧ cntV GL x = b := by simpa [entK] using hab
    have hgx : ksL.getD i [] = x := by rw [List.getD_eq_getElem?_getD, hx]; rfl
    have hxl := OL.klen x hxm
    have hcx2 : GL.count x ≤ GL.length := List.count_le_length
    simp (disch := omega) only [sAdd, sSub, sMul, sEql, sNeq, sLss, sLeq, sGtr, sGeq, sPick_t, sPick_f, sCond_t, sCond_f, sG_tt, sG_ff, sG_tf, sG_ft, sNot_b, sExt0, sExt1, sExt2, sPart0, sPart1, sPart2, sLen_lst, sLen_sl, sLen_nils, sSame_refl, decide_true, decide_false, Bool.not_true, Bool.not_false, sChk_t]
    have hent : (ksL.map (entK (cntV GL)))[i]? = some (encK x, cntV GL x) := by rw [List.getElem?_map, hx]; rfl
    rw [H2.entry (k := 0) (j := 1) rfl rfl hent]
    simp (disch := omega) only [sAdd, sSub, sMul, sEql, sNeq, sLss, sLeq, sGtr, sGeq, sPick_t, sPick_f, sCond_t, sCond_f, sG_tt, sG_ff, sG_tf, sG_ft, sNot_b, sExt0, sExt1, sExt2, sPart0, sPart1, sPart2, sLen_lst, sLen_sl, sLen_nils, sSame_refl, decide_true, decide_false, Bool.not_true, Bool.not_false, sChk_t]
    refine H2.alloc fun xb h3 nx3 H3 => ?_
    refine H3.storeN (k := 0) rfl rfl (cellsK_length (by omega)) fun h4 H4 => ?_
    refine H4.alloc fun rb h5 nx5 H5 => ?_
    rw [sFx, H5.load (k := 5) (i := 0 + 1) rfl rfl]
    simp (disch := omega) only [sAdd, sSub, sMul, sEql, sNeq, sLss, sLeq, sGtr, sGeq, sPick_t, sPick_f, sCond_t, sCond_f, sG_tt, sG_ff, sG_tf, sG_ft, sNot_b, sExt0, sExt1, sExt2, sPart0, sPart1, sPart2, sLen_lst, sLen_sl, sLen_nils, sSame_refl, decide_true, decide_false, Bool.not_true, Bool.not_false, sChk_t]
    have hst := leftA_step hi' hns
    have hterm : termB ksL GL GR sum i = GL.count x * fB sum GR x := by rw [termB, hgx]
    have hb : ∀ j ∈ seen, termB ksL GL GR sum j ≤ 1000000 * 1000000 := fun j _ => Nat.mul_le_mul (Nat.le_trans List.count_le_length hL) (Nat.le_trans fB_le hR0)
    have hfl := sum_len seen hb
    have hsl2 : seen.length * (1000000 * 1000000) ≤ 1000000 * (1000000 * 1000000) := Nat.mul_le_mul_right _ (by omega)
    have hres : ∀ (v : Nat) (hv : v = termB ksL GL GR sum i) (h' : T Blk) (w10 w11 w12 w13 w18 w19 w20 w21 w22 : AV) (nx' : Pa), Hp h0 h' nx' (.iter it lid (ksL.map (entK (cntV GL))).length (i :: seen) (ksL.map (entK (cntV GL))).length :: .map lid (ksL.map (entK (cntV GL))) :: .map rid (ksR.map (entK (cntV GR))) :: .arr bx [I cells, encT lines] :: L) →
        R (F31.fr x0 x1 (I s) (.ptr bx 0) x4 x5 x6 x7 (.map rid) (I (((seen.map (termB ksL GL GR sum)).sum : Nat) + (v : Int))) w10 w11 w12 w13 x14 x15 x16 (.ptr it 0) w18 w19 w20 w21 w22) h' nx' = .ok True := by
      rintro v rfl h' w10 w11 w12 w13 w18 w19 w20 w21 w22 nx' H'
      refine hR _ _ _ _ _ _ _ _ _ _ _ _ _ (by omega) ⟨i :: seen, ?_, rfl, by simp; omega, List.nodup_cons.2 ⟨hns, hnd⟩, fun j hj => ?_, H'⟩
      · congr 1
        rw [List.map_cons, List.sum_cons]; omega
      · rcases List.mem_cons.1 hj with rfl | q
        · exact hi'
        · exact hse j q
    have H6 : Hp h0 h5 nx5 (.arr rb (cellsK (List.replicate lines.length 0)) :: .arr xb (cellsK x) :: .iter it lid (ksL.map (entK (cntV GL))).length (i :: seen) (ksL.map (entK (cntV GL))).length :: .map lid (ksL.map (entK (cntV GL))) :: .map rid (ksR.map (entK (cntV GR))) :: .arr bx [I cells, encT lines] :: L) := H5.cast (by rw [cellsK_zero hm]; rfl)
    have hcm : ((GL.count x : Int) * ((fB sum GR x : Nat) : Int)) = ((termB ksL GL GR sum i : Nat) : Int) := by rw [hterm, Int.natCast_mul]
    have htl : termB ksL GL GR sum i ≤ 1000000 * 1000000 := by
      rw [hterm]; exact Nat.mul_le_mul (by omega) (Nat.le_trans fB_le hR0)
    refine F31.rest (m := lines.length) (x := x) (sum := sum) (by omega) hm hxl (hlt x ((OL.mem x).1 hxm)) hs H6 (fun y13 y20 y21 y22 h7 nx7 hall H7 => ?_) fun y13 y20 y21 y22 h7 nx7 hall H7 => ?_
    · have := hres 0 (by rw [hterm, fB, if_neg hall]; simp) h7 (.ptr xb 0) (cntV GL x) (.ptr rb 0) y13 (.bool true) (I lines.length) y20 y21 y22 nx7 H7
      simpa using this
    · rw [F31.k17]
      have hrl : (x.map fun v => sum - v).length = lines.length := by rw [List.length_map]; exact hxl
      rw [H7.loadN (k := 0) rfl (cellsK_length (by omega))]
      have hlk := fun op => sLook_map (op := op) hm H7 (k := 4) (id := rid) rfl OR hrl
      refine Eq.trans (b := sLook (.agg 128) (I 0) false (.map rid) (encK (x.map fun v => sum - v)) h7 _) rfl ?_
      rw [hlk]
      have hf : fB sum GR x = GR.count (x.map fun v => sum - v) := by rw [fB, if_pos hall]
      rw [cntV, cntV, ← hf, sMul (by omega), hcm, sAdd (by omega)]
      exact hres _ rfl h7 _ _ _ _ _ _ _ _ _ nx7 H7.drop.drop
end Go.Ev
namespace Go.Ev
open Go Go.Proofs
variable {B : Nat}
theorem half_q (n : Nat) : ((n : Int)).tdiv 2 = ((n / 2 : Nat) : Int) := by
  rw [Int.tdiv_eq_ediv_of_nonneg (by omega)]; omega
theorem sQuo2 {n : Nat} {K : AV → OP} (h : n ≤ 1000000) : sBin .quo .int (I (n : Int)) (I 2) K = K (I ((n / 2 : Nat) : Int)) := by
  have e : sBin .quo .int (I (n : Int)) (I 2) K = (bif ieq (2 : Int) 0 then Out.no 5 else intK (IntKind.wrap .i64 ((n : Int).tdiv 2)) fun z => K (.int .i64 z)) := rfl
  rw [e, show ieq (2 : Int) 0 = false from rfl, cond_false, intK_eq, half_q, wrap64_in (by omega)]
theorem sG_undef (b : Bool) (op : (AV → OP) → OP) (K : AV → OP) : sG .undef b op K = K .undef := nr rfl
theorem bounded31 {lines : List (List Int)} {cells most : Nat} {s : Int} (hm : lines.length ≤ 128) (hw : ∀ l ∈ lines, l.length ≤ 1000) (hl : ∀ l ∈ lines, ∀ c ∈ l, 0 ≤ c ∧ c < (cells : Int)) (hcl : cells ≤ 16) (hmost : most ≤ 9) (hpow : (most + 1) ^ (cells - cells / 2) ≤ 1000000)
    (h87 : Pure Tryz.prog B 87 [.agg [I cells, encT lines], I most] (· = I 0)) (h88 : Pure Tryz.prog B 88 [I ((cells - cells / 2 : Nat) : Int), I most] (· = .bool false)) :
    Pure Tryz.prog B 31 [.agg [I cells, encT lines], I most, I s] (· = .tup [I (if 0 < lines.length ∧ (s < 0 ∨ 255 < s) then 0 else (bsum lines most s.toNat (cells / 2) cells : Nat)), I 0]) := by
  refine pure_hp fun h nx K H0 hK => by_body tbl_ok dreg 1000000000 fun hf => ?_
  rw [F31.go]
  refine H0.box (l := [I cells, encT lines]) rfl fun bx h1 nx1 H1 => ?_
  rw [H1.loadN (k := 0) (n := 2) rfl rfl]
  refine h87 _ _ _ _ ?_
  rintro _ rfl _
  simp (disch := omega) only [sAdd, sSub, sMul, sEql, sNeq, sLss, sLeq, sGtr, sGeq, sPick_t, sPick_f, sCond_t, sCond_f, sG_tt, sG_ff, sG_tf, sG_ft, sNot_b, sExt0, sExt1, sExt2, sPart0, sPart1, sPart2, sLen_lst, sLen_sl, sLen_nils, sSame_refl, decide_true, decide_false, Bool.not_true, Bool.not_false, sChk_t]
  rw [sFx, H1.load (k := 0) (i := 0) rfl rfl, sQuo2 (by omega), sFx, H1.load (k := 0) (i := 0) rfl rfl, sSub (by omega), show (cells : Int) - ((cells / 2 : Nat) : Int) = ((cells - cells / 2 : Nat) : Int) by omega]
  refine h88 _ _ _ _ ?_
  rintro _ rfl _
  rw [sCond_f, sFx, H1.load (k := 0) (i := 0 + 1) rfl rfl]
  simp (disch := omega) only [sAdd, sSub, sMul, sEql, sNeq, sLss, sLeq, sGtr, sGeq, sPick_t, sPick_f, sCond_t, sCond_f, sG_tt, sG_ff, sG_tf, sG_ft, sNot_b, sExt0, sExt1, sExt2, sPart0, sPart1, sPart2, sLen_lst, sLen_sl, sLen_nils, sSame_refl, decide_true, decide_false, Bool.not_true, Bool.not_false, sChk_t]
  have ret : ∀ v : Int, v = (if 0 < lines.length ∧ (s < 0 ∨ 255 < s) then (0 : Int) else ((bsum lines most s.toNat (cells / 2) cells : Nat) : Int)) → ∀ h' nx' L, Hp h h' nx' L → K (.tup [I v, I 0]) h' nx' = .ok True := fun v hv h' nx' L H => by
    rw [hv]; exact hK _ _ _ L _ H (frz_tup2 (frz_fixd rfl) (frz_fixd rfl)) rfl
  by_cases hz : 0 < lines.length ∧ (s < 0 ∨ 255 < s)
  · rw [if_pos hz] at ret
    simp only [show (0 : Int) < (lines.length : Int) by omega, decide_true, sG_tt]
    by_cases hs0 : s < 0
    · simp only [sLss, hs0, decide_true, sG_tf, sPick_t, sCond_t]
      exact ret 0 rfl _ _ _ H1
    · simp only [sLss, sGtr, hs0, show (255 : Int) < s by omega, decide_true, decide_false, sG_ff, sPick_t, sPick_f, sCond_t]
      exact ret 0 rfl _ _ _ H1
  rw [if_neg hz] at ret
  have fin : ∀ z5 z6 z14 z15 z16, IR.run F31.b3 (CS Tryz.prog B) 1000000000 (fnO F31.res K) (retK F31.res K) (F31.fr (.agg [I cells, encT lines]) (I most) (I s) (.ptr bx 0) (I 0) z5 z6 (I ((cells / 2 : Nat) : Int)) .undef .undef .undef .undef .undef .undef z14 z15 z16 .undef .undef .undef .undef .undef .undef) h1 nx1 = .ok True := by
    intro z5 z6 z14 z15 z16
    rw [F31.k3, H1.loadN (k := 0) (n := 2) rfl rfl, sFx, H1.load (k := 0) (i := 0) rfl rfl]
    refine tally89 (cells := cells) hm hw hl (by omega) (by omega) (Nat.le_refl _) (by omega) hpow H1 fun h2 nx2 rid ksR GR OR hpR H2 => ?_
    rw [H2.loadN (k := 1) (n := 2) rfl rfl]
    refine tally89 (fr := 0) (cells := cells) hm hw hl (by omega) (by omega) (by omega) (by omega) (by rw [Nat.sub_zero]; exact Nat.le_trans (Nat.pow_le_pow_right (by omega) (by omega)) hpow) H2 fun h3 nx3 lid ksL GL OL hpL H3 => ?_
    rw [Nat.sub_zero] at hpL
    refine H3.range (k := 0) rfl fun it h4 nx4 H4 => ?_
    have hLl : GL.length ≤ 1000000 := by
      rw [hpL.length_eq, tallyT_length]
      exact Nat.le_trans (Nat.pow_le_pow_right (by omega) (by omega)) hpow
    have hRl : GR.length ≤ 1000000 := by rw [hpR.length_eq, tallyT_length]; exact hpow
    have hkl : ksL.length ≤ GL.length := by
      have h1 := (perm_self ksL GL OL.nd OL.mem).length_eq
      rw [← h1, List.length_flatMap]
      have : ∀ l : List Key, (∀ y ∈ l, y ∈ GL) → l.length ≤ (l.map fun x => (List.replicate (GL.count x) x).length).sum := by
        intro l
        induction l with
        | nil => simp
        | cons a l ih =>
          intro h
          have h2 := ih fun y hy => h y (by simp [hy])
          have h3 : 1 ≤ GL.count a := List.count_pos_iff.2 (h a (by simp))
          simp only [List.map_cons, List.sum_cons, List.length_cons, List.length_replicate] at h2 ⊢
          omega
      exact this ksL fun y hy => (OL.mem y).1 hy
    refine F31.meet (sum := s.toNat) (cells := cells) (by decide) hm (by omega) OL OR hLl hRl (by omega) (fun y hy => tallyT_lt _ _ _ _ y (hpL.mem_iff.1 hy)) H4 fun w10 w11 w12 w13 w18 w19 w20 w21 w22 h5 nx5 L5 H5 => ?_
    rw [F31.k18]
    refine ret _ ?_ _ _ _ H5
    rw [sum_perm _ hpL, fB_perm hpR]; rfl
  by_cases hl0 : 0 < lines.length
  · simp only [show (0 : Int) < (lines.length : Int) by omega, decide_true, sG_tt, sLss, sGtr, show ¬ s < 0 by omega, show ¬ (255 : Int) < s by omega, decide_false, sG_ff, sPick_t, sPick_f, sCond_f]
    exact fin _ _ _ _ _
  · simp only [show ¬ (0 : Int) < (lines.length : Int) by omega, decide_false, sG_ft, sG_undef, sPick_f, sCond_f]
    exact fin _ _ _ _ _
end Go.Ev
namespace Go.Ev
open Go Go.Proofs
variable {B : Nat}
theorem when123 (b : Bool) (e : Int) : Pure Tryz.prog B 123 [.bool b, I e] (· = I (if b then e else 0)) := by
  intro p h nx K hK
  refine by_body tbl_ok dreg 9 fun hf => ?_
  rw [F123.go]
  cases b <;> simp (disch := omega) only [sAdd, sSub, sMul, sEql, sNeq, sLss, sLeq, sGtr, sGeq, sPick_t, sPick_f, sCond_t, sCond_f, sG_tt, sG_ff, sG_tf, sG_ft, sNot_b, sExt0, sExt1, sExt2, sPart0, sPart1, sPart2, sLen_lst, sLen_sl, sLen_nils, sSame_refl, decide_true, decide_false, Bool.not_true, Bool.not_false, sChk_t] <;> exact hK _ rfl hf
def firstE : List Int → Int
  | [] => 0
  | e :: l => if e ≠ 0 then e else firstE l
theorem firstE_skip : ∀ (l : List Int) (i : Nat), (∀ e ∈ l.take i, e = 0) → firstE l = firstE (l.drop i)
  | l, 0, _ => rfl
  | [], _ + 1, _ => rfl
  | e :: l, i + 1, h => by
    have h0 : e = 0 := h e (by simp)
    rw [firstE, if_neg (by simp [h0]), List.drop_succ_cons]
    exact firstE_skip l i fun x hx => h x (by simp [hx])
theorem first121 {l : List Int} (hl : l.length ≤ 1000000) : Pure Tryz.prog B 121 [encI l] (· = I (firstE l)) := by
  intro p h nx K hK
  refine by_body tbl_ok dreg 10000000 fun hf => ?_
  rw [F121.go]
  simp (disch := omega) only [sAdd, sSub, sMul, sEql, sNeq, sLss, sLeq, sGtr, sGeq, sPick_t, sPick_f, sCond_t, sCond_f, sG_tt, sG_ff, sG_tf, sG_ft, sNot_b, sExt0, sExt1, sExt2, sPart0, sPart1, sPart2, sLen_lst, sLen_sl, sLen_nils, sSame_refl, decide_true, decide_false, Bool.not_true, Bool.not_false, sChk_t]
  refine F121.L1 (fun m z5 h' nx' => ∃ i : Nat, z5 = I i ∧ l.length - i = m ∧ i ≤ l.length ∧ h' = h ∧ nx' = nx ∧ ∀ e ∈ l.take i, e = 0) (m := l.length) (by omega) ⟨0, rfl, rfl, by omega, rfl, rfl, by simp⟩ ?_
  rintro m z1 z2 z5 z6 z7 _ _ R ⟨i, rfl, rfl, hi, rfl, rfl, htk⟩ hR
  simp (disch := omega) only [sAdd, sSub, sMul, sEql, sNeq, sLss, sLeq, sGtr, sGeq, sPick_t, sPick_f, sCond_t, sCond_f, sG_tt, sG_ff, sG_tf, sG_ft, sNot_b, sExt0, sExt1, sExt2, sPart0, sPart1, sPart2, sLen_lst, sLen_sl, sLen_nils, sSame_refl, decide_true, decide_false, Bool.not_true, Bool.not_false, sChk_t]
  by_cases hlt : i < l.length
  · simp only [show (i : Int) < (l.length : Int) by omega, decide_true, sCond_t]
    have hx : l[i]? = some l[i] := List.getElem?_eq_getElem hlt
    rw [sIxL rfl hlt, ldL (getI hx)]
    simp (disch := omega) only [sAdd, sSub, sMul, sEql, sNeq, sLss, sLeq, sGtr, sGeq, sPick_t, sPick_f, sCond_t, sCond_f, sG_tt, sG_ff, sG_tf, sG_ft, sNot_b, sExt0, sExt1, sExt2, sPart0, sPart1, sPart2, sLen_lst, sLen_sl, sLen_nils, sSame_refl, decide_true, decide_false, Bool.not_true, Bool.not_false, sChk_t]
    have hd : l.drop i = l[i] :: l.drop (i + 1) := List.drop_eq_getElem_cons hlt
    by_cases h0 : l[i] = 0
    · simp only [h0, decide_true, Bool.not_true, sCond_f]
      refine hR _ _ _ _ _ _ _ _ (by omega) ⟨i + 1, rfl, rfl, by omega, rfl, rfl, fun e he => ?_⟩
      rw [List.take_add_one, hx] at he
      rcases List.mem_append.1 he with q | q
      · exact htk e q
      · simp at q; rw [q]; exact h0
    · simp only [h0, decide_false, Bool.not_false, sCond_t]
      refine hK _ ?_ hf
      rw [firstE_skip l i htk, hd, firstE, if_pos h0]
  · simp only [show ¬ (i : Int) < (l.length : Int) by omega, decide_false, sCond_f]
    rw [F121.k8]
    refine hK _ ?_ hf
    rw [firstE_skip l i htk, List.drop_of_length_le (by omega)]; rfl
theorem equal150 {a b : List Int} (ha : a.length ≤ 1000000000) : Pure Tryz.prog B 150 [encI a, encI b] (· = .bool (decide (a = b))) := by
  intro p h nx K hK
  refine by_body tbl_ok dreg (a.length + 2) fun hf => ?_
  rw [F150.go]
  simp (disch := omega) only [sAdd, sSub, sMul, sEql, sNeq, sLss, sLeq, sGtr, sGeq, sPick_t, sPick_f, sCond_t, sCond_f, sG_tt, sG_ff, sG_tf, sG_ft, sNot_b, sExt0, sExt1, sExt2, sPart0, sPart1, sPart2, sLen_lst, sLen_sl, sLen_nils, sSame_refl, decide_true, decide_false, Bool.not_true, Bool.not_false, sChk_t]
  by_cases hl : a.length = b.length
  · simp only [hl, decide_true, Bool.not_true, sCond_f]
    refine F150.L2 (fun m z6 h' nx' => ∃ i : Nat, z6 = I i ∧ a.length - i = m ∧ i ≤ a.length ∧ h' = h ∧ nx' = nx ∧ a.take i = b.take i) (m := a.length) (by omega) ⟨0, rfl, by simp, by omega, rfl, rfl, by simp⟩ ?_
    rintro m z2 z3 z6 z7 z8 _ _ R ⟨i, rfl, rfl, hi, rfl, rfl, htk⟩ hR
    simp (disch := omega) only [sAdd, sSub, sMul, sEql, sNeq, sLss, sLeq, sGtr, sGeq, sPick_t, sPick_f, sCond_t, sCond_f, sG_tt, sG_ff, sG_tf, sG_ft, sNot_b, sExt0, sExt1, sExt2, sPart0, sPart1, sPart2, sLen_lst, sLen_sl, sLen_nils, sSame_refl, decide_true, decide_false, Bool.not_true, Bool.not_false, sChk_t]
    by_cases hlt : i < a.length
    · have hb : i < b.length := by omega
      simp only [show (i : Int) < (b.length : Int) by omega, decide_true, sCond_t]
      rw [sIxL rfl hlt, ldL (getI (List.getElem?_eq_getElem hlt)), sIxL rfl hb, ldL (getI (List.getElem?_eq_getElem hb))]
      simp (disch := omega) only [sAdd, sSub, sMul, sEql, sNeq, sLss, sLeq, sGtr, sGeq, sPick_t, sPick_f, sCond_t, sCond_f, sG_tt, sG_ff, sG_tf, sG_ft, sNot_b, sExt0, sExt1, sExt2, sPart0, sPart1, sPart2, sLen_lst, sLen_sl, sLen_nils, sSame_refl, decide_true, decide_false, Bool.not_true, Bool.not_false, sChk_t]
      by_cases he : a[i] = b[i]
      · simp only [he, decide_true, Bool.not_true, sCond_f]
        refine hR (a.length - (i + 1)) _ _ _ _ _ _ _ (by omega) ⟨i + 1, rfl, rfl, by omega, rfl, rfl, ?_⟩
        rw [List.take_add_one, List.take_add_one, htk, List.getElem?_eq_getElem hlt, List.getElem?_eq_getElem hb, he]
      · simp only [he, decide_false, Bool.not_false, sCond_t]
        refine hK _ ?_ hf
        rw [decide_eq_false]
        rintro rfl
        exact he rfl
    · simp only [show ¬ (i : Int) < (b.length : Int) by omega, decide_false, sCond_f]
      rw [F150.k9]
      refine hK _ ?_ hf
      rw [List.take_of_length_le (by omega), List.take_of_length_le (by omega)] at htk
      rw [decide_eq_true htk]
  · have h1 : ¬ (a.length : Int) = b.length := by omega
    simp only [h1, decide_false, Bool.not_false, sCond_t]
    refine hK _ ?_ hf
    rw [decide_eq_false]
    rintro rfl; exact hl rfl
theorem contains148 {h0 h : T Blk} {nx : Pa} {L : List Ob} {k : Nat} {x p : Pa} {l : List Int} {prev : List (List Int)} {K : Kw Prop} (H : Hp h0 h nx L) (hk : L[k]? = some (.arr x [encI l])) (hp : prev.length ≤ 1000000) (hw : ∀ q ∈ prev, q.length ≤ 1000000)
    (hK : K (.bool (decide (l ∈ prev))) h nx = .ok True) : (CS Tryz.prog B).fn 148 p [encT prev, .fn 149 (.of 149) [.ptr x 0]] h nx K = .ok True := by
  refine CS_fn_mono (p := .of 148) (K := K) (by_body tbl_ok dreg 9 fun hf => ?_) fun _ _ _ _ q => q
  rw [F148.go]
  refine CS_fn_mono (p := .of 172) (K := fun v1 h2 n3 => sBin .geq .int v1 (I 0) fun v4 => K v4 h2 n3) (by_body tbl_ok dreg 10000000 fun hf => ?_) fun _ _ _ _ q => q
  rw [F172.go]
  simp (disch := omega) only [sAdd, sSub, sMul, sEql, sNeq, sLss, sLeq, sGtr, sGeq, sPick_t, sPick_f, sCond_t, sCond_f, sG_tt, sG_ff, sG_tf, sG_ft, sNot_b, sExt0, sExt1, sExt2, sPart0, sPart1, sPart2, sLen_lst, sLen_sl, sLen_nils, sSame_refl, decide_true, decide_false, Bool.not_true, Bool.not_false, sChk_t]
  refine F172.L1 (fun m z5 h' nx' => ∃ i : Nat, z5 = I i ∧ prev.length - i = m ∧ i ≤ prev.length ∧ h' = h ∧ nx' = nx ∧ l ∉ prev.take i) (m := prev.length) (by omega) ⟨0, rfl, rfl, by omega, rfl, rfl, by simp⟩ ?_
  rintro m z2 z3 z5 z6 z7 _ _ R ⟨i, rfl, rfl, hi, rfl, rfl, htk⟩ hR
  simp (disch := omega) only [sAdd, sSub, sMul, sEql, sNeq, sLss, sLeq, sGtr, sGeq, sPick_t, sPick_f, sCond_t, sCond_f, sG_tt, sG_ff, sG_tf, sG_ft, sNot_b, sExt0, sExt1, sExt2, sPart0, sPart1, sPart2, sLen_lst, sLen_sl, sLen_nils, sSame_refl, decide_true, decide_false, Bool.not_true, Bool.not_false, sChk_t]
  by_cases hlt : i < prev.length
  · simp only [show (i : Int) < (prev.length : Int) by omega, decide_true, sCond_t]
    have hx : prev[i]? = some prev[i] := List.getElem?_eq_getElem hlt
    rw [sIxL rfl hlt, ldL (getT hx), sCall_fn]
    refine CS_fn_mono (p := .of 149) (by_body tbl_ok dreg 9 fun hf => ?_) fun _ _ _ _ q => q
    show callFn tbl 9 _ (Pa.of 149) [encI prev[i], .ptr x 0] _ _ _ = _
    rw [F149.go, H.load (k := k) (i := 0) hk rfl]
    refine equal150 (Nat.le_trans (hw _ (List.getElem_mem hlt)) (by omega)) _ _ _ _ ?_
    rintro _ rfl _
    by_cases he : prev[i] = l
    · simp only [he, decide_true, sCond_t, sGeq, show (0 : Int) ≤ (i : Int) by omega]
      rw [decide_eq_true (he ▸ List.getElem_mem hlt)] at hK
      exact hK
    · simp only [he, decide_false, sCond_f]
      refine hR _ _ _ _ _ _ _ _ (by omega) ⟨i + 1, rfl, rfl, by omega, rfl, rfl, fun q => ?_⟩
      rw [List.take_add_one, hx] at q
      rcases List.mem_append.1 q with q | q
      · exact htk q
      · simp at q; exact he q.symm
  · simp only [show ¬ (i : Int) < (prev.length : Int) by omega, decide_false, sCond_f]
    rw [F172.k8]
    rw [List.take_of_length_le (by omega)] at htk
    rw [decide_eq_false htk] at hK
    simp only [sGeq, show ¬ (0 : Int) ≤ -1 by omega, decide_false]
    exact hK
end Go.Ev
namespace Go.Ev
open Go Go.Proofs
variable {B : Nat}
def cellsErr (cells : Int) : Option Int → List Int → Int
  | _, [] => 0
  | p, c :: l => if c < 0 ∨ cells ≤ c then 10 else if p.any (fun q => decide (c ≤ q)) then 11 else cellsErr cells (some c) l
def lineErr (cells : Int) (prev : List (List Int)) (l : List Int) : Int := if l = [] then 12 else if cellsErr cells none l ≠ 0 then cellsErr cells none l else if l ∈ prev then 9 else 0
def linesErr (cells : Int) : List (List Int) → List (List Int) → Int
  | _, [] => 0
  | prev, l :: r => if lineErr cells prev l ≠ 0 then lineErr cells prev l else linesErr cells (prev ++ [l]) r
def sysErr (cells : Int) (lines : List (List Int)) : Int := if cells < 1 ∨ 256 < cells then 3 else if 128 < lines.length then 5 else linesErr cells [] lines
def pv (l : List Int) (k : Nat) : Option Int := if k = 0 then none else l[k - 1]?
theorem pv_succ {l : List Int} {k : Nat} (h : k < l.length) : pv l (k + 1) = some l[k] := by simp [pv, h]
theorem short25 {cells a b : Int} {lines : List (List Int)} (hb : b ≤ 1000000) : Pure Tryz.prog B 25 [.agg [I cells, encT lines], I a, I b] (· = .bool (decide ((lines.length : Int) ≤ b ∧ ∀ l ∈ lines, (l.length : Int) ≤ a))) := by
  refine pure_hp fun h nx K H0 hK => by_body tbl_ok dreg 10000000 fun hf => ?_
  rw [F25.go]
  refine H0.box (l := [I cells, encT lines]) rfl fun bx h1 nx1 H1 => ?_
  rw [sFx, H1.load (k := 0) (i := 0 + 1) rfl rfl]
  simp (disch := omega) only [sAdd, sSub, sMul, sEql, sNeq, sLss, sLeq, sGtr, sGeq, sPick_t, sPick_f, sCond_t, sCond_f, sG_tt, sG_ff, sG_tf, sG_ft, sNot_b, sExt0, sExt1, sExt2, sPart0, sPart1, sPart2, sLen_lst, sLen_sl, sLen_nils, sSame_refl, decide_true, decide_false, Bool.not_true, Bool.not_false, sChk_t]
  have ret : ∀ v : Bool, v = decide ((lines.length : Int) ≤ b ∧ ∀ l ∈ lines, (l.length : Int) ≤ a) → K (.bool v) h1 nx1 = .ok True := fun v hv => by rw [hv]; exact hK _ _ _ _ _ H1 (frz_fixd rfl) rfl
  by_cases hlen : b < (lines.length : Int)
  · simp only [hlen, decide_true, sCond_t]
    refine ret _ ?_
    rw [decide_eq_false]
    rintro ⟨q, _⟩; omega
  simp only [hlen, decide_false, sCond_f]
  refine F25.L2 (fun m z5 h' nx' => ∃ i : Nat, z5 = I i ∧ lines.length - i = m ∧ i ≤ lines.length ∧ h' = h1 ∧ nx' = nx1 ∧ ∀ l ∈ lines.take i, (l.length : Int) ≤ a) (m := lines.length) (by omega) ⟨0, rfl, rfl, by omega, rfl, rfl, by simp⟩ ?_
  rintro m z4 z5 z7 z8 _ _ R ⟨i, rfl, rfl, hi, rfl, rfl, htk⟩ hR
  rw [sFx, H1.load (k := 0) (i := 0 + 1) rfl rfl]
  simp (disch := omega) only [sAdd, sSub, sMul, sEql, sNeq, sLss, sLeq, sGtr, sGeq, sPick_t, sPick_f, sCond_t, sCond_f, sG_tt, sG_ff, sG_tf, sG_ft, sNot_b, sExt0, sExt1, sExt2, sPart0, sPart1, sPart2, sLen_lst, sLen_sl, sLen_nils, sSame_refl, decide_true, decide_false, Bool.not_true, Bool.not_false, sChk_t]
  by_cases hlt : i < lines.length
  · simp only [show (i : Int) < (lines.length : Int) by omega, decide_true, sCond_t]
    have hx : lines[i]? = some lines[i] := List.getElem?_eq_getElem hlt
    rw [sFx, H1.load (k := 0) (i := 0 + 1) rfl rfl, sIxL rfl hlt, ldL (getT hx)]
    simp (disch := omega) only [sAdd, sSub, sMul, sEql, sNeq, sLss, sLeq, sGtr, sGeq, sPick_t, sPick_f, sCond_t, sCond_f, sG_tt, sG_ff, sG_tf, sG_ft, sNot_b, sExt0, sExt1, sExt2, sPart0, sPart1, sPart2, sLen_lst, sLen_sl, sLen_nils, sSame_refl, decide_true, decide_false, Bool.not_true, Bool.not_false, sChk_t]
    by_cases hw : a < (lines[i].length : Int)
    · simp only [hw, decide_true, sCond_t]
      refine ret _ ?_
      rw [decide_eq_false]
      rintro ⟨_, q⟩
      have := q _ (List.getElem_mem hlt)
      omega
    · simp only [hw, decide_false, sCond_f]
      refine hR _ _ _ _ _ _ _ (by omega) ⟨i + 1, rfl, rfl, by omega, rfl, rfl, fun l hl => ?_⟩
      rw [List.take_add_one, hx] at hl
      rcases List.mem_append.1 hl with q | q
      · exact htk l q
      · simp at q; rw [q]; omega
  · simp only [show ¬ (i : Int) < (lines.length : Int) by omega, decide_false, sCond_f]
    rw [F25.k9]
    rw [List.take_of_length_le (by omega)] at htk
    refine ret _ ?_
    rw [decide_eq_true ⟨by omega, htk⟩]
theorem hasLine84 {prev : List (List Int)} {l : List Int} (hp : prev.length ≤ 1000000) (hw : ∀ q ∈ prev, q.length ≤ 1000000000) : Pure Tryz.prog B 84 [encT prev, encI l] (· = .bool (decide (l ∈ prev))) := by
  intro p h nx K hK
  refine by_body tbl_ok dreg 10000000 fun hf => ?_
  rw [F84.go]
  refine F84.L1 (fun m z3 h' nx' => ∃ i : Nat, z3 = I i ∧ prev.length - i = m ∧ i ≤ prev.length ∧ h' = h ∧ nx' = nx ∧ l ∉ prev.take i) (m := prev.length) (by omega) ⟨0, rfl, rfl, by omega, rfl, rfl, by simp⟩ ?_
  rintro m z2 z3 z4 z5 _ _ R ⟨i, rfl, rfl, hi, rfl, rfl, htk⟩ hR
  simp (disch := omega) only [sAdd, sSub, sMul, sEql, sNeq, sLss, sLeq, sGtr, sGeq, sPick_t, sPick_f, sCond_t, sCond_f, sG_tt, sG_ff, sG_tf, sG_ft, sNot_b, sExt0, sExt1, sExt2, sPart0, sPart1, sPart2, sLen_lst, sLen_sl, sLen_nils, sSame_refl, decide_true, decide_false, Bool.not_true, Bool.not_false, sChk_t]
  by_cases hlt : i < prev.length
  · simp only [show (i : Int) < (prev.length : Int) by omega, decide_true, sCond_t]
    have hx : prev[i]? = some prev[i] := List.getElem?_eq_getElem hlt
    rw [sIxL rfl hlt, ldL (getT hx)]
    refine sameInts35 (hw _ (List.getElem_mem hlt)) _ _ _ _ ?_
    rintro _ rfl _
    by_cases he : prev[i] = l
    · simp only [he, decide_true, sCond_t]
      refine hK _ ?_ hf
      rw [decide_eq_true (he ▸ List.getElem_mem hlt)]
    · simp only [he, decide_false, sCond_f]
      refine hR _ _ _ _ _ _ _ (by omega) ⟨i + 1, rfl, rfl, by omega, rfl, rfl, fun q => ?_⟩
      rw [List.take_add_one, hx] at q
      rcases List.mem_append.1 q with q | q
      · exact htk q
      · simp at q; exact he q.symm
  · simp only [show ¬ (i : Int) < (prev.length : Int) by omega, decide_false, sCond_f]
    rw [F84.k8]
    rw [List.take_of_length_le (by omega)] at htk
    refine hK _ ?_ hf
    rw [decide_eq_false htk]
end Go.Ev
namespace Go.Ev
open Go Go.Proofs
variable {B : Nat}
theorem sSliceF {n i : Nat} {l : List AV} {op : AV → OP} (hn : 1 ≤ n) (hi : i ≤ n) : sSlice 1 (.lst 1 n l) none (some (I (i : Int))) none op = op (.lst 1 i (l.take i)) := by
  show (bif Nat.beq 1 1 && Nat.ble 1 n then (match bnd (some (I (i : Int))) n n with | none => Out.no 17 | some h => match bnd none h 0 with | none => .no 17 | some q => op (.lst 1 (h - q) ((l.drop (q * 1)).take ((h - q) * 1)))) else .no 17) = _
  rw [Nat.ble_eq_true_of_le hn]
  have : bnd (some (I (i : Int))) n n = some i := by
    show (bif Nat.ble i n then some i else none) = _
    rw [Nat.ble_eq_true_of_le hi]; rfl
  rw [this]
  show op (.lst 1 (i - 0) ((l.drop (0 * 1)).take ((i - 0) * 1))) = _
  simp
theorem sysErr27 {cells : Int} {lines : List (List Int)} (hw : ∀ q ∈ lines, q.length ≤ 1000000) : Pure Tryz.prog B 27 [.agg [I cells, encT lines]] (· = I (sysErr cells lines)) := by
  refine pure_hp fun h nx K H0 hK => by_body tbl_ok dreg 10000000 fun hf => ?_
  rw [F27.go]
  refine H0.box (l := [I cells, encT lines]) rfl fun bx h1 nx1 H1 => ?_
  rw [sFx, H1.load (k := 0) (i := 0) rfl rfl]
  have ret : ∀ v : Int, v = sysErr cells lines → K (I v) h1 nx1 = .ok True := fun v hv => by rw [hv]; exact hK _ _ _ _ _ H1 (frz_fixd rfl) rfl
  by_cases hc : cells < 1 ∨ 256 < cells
  · have hv : (3 : Int) = sysErr cells lines := by rw [sysErr, if_pos hc]
    by_cases c1 : cells < 1
    · simp only [sLss, c1, decide_true, sG_tf, sPick_t, sCond_t]
      exact ret 3 hv
    · simp only [sLss, c1, decide_false, sG_ff]
      rw [sFx, H1.load (k := 0) (i := 0) rfl rfl]
      simp only [sGtr, show (256 : Int) < cells by omega, decide_true, sPick_f, sCond_t]
      exact ret 3 hv
  simp only [sLss, show ¬ cells < 1 by omega, decide_false, sG_ff]
  rw [sFx, H1.load (k := 0) (i := 0) rfl rfl]
  simp only [sGtr, show ¬ (256 : Int) < cells by omega, decide_false, sPick_f, sCond_f]
  rw [sFx, H1.load (k := 0) (i := 0 + 1) rfl rfl]
  simp (disch := omega) only [sAdd, sSub, sMul, sEql, sNeq, sLss, sLeq, sGtr, sGeq, sPick_t, sPick_f, sCond_t, sCond_f, sG_tt, sG_ff, sG_tf, sG_ft, sNot_b, sExt0, sExt1, sExt2, sPart0, sPart1, sPart2, sLen_lst, sLen_sl, sLen_nils, sSame_refl, decide_true, decide_false, Bool.not_true, Bool.not_false, sChk_t]
  by_cases hm : 128 < lines.length
  · simp only [show (128 : Int) < (lines.length : Int) by omega, decide_true, sCond_t]
    exact ret 5 (by rw [sysErr, if_neg hc, if_pos hm])
  simp only [show ¬ (128 : Int) < (lines.length : Int) by omega, decide_false, sCond_f]
  have hs : sysErr cells lines = linesErr cells [] lines := by rw [sysErr, if_neg hc, if_neg hm]
  refine F27.L3 (fun m z3 h' nx' => ∃ i : Nat, z3 = I i ∧ lines.length - i = m ∧ i ≤ lines.length ∧ h' = h1 ∧ nx' = nx1 ∧ sysErr cells lines = linesErr cells (lines.take i) (lines.drop i)) (m := lines.length) (by omega) ⟨0, rfl, rfl, by omega, rfl, rfl, by simpa using hs⟩ ?_
  rintro m z2 z3 z4 z5 z8 z9 z10 z11 z12 z13 h1 nx1 R ⟨i, rfl, rfl, hi, rfl, rfl, he⟩ hR
  rw [sFx, H1.load (k := 0) (i := 0 + 1) rfl rfl]
  simp (disch := omega) only [sAdd, sSub, sMul, sEql, sNeq, sLss, sLeq, sGtr, sGeq, sPick_t, sPick_f, sCond_t, sCond_f, sG_tt, sG_ff, sG_tf, sG_ft, sNot_b, sExt0, sExt1, sExt2, sPart0, sPart1, sPart2, sLen_lst, sLen_sl, sLen_nils, sSame_refl, decide_true, decide_false, Bool.not_true, Bool.not_false, sChk_t]
  by_cases hlt : i < lines.length
  case neg =>
    simp only [show ¬ (i : Int) < (lines.length : Int) by omega, decide_false, sCond_f]
    rw [F27.k20]
    exact ret 0 (by rw [he, List.drop_of_length_le (by omega)]; rfl)
  simp only [show (i : Int) < (lines.length : Int) by omega, decide_true, sCond_t]
  obtain ⟨l, hx⟩ : ∃ l, lines[i]? = some l := ⟨_, List.getElem?_eq_getElem hlt⟩
  have hmem := List.mem_of_getElem? hx
  have hd : lines.drop i = l :: lines.drop (i + 1) := by
    rw [List.drop_eq_getElem_cons hlt]
    rw [List.getElem?_eq_getElem hlt] at hx
    rw [Option.some.inj hx]
  have htake : lines.take (i + 1) = lines.take i ++ [l] := by rw [List.take_add_one, hx]; rfl
  rw [sFx, H1.load (k := 0) (i := 0 + 1) rfl rfl, sIxL rfl hlt, ldL (getT hx)]
  simp (disch := omega) only [sAdd, sSub, sMul, sEql, sNeq, sLss, sLeq, sGtr, sGeq, sPick_t, sPick_f, sCond_t, sCond_f, sG_tt, sG_ff, sG_tf, sG_ft, sNot_b, sExt0, sExt1, sExt2, sPart0, sPart1, sPart2, sLen_lst, sLen_sl, sLen_nils, sSame_refl, decide_true, decide_false, Bool.not_true, Bool.not_false, sChk_t]
  have hlw := hw l hmem
  have hline : lineErr cells (lines.take i) l ≠ 0 → sysErr cells lines = lineErr cells (lines.take i) l := fun h => by rw [he, hd, linesErr, if_pos h]
  by_cases h0 : l.length = 0
  · simp only [show (l.length : Int) = 0 by omega, decide_true, sCond_t]
    have hl0 : l = [] := List.eq_nil_of_length_eq_zero h0
    have e12 : lineErr cells (lines.take i) l = 12 := by rw [lineErr, if_pos hl0]
    exact ret 12 (by rw [hline (by rw [e12]; decide), e12])
  simp only [show ¬ (l.length : Int) = 0 by omega, decide_false, sCond_f]
  have hl0 : l ≠ [] := fun q => h0 (by rw [q]; rfl)
  have hcell : cellsErr cells none l ≠ 0 → sysErr cells lines = cellsErr cells none l := fun h => by
    have e : lineErr cells (lines.take i) l = cellsErr cells none l := by rw [lineErr, if_neg hl0, if_pos h]
    rw [hline (by rw [e]; exact h), e]
  refine F27.L10 (fun m z5 h' nx' => ∃ k : Nat, z5 = I k ∧ l.length - k = m ∧ k ≤ l.length ∧ h' = h1 ∧ nx' = nx1 ∧ cellsErr cells none l = cellsErr cells (pv l k) (l.drop k)) (m := l.length) (by omega) ⟨0, rfl, rfl, by omega, rfl, rfl, rfl⟩ ?_
  rintro m y2 y5 y10 y11 y12 h1 nx1 R2 ⟨k, rfl, rfl, hk, rfl, rfl, hce⟩ hR2
  simp (disch := omega) only [sAdd, sSub, sMul, sEql, sNeq, sLss, sLeq, sGtr, sGeq, sPick_t, sPick_f, sCond_t, sCond_f, sG_tt, sG_ff, sG_tf, sG_ft, sNot_b, sExt0, sExt1, sExt2, sPart0, sPart1, sPart2, sLen_lst, sLen_sl, sLen_nils, sSame_refl, decide_true, decide_false, Bool.not_true, Bool.not_false, sChk_t]
  by_cases hkt : k < l.length
  case neg =>
    simp only [show ¬ (k : Int) < (l.length : Int) by omega, decide_false, sCond_f]
    have hz : cellsErr cells none l = 0 := by rw [hce, List.drop_of_length_le (by omega)]; rfl
    rw [F27.k18, sFx, H1.load (k := 0) (i := 0 + 1) rfl rfl, sSliceF (by omega) (by omega)]
    have ep : AV.lst 1 i ((lines.map encI).take i) = encT (lines.take i) := by
      rw [← List.map_take]
      simp [encT, Nat.min_eq_left (Nat.le_of_lt hlt)]
    rw [ep]
    refine hasLine84 (by rw [List.length_take]; omega) (fun q hq => Nat.le_trans (hw q (List.mem_of_mem_take hq)) (by omega)) _ _ _ _ ?_
    rintro _ rfl _
    by_cases hin : l ∈ lines.take i
    · simp only [hin, decide_true, sCond_t]
      have e9 : lineErr cells (lines.take i) l = 9 := by rw [lineErr, if_neg hl0, if_neg (by rw [hz]; simp), if_pos hin]
      exact ret 9 (by rw [hline (by rw [e9]; decide), e9])
    · simp only [hin, decide_false, sCond_f]
      rw [F27.k19, sAdd (by omega)]
      have e0 : lineErr cells (lines.take i) l = 0 := by rw [lineErr, if_neg hl0, if_neg (by rw [hz]; simp), if_neg hin]
      refine hR _ _ _ _ _ _ _ _ _ _ _ _ _ (by omega) ⟨i + 1, rfl, rfl, by omega, rfl, rfl, ?_⟩
      rw [he, hd, linesErr, if_neg (by rw [e0]; simp), htake]
  simp only [show (k : Int) < (l.length : Int) by omega, decide_true, sCond_t]
  have hxk : l[k]? = some l[k] := List.getElem?_eq_getElem hkt
  have hdk : l.drop k = l[k] :: l.drop (k + 1) := List.drop_eq_getElem_cons hkt
  rw [sIxL rfl hkt, ldL (getI hxk)]
  by_cases hbad : l[k] < 0 ∨ cells ≤ l[k]
  · have e10 : cellsErr cells none l = 10 := by rw [hce, hdk, cellsErr, if_pos hbad]
    have fin := ret 10 (by rw [hcell (by rw [e10]; decide), e10])
    by_cases hneg : l[k] < 0
    · simp only [sLss, hneg, decide_true, sG_tf, sPick_t, sCond_t]
      exact fin
    · simp only [sLss, hneg, decide_false, sG_ff]
      rw [sIxL rfl hkt, ldL (getI hxk), sFx, H1.load (k := 0) (i := 0) rfl rfl]
      simp only [sGeq, show cells ≤ l[k] by omega, decide_true, sPick_f, sCond_t]
      exact fin
  simp only [sLss, show ¬ l[k] < 0 by omega, decide_false, sG_ff]
  rw [sIxL rfl hkt, ldL (getI hxk), sFx, H1.load (k := 0) (i := 0) rfl rfl]
  simp only [sGeq, show ¬ cells ≤ l[k] by omega, decide_false, sPick_f, sCond_f]
  rw [F27.k16]
  have next : ∀ z12, (pv l k).any (fun q => decide (l[k] ≤ q)) = false → R2 (F27.fr (.agg [I cells, encT lines]) (.ptr bx 0) y2 (I i) (encI l) (I ((k : Int) + 1)) (.bool false) (.bool false) (.bool true) (.bool false) (.bool true) (.bool false) z12 z13) h1 nx1 = .ok True := fun z12 hany => by
    refine hR2 _ _ _ _ _ _ _ _ (by omega) ⟨k + 1, rfl, rfl, by omega, rfl, rfl, ?_⟩
    rw [hce, hdk, cellsErr, if_neg hbad, hany]
    simp [pv_succ hkt]
  by_cases hk0 : 0 < k
  · obtain ⟨k, rfl⟩ : ∃ j, k = j + 1 := ⟨k - 1, by omega⟩
    have hk1 : k < l.length := by omega
    have hxk1 : l[k]? = some l[k] := List.getElem?_eq_getElem hk1
    simp only [sGtr, show (0 : Int) < ((k + 1 : Nat) : Int) by omega, decide_true, sG_tt]
    rw [sIxL rfl hkt, ldL (getI hxk), sSub (by omega), sIxL (i := k) (by omega) hk1, ldL (getI hxk1)]
    rw [pv_succ hk1] at next
    by_cases hle : l[k + 1] ≤ l[k]
    · simp only [sLeq, hle, decide_true, sPick_t, sCond_t]
      have e11 : cellsErr cells none l = 11 := by rw [hce, hdk, cellsErr, if_neg hbad, pv_succ hk1, if_pos (by simp [hle])]
      exact ret 11 (by rw [hcell (by rw [e11]; decide), e11])
    · simp only [sLeq, hle, decide_false, sPick_t, sCond_f]
      rw [F27.k17, sAdd (by omega)]
      exact next _ (by simp [hle])
  · obtain rfl : k = 0 := by omega
    simp only [sGtr, show ¬ (0 : Int) < ((0 : Nat) : Int) by omega, decide_false, sG_ft, sPick_f, sCond_f]
    rw [F27.k17, sAdd (by omega)]
    exact next _ (by simp [pv])
end Go.Ev
namespace Go.Ev
open Go Go.Proofs
variable {B : Nat}
theorem own_plain {P : Program} {f : Nat} {p id : Pa} {h0 h : T Blk} {nx : Pa} {L : List Ob} {k : Nat} {l : List Int} {K : Kw Prop} {Q : AV → Prop} (H : Hp h0 h nx L) (hk : L[k]? = some (.arr id (l.map I))) (hq : ∀ B, Pure P B f [encI l] Q) (hpl : ∀ v, Q v → Plain v)
    (hK : ∀ v, Q v → K v h nx = .ok True) : (CS P B).fn f p [.sl id 0 l.length (some l.length) 1] h nx K = .ok True :=
  CS_plain (.cons (HasArr.frz (H.own _ (List.mem_of_getElem? hk)) (T.get_e _ id) (Nat.le_refl _) (by simp) fun v hv => by obtain ⟨x, _, rfl⟩ := List.mem_map.1 hv; rfl) .nil) (by
    have := fixd_encI l
    simp only [nns, fixd.nn this, Bool.and_self]) hq hpl fun v hv _ => hK v hv
theorem contF131 {h : T Blk} {nx : Pa} {l : List Int} {g : Nat} {p q : Pa} {cap : List AV} {pr : Int → Bool} {K : Kw Prop} (hl : l.length ≤ 1000000) (hcl : ∀ x ∈ l, ∀ K : Kw Prop, K (.bool (pr x)) h nx = .ok True → (CS Tryz.prog B).fn g q (I x :: cap) h nx K = .ok True)
    (hK : K (.bool (l.any pr)) h nx = .ok True) : (CS Tryz.prog B).fn 131 p [encI l, .fn g q cap] h nx K = .ok True := by
  refine CS_fn_mono (p := .of 131) (K := K) (by_body tbl_ok dreg 9 fun hf => ?_) fun _ _ _ _ q => q
  rw [F131.go]
  refine CS_fn_mono (p := .of 165) (K := fun v1 h2 n3 => sBin .geq .int v1 (I 0) fun v4 => K v4 h2 n3) (by_body tbl_ok dreg 10000000 fun hf => ?_) fun _ _ _ _ q => q
  rw [F165.go]
  simp (disch := omega) only [sAdd, sSub, sMul, sEql, sNeq, sLss, sLeq, sGtr, sGeq, sPick_t, sPick_f, sCond_t, sCond_f, sG_tt, sG_ff, sG_tf, sG_ft, sNot_b, sExt0, sExt1, sExt2, sPart0, sPart1, sPart2, sLen_lst, sLen_sl, sLen_nils, sSame_refl, decide_true, decide_false, Bool.not_true, Bool.not_false, sChk_t]
  refine F165.L1 (fun m z5 h' nx' => ∃ i : Nat, z5 = I i ∧ l.length - i = m ∧ i ≤ l.length ∧ h' = h ∧ nx' = nx ∧ (l.take i).any pr = false) (m := l.length) (by omega) ⟨0, rfl, rfl, by omega, rfl, rfl, by simp⟩ ?_
  rintro m z2 z3 z5 z6 z7 _ _ R ⟨i, rfl, rfl, hi, rfl, rfl, htk⟩ hR
  simp (disch := omega) only [sAdd, sSub, sMul, sEql, sNeq, sLss, sLeq, sGtr, sGeq, sPick_t, sPick_f, sCond_t, sCond_f, sG_tt, sG_ff, sG_tf, sG_ft, sNot_b, sExt0, sExt1, sExt2, sPart0, sPart1, sPart2, sLen_lst, sLen_sl, sLen_nils, sSame_refl, decide_true, decide_false, Bool.not_true, Bool.not_false, sChk_t]
  by_cases hlt : i < l.length
  · simp only [show (i : Int) < (l.length : Int) by omega, decide_true, sCond_t]
    have hx : l[i]? = some l[i] := List.getElem?_eq_getElem hlt
    rw [sIxL rfl hlt, ldL (getI hx), sCall_fn]
    refine hcl _ (List.getElem_mem hlt) _ ?_
    cases he : pr l[i] with
    | true =>
      simp only [sCond_t, sGeq, show (0 : Int) ≤ (i : Int) by omega, decide_true]
      rw [List.any_eq_true.2 ⟨_, List.getElem_mem hlt, he⟩] at hK
      exact hK
    | false =>
      simp only [sCond_f]
      refine hR _ _ _ _ _ _ _ _ (by omega) ⟨i + 1, rfl, rfl, by omega, rfl, rfl, ?_⟩
      rw [List.take_add_one, hx, List.any_append, htk]
      simp [he]
  · simp only [show ¬ (i : Int) < (l.length : Int) by omega, decide_false, sCond_f]
    rw [F165.k8]
    rw [List.take_of_length_le (by omega)] at htk
    rw [htk] at hK
    simp only [sGeq, show ¬ (0 : Int) ≤ -1 by omega, decide_false]
    exact hK
theorem from122 {a b : Int} {l : List Int} (hl : l.length ≤ 1000000) : Pure Tryz.prog B 122 [I a, I b, encI l] (· = I (if l.any (fun x => decide (x < a) || decide (b < x)) then 3 else 0)) := by
  refine pure_hp fun h nx K H0 hK => by_body tbl_ok dreg 1000 fun hf => ?_
  rw [F122.go]
  refine H0.box (l := [I a]) rfl fun x1 h1 nx1 H1 => ?_
  refine H1.box (l := [I b]) rfl fun x2 h2 nx2 H2 => ?_
  refine contF131 (pr := fun x => decide (x < a) || decide (b < x)) hl (fun x _ K hK => ?_) ?_
  · refine CS_fn_mono (p := .of 147) (K := K) (by_body tbl_ok dreg 9 fun hf => ?_) fun _ _ _ _ q => q
    show callFn tbl 9 _ (Pa.of 147) [I x, .ptr x1 0, .ptr x2 0] _ _ _ = _
    rw [F147.go, H2.load (k := 1) (i := 0) rfl rfl]
    by_cases c : x < a
    · simp only [sLss, c, decide_true, sG_tf, sPick_t]
      simpa [c] using hK
    · simp only [sLss, c, decide_false, sG_ff]
      rw [H2.load (k := 0) (i := 0) rfl rfl]
      simp only [sGtr, sPick_f]
      simpa [c] using hK
  · refine when123 _ _ _ _ _ _ ?_
    rintro _ rfl _
    exact hK _ _ _ _ _ H2 (frz_fixd rfl) rfl
theorem line124 {cells : Int} {lines : List (List Int)} {i : Nat} {l : List Int} (hi : lines[i]? = some l) (hn : lines.length ≤ 1000000) (hw : ∀ q ∈ lines, q.length ≤ 1000000) : Pure Tryz.prog B 124 [.agg [I cells, encT lines], I i] (· = I (lineErr cells (lines.take i) l)) := by
  refine pure_hp fun h nx K H0 hK => by_body tbl_ok dreg 10000000 fun hf => ?_
  have hlt : i < lines.length := (List.getElem?_eq_some_iff.1 hi).1
  have hlw := hw l (List.mem_of_getElem? hi)
  rw [F124.go]
  refine H0.box (l := [I cells, encT lines]) rfl fun bx h1 nx1 H1 => ?_
  rw [sFx, H1.load (k := 0) (i := 0 + 1) rfl rfl, sIxL rfl hlt, ldL (getT hi)]
  refine H1.alloc fun x h2 nx2 H2 => ?_
  refine H2.store (k := 0) rfl (by decide) rfl fun h3 H3 => ?_
  rw [H3.load (k := 0) (i := 0) rfl rfl]
  simp (disch := omega) only [sAdd, sSub, sMul, sEql, sNeq, sLss, sLeq, sGtr, sGeq, sPick_t, sPick_f, sCond_t, sCond_f, sG_tt, sG_ff, sG_tf, sG_ft, sNot_b, sExt0, sExt1, sExt2, sPart0, sPart1, sPart2, sLen_lst, sLen_sl, sLen_nils, sSame_refl, decide_true, decide_false, Bool.not_true, Bool.not_false, sChk_t]
  have ret : ∀ (v : Int) h' nx' L, v = lineErr cells (lines.take i) l → Hp h h' nx' L → K (I v) h' nx' = .ok True := fun v h' nx' L hv H' => by rw [hv]; exact hK _ _ _ _ _ H' (frz_fixd rfl) rfl
  by_cases h0 : l.length = 0
  · simp only [show (l.length : Int) = 0 by omega, decide_true, sCond_t]
    have hl0 : l = [] := List.eq_nil_of_length_eq_zero h0
    exact ret 12 _ _ _ (by rw [lineErr, if_pos hl0]) H3
  simp only [show ¬ (l.length : Int) = 0 by omega, decide_false, sCond_f]
  have hl0 : l ≠ [] := fun q => h0 (by rw [q]; rfl)
  have hcell : cellsErr cells none l ≠ 0 → cellsErr cells none l = lineErr cells (lines.take i) l := fun h => by rw [lineErr, if_neg hl0, if_pos h]
  rw [H3.load (k := 0) (i := 0) rfl rfl]
  simp (disch := omega) only [sAdd, sSub, sMul, sEql, sNeq, sLss, sLeq, sGtr, sGeq, sPick_t, sPick_f, sCond_t, sCond_f, sG_tt, sG_ff, sG_tf, sG_ft, sNot_b, sExt0, sExt1, sExt2, sPart0, sPart1, sPart2, sLen_lst, sLen_sl, sLen_nils, sSame_refl, decide_true, decide_false, Bool.not_true, Bool.not_false, sChk_t]
  refine F124.L2 (fun m z11 h' nx' => ∃ k : Nat, z11 = I k ∧ l.length - k = m ∧ k ≤ l.length ∧ Hp h h' nx' [.arr x [encI l], .arr bx [I cells, encT lines]] ∧ cellsErr cells none l = cellsErr cells (pv l k) (l.drop k)) (m := l.length) (by omega) ⟨0, rfl, rfl, by omega, H3, rfl⟩ ?_
  rintro m z3 z5 z6 z7 z11 z12 z13 h1 nx1 R ⟨k, rfl, rfl, hk, H1, hce⟩ hR
  simp (disch := omega) only [sAdd, sSub, sMul, sEql, sNeq, sLss, sLeq, sGtr, sGeq, sPick_t, sPick_f, sCond_t, sCond_f, sG_tt, sG_ff, sG_tf, sG_ft, sNot_b, sExt0, sExt1, sExt2, sPart0, sPart1, sPart2, sLen_lst, sLen_sl, sLen_nils, sSame_refl, decide_true, decide_false, Bool.not_true, Bool.not_false, sChk_t]
  by_cases hkt : k < l.length
  case neg =>
    simp only [show ¬ (k : Int) < (l.length : Int) by omega, decide_false, sCond_f]
    have hz : cellsErr cells none l = 0 := by rw [hce, List.drop_of_length_le (by omega)]; rfl
    rw [F124.k9, sFx, H1.load (k := 1) (i := 0 + 1) rfl rfl, sSliceF (by omega) (by omega)]
    have ep : AV.lst 1 i ((lines.map encI).take i) = encT (lines.take i) := by
      rw [← List.map_take]
      simp [encT, Nat.min_eq_left (Nat.le_of_lt hlt)]
    rw [ep]
    refine contains148 H1 (k := 0) rfl (by rw [List.length_take]; omega) (fun q hq => hw q (List.mem_of_mem_take hq)) ?_
    refine when123 _ _ _ _ _ _ ?_
    rintro _ rfl _
    refine ret _ _ _ _ ?_ H1
    have e9 : lineErr cells (lines.take i) l = if l ∈ lines.take i then 9 else 0 := by rw [lineErr, if_neg hl0, if_neg (by rw [hz]; simp)]
    rw [e9]
    by_cases hin : l ∈ lines.take i <;> simp [hin]
  simp only [show (k : Int) < (l.length : Int) by omega, decide_true, sCond_t]
  have hxk : l[k]? = some l[k] := List.getElem?_eq_getElem hkt
  have hdk : l.drop k = l[k] :: l.drop (k + 1) := List.drop_eq_getElem_cons hkt
  rw [sIxL rfl hkt, ldL (getI hxk)]
  have tail : ∀ (b1 b2 : Bool) (z : AV) (z' : AV) (Z : AV → T Blk → Pa → Out Prop), b1 = (decide (l[k] < 0 ∨ cells ≤ l[k])) → b2 = (pv l k).any (fun q => decide (l[k] ≤ q)) →
      (∀ (e : Int) h' nx', e = (if l[k] < 0 ∨ cells ≤ l[k] then 10 else if (pv l k).any (fun q => decide (l[k] ≤ q)) then 11 else 0) → Hp h h' nx' [.arr x [encI l], .arr bx [I cells, encT lines]] → Z (I e) h' nx' = .ok True) →
      (CS Tryz.prog B).fn 123 (.of 123) [.bool b2, I 11] h1 nx1 (fun v22 h23 n24 => sBslice 1 2 [(I 0)] [(0, 1, I (if b1 then 10 else 0)), (1, 1, v22)] h23 n24 fun v25 h26 n27 => (CS Tryz.prog B).fn 121 (.of 121) [v25] h26 n27 Z) = .ok True := by
    intro b1 b2 z z' Z e1 e2 hZ
    refine when123 _ _ _ _ _ _ ?_
    rintro _ rfl _
    refine H1.bslice (l := [I (if b1 then 10 else 0), I (if b2 then 11 else 0)]) rfl fun id h4 nx4 H4 => ?_
    refine own_plain (l := [if b1 then 10 else 0, if b2 then 11 else 0]) H4 (k := 0) rfl (fun B => first121 (by simp)) (fun v hv => by rw [hv]; exact .int _ _) ?_
    rintro _ rfl
    refine hZ _ _ _ ?_ H4.drop
    subst e1 e2
    by_cases c1 : l[k] < 0 ∨ cells ≤ l[k]
    · simp [c1, firstE]
    · cases c2 : (pv l k).any (fun q => decide (l[k] ≤ q)) <;> simp [c1, firstE]
  have fin : ∀ (e : Int) h' nx', e = (if l[k] < 0 ∨ cells ≤ l[k] then 10 else if (pv l k).any (fun q => decide (l[k] ≤ q)) then 11 else 0) → Hp h h' nx' [.arr x [encI l], .arr bx [I cells, encT lines]] →
      (sBin .neq .int (I e) (I 0) fun v31 => sCond v31 (K (I e) h' nx') (R (F124.fr (.agg [I cells, encT lines]) (I i) (.ptr bx 0) z3 (.ptr x 0) (I k) (I l[k]) (I e) (.bool false) (encI l) (I l.length) (I ((k : Int) + 1)) (.bool true) v31) h' nx')) = .ok True := by
    intro e h' nx' he H'
    have hstep : cellsErr cells none l = if e ≠ 0 then e else cellsErr cells (some l[k]) (l.drop (k + 1)) := by
      rw [hce, hdk, cellsErr, he]
      by_cases c1 : l[k] < 0 ∨ cells ≤ l[k]
      · simp [c1]
      · cases c2 : (pv l k).any (fun q => decide (l[k] ≤ q)) <;> simp [c1]
    simp (disch := omega) only [sAdd, sSub, sMul, sEql, sNeq, sLss, sLeq, sGtr, sGeq, sPick_t, sPick_f, sCond_t, sCond_f, sG_tt, sG_ff, sG_tf, sG_ft, sNot_b, sExt0, sExt1, sExt2, sPart0, sPart1, sPart2, sLen_lst, sLen_sl, sLen_nils, sSame_refl, decide_true, decide_false, Bool.not_true, Bool.not_false, sChk_t]
    by_cases c : e = 0
    · simp only [c, decide_true, Bool.not_true, sCond_f]
      refine hR _ _ _ _ _ _ _ _ _ _ (by omega) ⟨k + 1, rfl, rfl, by omega, H', ?_⟩
      rw [hstep, if_neg (by simp [c]), pv_succ hkt]
    · simp only [c, decide_false, Bool.not_false, sCond_t]
      rw [if_pos c] at hstep
      exact ret _ _ _ _ (by rw [← hcell (by rw [hstep]; exact c), hstep]) H'
  have mid : ∀ b1 : Bool, b1 = decide (l[k] < 0 ∨ cells ≤ l[k]) →
      (CS Tryz.prog B).fn 123 (.of 123) [.bool b1, I 10] h1 nx1 (fun v10 h11 n12 =>
        sG (.bool (decide (0 < (k : Int)))) true (fun k => sLoad (.ptr x 0) h11 k) fun v14 => sG (.bool (decide (0 < (k : Int)))) true (fun q => q (I (k : Int))) fun v15 => sG (.bool (decide (0 < (k : Int)))) true (fun k => sBin .sub .int v15 (I 1) k) fun v16 => sG (.bool (decide (0 < (k : Int)))) true (fun k => sIaddr 1 v14 v16 k) fun v17 => sG (.bool (decide (0 < (k : Int)))) true (fun k => sLoad v17 h11 k) fun v18 =>
        sG (.bool (decide (0 < (k : Int)))) true (fun q => q (I l[k])) fun v19 => sG (.bool (decide (0 < (k : Int)))) true (fun k => sBin .geq .int v18 v19 k) fun v20 => sPick (.bool (decide (0 < (k : Int)))) v20 (.bool false) fun v21 =>
        (CS Tryz.prog B).fn 123 (.of 123) [v21, I 11] h11 n12 fun v22 h23 n24 => sBslice 1 2 [(I 0)] [(0, 1, v10), (1, 1, v22)] h23 n24 fun v25 h26 n27 => (CS Tryz.prog B).fn 121 (.of 121) [v25] h26 n27 fun v28 h29 n30 =>
        sBin .neq .int v28 (I 0) fun v31 => sCond v31 (K v28 h29 n30) (R (F124.fr (.agg [I cells, encT lines]) (I i) (.ptr bx 0) z3 (.ptr x 0) (I k) (I l[k]) v28 (.bool false) (encI l) (I l.length) (I ((k : Int) + 1)) (.bool true) v31) h29 n30)) = .ok True := by
    intro b1 e1
    refine when123 _ _ _ _ _ _ ?_
    rintro _ rfl _
    by_cases ck : 0 < k
    · obtain ⟨k, rfl⟩ : ∃ j, k = j + 1 := ⟨k - 1, by omega⟩
      have hk1 : k < l.length := by omega
      have hxk1 : l[k]? = some l[k] := List.getElem?_eq_getElem hk1
      simp only [show (0 : Int) < ((k + 1 : Nat) : Int) by omega, decide_true, sG_tt, sPick_t]
      rw [H1.load (k := 0) (i := 0) rfl rfl, sSub (by omega), sIxL (i := k) (by omega) hk1, ldL (getI hxk1)]
      simp only [sGeq]
      exact tail _ _ .undef .undef _ e1 (by rw [pv_succ hk1]; rfl) fin
    · obtain rfl : k = 0 := by omega
      simp only [show ¬ (0 : Int) < ((0 : Nat) : Int) by omega, decide_false, sG_ft, sPick_f]
      exact tail _ _ .undef .undef _ e1 rfl fin
  by_cases c : l[k] < 0
  · simp only [sLss, c, decide_true, sG_tf, sPick_t]
    exact mid true (by simp [c])
  · simp only [sLss, c, decide_false, sG_ff, sFx]
    rw [H1.load (k := 1) (i := 0) rfl rfl]
    simp only [sGeq, sPick_f]
    exact mid _ (by simp [c])
theorem sys81 {cells : Int} {lines : List (List Int)} (hw : ∀ q ∈ lines, q.length ≤ 1000000) : Pure Tryz.prog B 81 [.agg [I cells, encT lines]] (· = I (sysErr cells lines)) := by
  refine pure_hp fun h nx K H0 hK => by_body tbl_ok dreg 10000000 fun hf => ?_
  rw [F81.go]
  refine H0.box (l := [I cells, encT lines]) rfl fun bx h1 nx1 H1 => ?_
  rw [sFx, H1.load (k := 0) (i := 0) rfl rfl, sFx, H1.load (k := 0) (i := 0 + 1) rfl rfl]
  simp only [sLen_lst, sGtr]
  refine H1.bslice (l := [I cells]) rfl fun id h2 nx2 H2 => ?_
  simp only [sSame_refl, sLen_lst]
  rw [H2.load (k := 1) (i := 0 + 1) rfl rfl]
  simp only [sSame_refl, sFx]
  refine CS_plain (args' := [I 1, I 256, encI [cells]]) (.cons (.int _ _) (.cons (.int _ _) (.cons (HasArr.frz (H2.own (.arr id [I cells]) (by simp)) (T.get_e _ id) (Nat.le_refl _) rfl (fun v hv => by simp at hv; subst hv; rfl)) .nil))) rfl (fun B => from122 (l := [cells]) (by simp)) (fun v hv => by rw [hv]; exact .int _ _) ?_
  rintro _ rfl _
  rw [H2.load (k := 1) (i := 0 + 1) rfl rfl]
  simp only [sSame_refl, sLen_lst]
  refine when123 _ _ _ _ _ _ ?_
  rintro _ rfl _
  refine H2.bslice (l := [I (if [cells].any (fun x => decide (x < 1) || decide (256 < x)) then 3 else 0), I (if decide (128 < (lines.length : Int)) then 5 else 0)]) rfl fun id3 h3 nx3 H3 => ?_
  refine own_plain (l := [if [cells].any (fun x => decide (x < 1) || decide (256 < x)) then 3 else 0, if decide (128 < (lines.length : Int)) then 5 else 0]) H3 (k := 0) rfl (fun B => first121 (by simp)) (fun v hv => by rw [hv]; exact .int _ _) ?_
  rintro _ rfl
  have ret : ∀ (v : Int) h' nx' L, v = sysErr cells lines → Hp h h' nx' L → K (I v) h' nx' = .ok True := fun v h' nx' L hv H' => by rw [hv]; exact hK _ _ _ _ _ H' (frz_fixd rfl) rfl
  have ef : firstE [if [cells].any (fun x => decide (x < 1) || decide (256 < x)) then 3 else 0, if decide (128 < (lines.length : Int)) then 5 else 0] = if cells < 1 ∨ 256 < cells then 3 else if 128 < lines.length then 5 else 0 := by
    by_cases c : cells < 1 ∨ 256 < cells
    · simp [firstE, c]
    · by_cases c2 : 128 < lines.length
      · have : (128 : Int) < (lines.length : Int) := by omega
        simp [firstE, c, c2, this]
      · have : ¬ (128 : Int) < (lines.length : Int) := by omega
        simp [firstE, c, c2, this]
  rw [ef]
  simp only [sNeq]
  by_cases hc : cells < 1 ∨ 256 < cells
  · simp only [hc, if_true]
    simp only [show ¬ (3 : Int) = 0 by omega, decide_false, Bool.not_false, sCond_t]
    exact ret 3 _ _ _ (by rw [sysErr, if_pos hc]) H3
  simp only [hc, if_false]
  by_cases hm : 128 < lines.length
  · simp only [hm, if_true]
    simp only [show ¬ (5 : Int) = 0 by omega, decide_false, Bool.not_false, sCond_t]
    exact ret 5 _ _ _ (by rw [sysErr, if_neg hc, if_pos hm]) H3
  simp only [hm, if_false, decide_true, Bool.not_true, sCond_f]
  rw [H3.load (k := 2) (i := 0 + 1) rfl rfl]
  simp only [sLen_lst]
  have hs : sysErr cells lines = linesErr cells [] lines := by rw [sysErr, if_neg hc, if_neg hm]
  refine F81.L2 (fun m z8 h' nx' => ∃ i : Nat, z8 = I i ∧ lines.length - i = m ∧ i ≤ lines.length ∧ Hp h h' nx' [.arr bx [I cells, encT lines]] ∧ sysErr cells lines = linesErr cells (lines.take i) (lines.drop i)) (m := lines.length) (by omega) ⟨0, rfl, rfl, by omega, H3.drop.drop, by simpa using hs⟩ ?_
  rintro m z2 z4 z5 z8 z9 z10 h4 nx4 R ⟨i, rfl, rfl, hi, H4, he⟩ hR
  simp (disch := omega) only [sAdd, sSub, sMul, sEql, sNeq, sLss, sLeq, sGtr, sGeq, sPick_t, sPick_f, sCond_t, sCond_f, sG_tt, sG_ff, sG_tf, sG_ft, sNot_b, sExt0, sExt1, sExt2, sPart0, sPart1, sPart2, sLen_lst, sLen_sl, sLen_nils, sSame_refl, decide_true, decide_false, Bool.not_true, Bool.not_false, sChk_t]
  by_cases hlt : i < lines.length
  case neg =>
    simp only [show ¬ (i : Int) < (lines.length : Int) by omega, decide_false, sCond_f]
    rw [F81.k9]
    exact ret 0 _ _ _ (by rw [he, List.drop_of_length_le (by omega)]; rfl) H4
  simp only [show (i : Int) < (lines.length : Int) by omega, decide_true, sCond_t]
  obtain ⟨l, hx⟩ : ∃ l, lines[i]? = some l := ⟨_, List.getElem?_eq_getElem hlt⟩
  have hd : lines.drop i = l :: lines.drop (i + 1) := by
    rw [List.drop_eq_getElem_cons hlt]
    rw [List.getElem?_eq_getElem hlt] at hx
    rw [Option.some.inj hx]
  have htake : lines.take (i + 1) = lines.take i ++ [l] := by rw [List.take_add_one, hx]; rfl
  rw [H4.loadN (k := 0) (n := 2) rfl rfl]
  refine line124 hx (by omega) hw _ _ _ _ ?_
  rintro _ rfl _
  simp only [sNeq]
  by_cases c : lineErr cells (lines.take i) l = 0
  · simp only [c, decide_true, Bool.not_true, sCond_f]
    refine hR _ _ _ _ _ _ _ _ _ (by omega) ⟨i + 1, rfl, rfl, by omega, H4, ?_⟩
    rw [he, hd, linesErr, if_neg (by rw [c]; simp), htake]
  · simp only [c, decide_false, Bool.not_false, sCond_t]
    exact ret _ _ _ _ (by rw [he, hd, linesErr, if_pos c]) H4
end Go.Ev
namespace Go.Ev
def AscL (cells : Nat) (l : List Int) : Prop := l ≠ [] ∧ l.Pairwise (· < ·) ∧ ∀ c ∈ l, 0 ≤ c ∧ c < (cells : Int)
end Go.Ev
namespace Go.Ev
open Go Go.Proofs
variable {B : Nat}
theorem whenB82 (b : Bool) (e : Int) : Pure Tryz.prog B 82 [.bool b, I e] (· = I (if b then e else 0)) := by
  intro p h nx K hK
  refine by_body tbl_ok dreg 9 fun hf => ?_
  rw [F82.go]
  cases b <;> simp (disch := omega) only [sAdd, sSub, sMul, sEql, sNeq, sLss, sLeq, sGtr, sGeq, sPick_t, sPick_f, sCond_t, sCond_f, sG_tt, sG_ff, sG_tf, sG_ft, sNot_b, sExt0, sExt1, sExt2, sPart0, sPart1, sPart2, sLen_lst, sLen_sl, sLen_nils, sSame_refl, decide_true, decide_false, Bool.not_true, Bool.not_false, sChk_t] <;> exact hK _ rfl hf
theorem first80 {l : List Int} (hl : l.length ≤ 1000000) : Pure Tryz.prog B 80 [encI l] (· = I (firstE l)) := by
  intro p h nx K hK
  refine by_body tbl_ok dreg 10000000 fun hf => ?_
  rw [F80.go]
  simp (disch := omega) only [sAdd, sSub, sMul, sEql, sNeq, sLss, sLeq, sGtr, sGeq, sPick_t, sPick_f, sCond_t, sCond_f, sG_tt, sG_ff, sG_tf, sG_ft, sNot_b, sExt0, sExt1, sExt2, sPart0, sPart1, sPart2, sLen_lst, sLen_sl, sLen_nils, sSame_refl, decide_true, decide_false, Bool.not_true, Bool.not_false, sChk_t]
  refine F80.L1 (fun m z5 h' nx' => ∃ i : Nat, z5 = I i ∧ l.length - i = m ∧ i ≤ l.length ∧ h' = h ∧ nx' = nx ∧ ∀ e ∈ l.take i, e = 0) (m := l.length) (by omega) ⟨0, rfl, rfl, by omega, rfl, rfl, by simp⟩ ?_
  rintro m z1 z2 z5 z6 z7 _ _ R ⟨i, rfl, rfl, hi, rfl, rfl, htk⟩ hR
  simp (disch := omega) only [sAdd, sSub, sMul, sEql, sNeq, sLss, sLeq, sGtr, sGeq, sPick_t, sPick_f, sCond_t, sCond_f, sG_tt, sG_ff, sG_tf, sG_ft, sNot_b, sExt0, sExt1, sExt2, sPart0, sPart1, sPart2, sLen_lst, sLen_sl, sLen_nils, sSame_refl, decide_true, decide_false, Bool.not_true, Bool.not_false, sChk_t]
  by_cases hlt : i < l.length
  · simp only [show (i : Int) < (l.length : Int) by omega, decide_true, sCond_t]
    have hx : l[i]? = some l[i] := List.getElem?_eq_getElem hlt
    rw [sIxL rfl hlt, ldL (getI hx)]
    simp (disch := omega) only [sAdd, sSub, sMul, sEql, sNeq, sLss, sLeq, sGtr, sGeq, sPick_t, sPick_f, sCond_t, sCond_f, sG_tt, sG_ff, sG_tf, sG_ft, sNot_b, sExt0, sExt1, sExt2, sPart0, sPart1, sPart2, sLen_lst, sLen_sl, sLen_nils, sSame_refl, decide_true, decide_false, Bool.not_true, Bool.not_false, sChk_t]
    have hd : l.drop i = l[i] :: l.drop (i + 1) := List.drop_eq_getElem_cons hlt
    by_cases h0 : l[i] = 0
    · simp only [h0, decide_true, Bool.not_true, sCond_f]
      refine hR _ _ _ _ _ _ _ _ (by omega) ⟨i + 1, rfl, rfl, by omega, rfl, rfl, fun e he => ?_⟩
      rw [List.take_add_one, hx] at he
      rcases List.mem_append.1 he with q | q
      · exact htk e q
      · simp at q; rw [q]; exact h0
    · simp only [h0, decide_false, Bool.not_false, sCond_t]
      refine hK _ ?_ hf
      rw [firstE_skip l i htk, hd, firstE, if_pos h0]
  · simp only [show ¬ (i : Int) < (l.length : Int) by omega, decide_false, sCond_f]
    rw [F80.k8]
    refine hK _ ?_ hf
    rw [firstE_skip l i htk, List.drop_of_length_le (by omega)]; rfl
theorem cells_ok {cells : Int} : ∀ {l : List Int} {p : Option Int}, cellsErr cells p l = 0 → (∀ c ∈ l, 0 ≤ c ∧ c < cells) ∧ l.Pairwise (· < ·) ∧ ∀ q, p = some q → ∀ c ∈ l, q < c
  | [], _, _ => ⟨by simp, .nil, by simp⟩
  | c :: l, p, h => by
    rw [cellsErr] at h
    by_cases c1 : c < 0 ∨ cells ≤ c
    · rw [if_pos c1] at h; cases h
    rw [if_neg c1] at h
    cases c2 : p.any (fun q => decide (c ≤ q)) with
    | true => rw [c2, if_pos rfl] at h; cases h
    | false =>
      rw [c2, if_neg (by simp)] at h
      obtain ⟨h1, h2, h3⟩ := cells_ok h
      have h4 := h3 c rfl
      refine ⟨fun x hx => ?_, List.pairwise_cons.2 ⟨h4, h2⟩, fun q hq x hx => ?_⟩
      · rcases List.mem_cons.1 hx with rfl | hx
        · omega
        · exact h1 x hx
      · subst hq
        simp at c2
        rcases List.mem_cons.1 hx with rfl | hx
        · exact c2
        · have := h4 x hx; omega
theorem lines_ok {cells : Int} : ∀ {ls prev : List (List Int)}, linesErr cells prev ls = 0 → ∀ l ∈ ls, l ≠ [] ∧ cellsErr cells none l = 0
  | [], _, _, l, h => by simp at h
  | a :: ls, prev, h, l, hl => by
    rw [linesErr] at h
    by_cases c : lineErr cells prev a ≠ 0
    · rw [if_pos c] at h; exact absurd h c
    rw [if_neg c] at h
    rcases List.mem_cons.1 hl with rfl | hl
    · have c : lineErr cells prev l = 0 := by simpa using c
      rw [lineErr] at c
      by_cases c0 : l = []
      · rw [if_pos c0] at c; cases c
      rw [if_neg c0] at c
      refine ⟨c0, ?_⟩
      by_cases c1 : cellsErr cells none l ≠ 0
      · rw [if_pos c1] at c; exact c
      · simpa using c1
    · exact lines_ok h l hl
theorem sys_ok {cells : Int} {lines : List (List Int)} (h : sysErr cells lines = 0) : ∃ n : Nat, cells = n ∧ 1 ≤ n ∧ n ≤ 256 ∧ lines.length ≤ 128 ∧ ∀ l ∈ lines, AscL n l := by
  rw [sysErr] at h
  by_cases c1 : cells < 1 ∨ 256 < cells
  · rw [if_pos c1] at h; cases h
  rw [if_neg c1] at h
  by_cases c2 : 128 < lines.length
  · rw [if_pos c2] at h; cases h
  rw [if_neg c2] at h
  refine ⟨cells.toNat, by omega, by omega, by omega, by omega, fun l hl => ?_⟩
  obtain ⟨h1, h2⟩ := lines_ok h l hl
  obtain ⟨h3, h4, _⟩ := cells_ok h2
  exact ⟨h1, h4, fun c hc => by have := h3 c hc; omega⟩
end Go.Ev
namespace Go.Ev
open Go Go.Proofs
variable {B : Nat}
theorem Hp.copyArr {h0 h : T Blk} {nx : Pa} {L : List Ob} {K : AV → T Blk → Pa → OP} {z w : AV} {new : List AV} {c bytes : Nat} (H : Hp h0 h nx L) (hr : ∀ h1, Keeps h0 h1 → ∀ (no : OP) (K' : List AV → Nat → OP), readSl w h1 no K' = K' new c) (hl : new.length = c) (hs : new.all scal = true) (hb : bytes * 1000000 ≤ 70368744177664) (hc : c ≤ 1000000)
    (hK : ∀ id cap h' nx', capLe c cap → Hp h0 h' nx' (.arr id new :: L) → K (.sl id 0 c cap 1) h' nx' = .ok True) :
    (sBslice 1 0 [z] [] h nx fun v1 h1 n1 => sApp 1 bytes v1 w h1 n1 K) = .ok True := by
  refine H.bslice (l := []) rfl fun e h1 n1 H1 => ?_
  unfold sApp appA
  rw [hr _ H1.keep]
  have hcc : (Nat.ble (bytes * 1000000) 70368744177664 && Nat.beq new.length (c * 1) && Nat.ble 1 1 && new.all scal) = true := by
    simp only [Bool.and_eq_true, hs, and_true]
    exact ⟨⟨Nat.ble_eq_true_of_le hb, by rw [hl, Nat.mul_one]; exact Nat.beq_refl _⟩, rfl⟩
  rw [hcc, cond_true]
  obtain ⟨op, t, g1, g2⟩ : HasArr h1 e [] := H1.own _ (List.mem_cons_self ..)
  show (bif Nat.beq 1 1 && Nat.ble (0 + c) 1000000 then asCells (T.get .no e h1) _ (.no 35) else .no 36) = _
  rw [g1, Nat.ble_eq_true_of_le (by omega)]
  show (bif Nat.ble (0 + c) 0 then (bif Nat.ble (0 + (0 + c) * 1) 0 then appIn e 0 0 (some 0) 1 op 0 t new c h1 n1 _ else .no 32) else appNew 0 0 1 t new c h1 n1 _) = _
  by_cases hc0 : c = 0
  · subst hc0
    obtain rfl : new = [] := List.eq_nil_of_length_eq_zero hl
    rw [show Nat.ble (0 + 0) 0 = true from rfl, cond_true, cond_true]
    unfold appIn
    rw [wrListK_eq, T.setK_eq, natK_eq]
    exact hK e (some 0) _ _ (Nat.le_refl _) (H1.upd (k := 0) (x' := .arr e []) rfl (by simp [Ob.names]) rfl ⟨op, _, T.get_set_same _ _ _ _, rfl⟩)
  · rw [bleF (by omega), cond_false]
    unfold appNew
    rw [newCells_eq, natK_eq]
    rw [Nat.zero_add]
    have H2 : Hp h0 (T.set .no (.cells true new.length (wrList new .e 0)) n1 h1) n1.succ (.arr n1 new :: L) :=
      Hp.new (x := .arr n1 new) H1.drop rfl fun h' q => ⟨_, _, q, wrList_all new⟩
    exact hK n1 none _ _ trivial H2
theorem deg95 {cells : Nat} {lines : List (List Int)} (hcl : cells ≤ 256) (hn : lines.length ≤ 128) (hl : ∀ l ∈ lines, l.length ≤ 1000 ∧ ∀ c ∈ l, 0 ≤ c ∧ c < (cells : Int)) : Pure Tryz.prog B 95 [.agg [I cells, encT lines]] (· = encI (degS cells lines)) := by
  refine pure_hp fun h nx K H0 hK => by_body tbl_ok dreg 10000000 fun hf => ?_
  rw [F95.go]
  refine H0.box (l := [I cells, encT lines]) rfl fun bx h1 nx1 H1 => ?_
  rw [sFx, H1.load (k := 0) (i := 0) rfl rfl]
  refine H1.mk1 cells rfl rfl (by omega) (by decide) fun o h2 nx2 H2 => ?_
  rw [sFx, H2.load (k := 1) (i := 0 + 1) rfl rfl]
  simp only [sLen_lst]
  have hz : List.replicate cells (I 0) = (List.replicate cells (0 : Int)).map I := by simp
  rw [hz] at H2
  have hbd : ∀ i, i ≤ lines.length → Bd (degS cells (lines.take i)) (i * 1000) := fun i hi => by
    have := degS_bd (cells := cells) (W := 1000) (lines := lines.take i) fun l hm => by
      obtain ⟨q1, q2⟩ := hl l (List.mem_of_mem_take hm)
      exact ⟨q1, fun c hc => by have := q2 c hc; omega⟩
    rw [List.length_take, Nat.min_eq_left hi] at this
    exact this
  refine F95.L1 (fun m z8 h' nx' => ∃ i : Nat, z8 = I i ∧ lines.length - i = m ∧ i ≤ lines.length ∧ Hp h h' nx' [.arr o ((degS cells (lines.take i)).map I), .arr bx [I cells, encT lines]]) (m := lines.length) (by omega) ⟨0, rfl, rfl, by omega, H2⟩ ?_
  rintro m z4 z5 z8 z9 z10 z11 z12 z13 h3 nx3 R ⟨i, rfl, rfl, hi, H3⟩ hR
  simp (disch := omega) only [sAdd, sSub, sMul, sEql, sNeq, sLss, sLeq, sGtr, sGeq, sPick_t, sPick_f, sCond_t, sCond_f, sG_tt, sG_ff, sG_tf, sG_ft, sNot_b, sExt0, sExt1, sExt2, sPart0, sPart1, sPart2, sLen_lst, sLen_sl, sLen_nils, sSame_refl, decide_true, decide_false, Bool.not_true, Bool.not_false, sChk_t]
  by_cases hlt : i < lines.length
  case neg =>
    simp only [show ¬ (i : Int) < (lines.length : Int) by omega, decide_false, sCond_f]
    rw [F95.k15]
    rw [List.take_of_length_le (by omega)] at H3
    refine hK _ _ _ _ _ H3 (H3.frzArr (k := 0) rfl (Nat.le_refl _) (by simp [degS_length]) (fun v hv => by obtain ⟨x, _, rfl⟩ := List.mem_map.1 hv; rfl)) ?_
    show _ = AV.lst 1 _ _
    rw [degS_length]
  simp only [show (i : Int) < (lines.length : Int) by omega, decide_true, sCond_t]
  obtain ⟨l, hx⟩ : ∃ l, lines[i]? = some l := ⟨_, List.getElem?_eq_getElem hlt⟩
  obtain ⟨hlw, hlc⟩ := hl l (List.mem_of_getElem? hx)
  have htake : lines.take (i + 1) = lines.take i ++ [l] := by rw [List.take_add_one, hx]; rfl
  have hds : degS cells (lines.take (i + 1)) = l.foldl incr (degS cells (lines.take i)) := by rw [degS, htake, List.foldl_append]; rfl
  rw [sIxL rfl hlt, ldL (getT hx)]
  simp (disch := omega) only [sAdd, sSub, sMul, sEql, sNeq, sLss, sLeq, sGtr, sGeq, sPick_t, sPick_f, sCond_t, sCond_f, sG_tt, sG_ff, sG_tf, sG_ft, sNot_b, sExt0, sExt1, sExt2, sPart0, sPart1, sPart2, sLen_lst, sLen_sl, sLen_nils, sSame_refl, decide_true, decide_false, Bool.not_true, Bool.not_false, sChk_t]
  refine F95.L7 (fun m z12 h' nx' => ∃ k : Nat, z12 = I k ∧ l.length - k = m ∧ k ≤ l.length ∧ Hp h h' nx' [.arr o (((l.take k).foldl incr (degS cells (lines.take i))).map I), .arr bx [I cells, encT lines]]) (m := l.length) (by omega) ⟨0, rfl, rfl, by omega, H3⟩ ?_
  rintro m y5 y12 y13 h4 nx4 R2 ⟨k, rfl, rfl, hk, H4⟩ hR2
  simp (disch := omega) only [sAdd, sSub, sMul, sEql, sNeq, sLss, sLeq, sGtr, sGeq, sPick_t, sPick_f, sCond_t, sCond_f, sG_tt, sG_ff, sG_tf, sG_ft, sNot_b, sExt0, sExt1, sExt2, sPart0, sPart1, sPart2, sLen_lst, sLen_sl, sLen_nils, sSame_refl, decide_true, decide_false, Bool.not_true, Bool.not_false, sChk_t]
  by_cases hkt : k < l.length
  case neg =>
    simp only [show ¬ (k : Int) < (l.length : Int) by omega, decide_false, sCond_f]
    rw [F95.k14]
    try rw [sAdd (by omega)]
    rw [List.take_of_length_le (l := l) (by omega), ← hds] at H4
    exact hR _ _ _ _ _ _ _ _ _ _ _ (by omega) ⟨i + 1, rfl, rfl, by omega, H4⟩
  simp only [show (k : Int) < (l.length : Int) by omega, decide_true, sCond_t]
  have hxk : l[k]? = some l[k] := List.getElem?_eq_getElem hkt
  obtain ⟨c0, c1⟩ := hlc _ (List.getElem_mem hkt)
  have hlen : ((l.take k).foldl incr (degS cells (lines.take i))).length = cells := by rw [foldl_incr_length, degS_length]
  have hbk : Bd ((l.take k).foldl incr (degS cells (lines.take i))) (i * 1000 + 1000) := (hbd i hi).line (fun c hc => by rw [degS_length]; have := hlc c (List.mem_of_mem_take hc); omega) (by rw [List.length_take]; omega)
  have hfd : (l.take (k + 1)).foldl incr (degS cells (lines.take i)) = incr ((l.take k).foldl incr (degS cells (lines.take i))) l[k] := by
    rw [List.take_add_one, hxk, List.foldl_append]; rfl
  generalize hd : (l.take k).foldl incr (degS cells (lines.take i)) = d at *
  have hv : (d.map I)[(l[k]).toNat]? = some (I (d.getD (l[k]).toNat 0)) := by
    rw [List.getElem?_map, List.getD_eq_getElem?_getD, List.getElem?_eq_getElem (by omega)]; rfl
  have hvb : 0 ≤ d.getD (l[k]).toNat 0 ∧ d.getD (l[k]).toNat 0 ≤ ((i * 1000 + 1000 : Nat) : Int) := by
    rw [List.getD_eq_getElem?_getD, List.getElem?_eq_getElem (by omega)]
    exact hbk _ (List.getElem_mem _)
  rw [sIxL rfl hkt, ldL (getI hxk), sIx (i := (l[k]).toNat) (by omega) (by omega), H4.load (k := 0) rfl hv, sAdd (by omega), sIx (i := (l[k]).toNat) (by omega) (by omega)]
  refine H4.store (k := 0) rfl (by simp; omega) rfl fun h5 H5 => ?_
  refine hR2 _ _ _ _ _ _ (by omega) ⟨k + 1, rfl, rfl, by omega, H5.cast ?_⟩
  rw [hfd, incr, List.map_set]; rfl
end Go.Ev
namespace Go.Ev
open Go Go.Proofs
variable {B : Nat}
theorem sorted85 {l : List Int} (hl : l.length ≤ 100000) : Pure Tryz.prog B 85 [encI l] (· = encI (srt l)) := by
  refine pure_hp fun h nx K H0 hK => by_body tbl_ok dreg 10000000 fun hf => ?_
  rw [F85.go]
  refine H0.copyArr (new := l.map I) (c := l.length) (fun h1 _ => rdLst 1) (by simp) (by simp [List.all_eq_true, scal]) (by decide) (by omega) fun id cap h1 nx1 hcap H1 => ?_
  refine F85.L1 (fun m z3 h' nx' => ∃ (i : Nat) (out : List Int), z3 = I i ∧ l.length + 1 - i = m ∧ 1 ≤ i ∧ i ≤ l.length + 1 ∧ out.Perm l ∧ (out.take i).Pairwise (· ≤ ·) ∧ Hp h h' nx' [.arr id (out.map I)]) (m := l.length) (by omega) ⟨1, l, rfl, by omega, by omega, by omega, .refl _, by cases l <;> simp, H1⟩ ?_
  rintro m z3 z4 z5 z6 h2 nx2 R ⟨i, out, rfl, rfl, hi1, hi, hp, hs, H2⟩ hR
  have hlo : out.length = l.length := hp.length_eq
  simp only [sLen_sl, sLss]
  by_cases hlt : i < l.length
  case neg =>
    simp only [show ¬ (i : Int) < (l.length : Int) by omega, decide_false, sCond_f]
    rw [F85.k15]
    rw [List.take_of_length_le (by omega)] at hs
    obtain rfl := srt_unique hp hs
    refine hK _ _ _ _ _ H2 (H2.frzArr (k := 0) rfl hcap (by simp [hlo]) (fun v hv => by obtain ⟨x, _, rfl⟩ := List.mem_map.1 hv; rfl)) ?_
    show _ = AV.lst 1 _ _
    rw [hlo]
  simp only [show (i : Int) < (l.length : Int) by omega, decide_true, sCond_t]
  refine F85.L7 (fun m z4 h' nx' => ∃ (k : Nat) (out : List Int), z4 = I k ∧ k = m ∧ k ≤ i ∧ Ins l out i k ∧ Hp h h' nx' [.arr id (out.map I)]) (m := i) (by omega) ⟨i, out, rfl, rfl, Nat.le_refl _, .start hp (by omega) hs, H2⟩ ?_
  clear hs hp hlo H2
  rintro m y4 y6 h3 nx3 R2 ⟨k, out, rfl, rfl, hk, hin, H3⟩ hR2
  have hlo : out.length = l.length := hin.perm.length_eq
  have stop : ∀ (E0 : Ks Prop) w6, (k = 0 ∨ ∃ j a x, k = j + 1 ∧ out[j]? = some a ∧ out[k]? = some x ∧ ¬ x < a) → IR.run F85.b14 (CS Tryz.prog B) 10000000 ((fnO F85.res K).blk 0 E0) R (F85.fr (encI l) .nils (.sl id 0 l.length cap 1) (I i) (I k) (.bool true) w6) h3 nx3 = .ok True := by
    intro E0 w6 hst
    obtain ⟨q1, q2⟩ := hin.done hst
    rw [F85.k14]
    rw [sAdd (by omega)]
    exact hR (l.length + 1 - (i + 1)) _ _ _ _ _ _ (by omega) ⟨i + 1, out, rfl, rfl, by omega, by omega, q1, q2, H3⟩
  simp only [sGtr]
  cases k with
  | zero =>
    simp only [show ¬ (0 : Int) < ((0 : Nat) : Int) by omega, decide_false, sG_ft, sPick_f, sCond_f]
    exact stop _ _ (.inl rfl)
  | succ k =>
    have hx1 : out[k + 1]? = some out[k + 1] := List.getElem?_eq_getElem (by omega)
    have hx0 : out[k]? = some out[k] := List.getElem?_eq_getElem (by omega)
    simp only [show (0 : Int) < ((k + 1 : Nat) : Int) by omega, decide_true, sG_tt]
    rw [sIx (i := k + 1) rfl (by omega), H3.load (k := 0) rfl (getI hx1), sSub (by omega), sIx (i := k) (by omega) (by omega), H3.load (k := 0) rfl (getI hx0)]
    simp only [sLss]
    by_cases hc : out[k + 1] < out[k]
    · simp only [hc, decide_true, sPick_t, sCond_t]
      rw [F85.k10, sSub (by omega), sSub (by omega), sIx (i := k) (by omega) (by omega), H3.load (k := 0) rfl (getI hx0), sIx (i := k + 1) rfl (by omega), H3.load (k := 0) rfl (getI hx1), sIx (i := k + 1) rfl (by omega)]
      refine H3.store (k := 0) rfl (by simp; omega) rfl fun h4 H4 => ?_
      try rw [sSub (by omega)]
      simp only [sSame_refl]
      rw [sIx (i := k) (by omega) (by omega)]
      refine H4.store (k := 0) rfl (by simp; omega) rfl fun h5 H5 => ?_
      try rw [sSub (by omega)]
      rw [show ((k + 1 : Nat) : Int) - 1 = (k : Int) by omega]
      refine hR2 k _ _ _ _ (by omega) ⟨k, (out.set (k + 1) out[k]).set k out[k + 1], rfl, rfl, by omega, hin.swap hx0 hx1 hc, H5.cast ?_⟩
      simp [List.map_set]
    · simp only [hc, decide_false, sPick_t, sCond_f]
      exact stop _ _ (.inr ⟨k, _, _, rfl, hx0, hx1, hc⟩)
end Go.Ev
namespace Go.Ev
def lexLt : List Int → List Int → Bool
  | _, [] => false
  | [], _ :: _ => true
  | a :: xs, b :: ys => if a = b then lexLt xs ys else decide (a < b)
theorem lexLt_skip : ∀ (i : Nat) (a b : List Int), a.take i = b.take i → i ≤ a.length → i ≤ b.length → lexLt a b = lexLt (a.drop i) (b.drop i)
  | 0, a, b, _, _, _ => rfl
  | i + 1, a :: xs, b :: ys, h, h1, h2 => by
    simp only [List.take_succ_cons, List.cons.injEq] at h
    rw [lexLt, if_pos h.1, List.drop_succ_cons, List.drop_succ_cons]
    exact lexLt_skip i xs ys h.2 (by simpa using h1) (by simpa using h2)
  | i + 1, [], _, _, h1, _ => by simp at h1
  | i + 1, _ :: _, [], _, _, h2 => by simp at h2
def cmpL (a b : List Int) : Int := if lexLt a b then -1 else if a = b then 0 else 1
def Nrm (f : List Int) : Prop := f.Nodup ∧ ∀ x ∈ f, 1 ≤ x ∧ x ≤ (f.length : Int)
theorem sub_perm : ∀ (l r : List Int), l.Nodup → (∀ x ∈ l, x ∈ r) → ∃ s, r.Perm (l ++ s)
  | [], r, _, _ => ⟨r, .refl _⟩
  | a :: l, r, hn, hs => by
    obtain ⟨h1, h2⟩ := List.nodup_cons.1 hn
    have ha := hs a (by simp)
    obtain ⟨s, hp⟩ := sub_perm l (r.erase a) h2 fun x hx => (List.mem_erase_of_ne (by rintro rfl; exact h1 hx)).2 (hs x (by simp [hx]))
    exact ⟨s, (List.perm_cons_erase ha).trans (.cons a hp)⟩
abbrev upTo (n : Nat) : List Int := (List.range n).map fun (i : Nat) => (i : Int) + 1
theorem upTo_sorted (n : Nat) : (upTo n).Pairwise (· ≤ ·) := by
  rw [List.pairwise_map]
  exact List.pairwise_lt_range.imp (by intro a b h; omega)
theorem upTo_nodup (n : Nat) : (upTo n).Nodup := by
  rw [List.Nodup, List.pairwise_map]
  exact List.pairwise_lt_range.imp (by intro a b h; omega)
theorem nrm_iff (f : List Int) : srt f = upTo f.length ↔ Nrm f := by
  constructor
  · intro h
    have hp : (upTo f.length).Perm f := h ▸ srt_perm f
    refine ⟨hp.nodup_iff.1 (upTo_nodup _), fun x hx => ?_⟩
    have := hp.mem_iff.2 hx
    obtain ⟨i, hi, rfl⟩ := List.mem_map.1 this
    have := List.mem_range.1 hi
    omega
  · rintro ⟨h1, h2⟩
    obtain ⟨s, hs⟩ := sub_perm f (upTo f.length) h1 fun x hx => by
      obtain ⟨q1, q2⟩ := h2 x hx
      exact List.mem_map.2 ⟨(x - 1).toNat, List.mem_range.2 (by omega), by omega⟩
    have hl := hs.length_eq
    obtain rfl : s = [] := List.eq_nil_of_length_eq_zero (by rw [List.length_append, List.length_map, List.length_range] at hl; omega)
    rw [List.append_nil] at hs
    exact (srt_unique hs (upTo_sorted _)).symm
def putN (u : List Int) (p : Int × Int) : List Int := u.set (p.1 - 1).toNat p.2
def upS (n : Nat) (f d : List Int) : List Int := (f.zip d).foldl putN (List.replicate n 0)
theorem foldl_putK_len : ∀ (ps : List (Int × Int)) (u : List Int), (ps.foldl putN u).length = u.length
  | [], u => rfl
  | p :: ps, u => by rw [List.foldl_cons, foldl_putK_len ps]; simp [putN]
def keyS (n : Nat) (f d : List Int) : List Int := if lexLt (upS n f d).reverse (upS n f d) then (upS n f d).reverse else upS n f d
theorem upS_length (n : Nat) (f d : List Int) : (upS n f d).length = n := by rw [upS, foldl_putK_len]; simp
def seenL (n : Nat) (l : List Int) : List Bool := l.foldl (fun s x => s.set (x - 1).toNat true) (List.replicate n false)
theorem seen_fold : ∀ (l : List Int) (s : List Bool) (k : Nat), (∀ x ∈ l, 1 ≤ x) → k < s.length → (l.foldl (fun s x => s.set (x - 1).toNat true) s)[k]? = some (s.getD k false || decide ((k : Int) + 1 ∈ l))
  | [], s, k, _, hk => by simp [List.getD_eq_getElem?_getD, List.getElem?_eq_getElem hk]
  | a :: l, s, k, hl, hk => by
    rw [List.foldl_cons, seen_fold l _ k (fun x hx => hl x (by simp [hx])) (by simpa using hk)]
    have ha := hl a (by simp)
    rw [List.getD_eq_getElem?_getD, List.getElem?_set]
    by_cases e : (a - 1).toNat = k
    · rw [if_pos e, if_pos (by omega)]
      have : (k : Int) + 1 = a := by omega
      simp [this]
    · rw [if_neg e]
      have : ¬ (k : Int) + 1 = a := by omega
      simp [this, List.getD_eq_getElem?_getD]
theorem seenL_length (n : Nat) (l : List Int) : (seenL n l).length = n := by
  have : ∀ (l : List Int) (s : List Bool), (l.foldl (fun s x => s.set (x - 1).toNat true) s).length = s.length := by
    intro l; induction l with
    | nil => intro s; rfl
    | cons a l ih => intro s; rw [List.foldl_cons, ih]; simp
  rw [seenL, this]; simp
theorem seenL_get {n : Nat} {l : List Int} {k : Nat} (hl : ∀ x ∈ l, 1 ≤ x) (hk : k < n) : (seenL n l)[k]? = some (decide ((k : Int) + 1 ∈ l)) := by
  rw [seenL, seen_fold l _ k hl (by simpa using hk)]
  simp [List.getD_eq_getElem?_getD, hk]
theorem seenL_snoc (n : Nat) (l : List Int) (x : Int) : seenL n (l ++ [x]) = (seenL n l).set (x - 1).toNat true := by simp [seenL]
def Rv (l cur : List Int) (i : Nat) : Prop := cur.length = l.length ∧ ∀ t, t < l.length → cur[t]? = if t < i ∨ l.length ≤ t + i then l[l.length - 1 - t]? else l[t]?
theorem Rv.start (l : List Int) : Rv l l 0 := ⟨rfl, fun t ht => by rw [if_neg (by omega)]⟩
theorem Rv.done {l cur : List Int} {i : Nat} (h : Rv l cur i) (hi : l.length ≤ 2 * i + 1) : cur = l.reverse := by
  refine List.ext_getElem? fun t => ?_
  by_cases ht : t < l.length
  · rw [h.2 t ht, List.getElem?_reverse ht]
    by_cases c : t < i ∨ l.length ≤ t + i
    · rw [if_pos c]
    · rw [if_neg c, show l.length - 1 - t = t by omega]
  · rw [List.getElem?_eq_none (by rw [h.1]; omega), List.getElem?_eq_none (by simp; omega)]
theorem Rv.step {l cur : List Int} {i j : Nat} {a b : Int} (h : Rv l cur i) (hij : i < j) (hs : i + j + 1 = l.length) (ha : cur[i]? = some a) (hb : cur[j]? = some b) : Rv l ((cur.set i b).set j a) (i + 1) := by
  obtain ⟨hl, hg⟩ := h
  refine ⟨by simp [hl], fun t ht => ?_⟩
  have e1 := hg i (by omega)
  have e2 := hg j (by omega)
  rw [if_neg (by omega), ha] at e1
  rw [if_neg (by omega), hb] at e2
  rw [List.getElem?_set, List.getElem?_set, List.length_set]
  by_cases c1 : j = t
  · subst c1
    rw [if_pos rfl, if_pos (by omega), if_pos (by omega), show l.length - 1 - j = i by omega]
    exact e1
  · rw [if_neg c1]
    by_cases c2 : i = t
    · subst c2
      rw [if_pos rfl, if_pos (by omega), if_pos (by omega), show l.length - 1 - i = j by omega]
      exact e2
    · rw [if_neg c2, hg t ht]
      by_cases c3 : t < i ∨ l.length ≤ t + i
      · rw [if_pos c3, if_pos (by omega)]
      · rw [if_neg c3, if_neg (by omega)]
end Go.Ev
namespace Go.Ev
open Go Go.Proofs
variable {B : Nat}
theorem Hp.copyArrO {h0 h : T Blk} {nx : Pa} {L : List Ob} {K : AV → T Blk → Pa → OP} {z w : AV} {new : List AV} {c bytes : Nat} (H : Hp h0 h nx L) (hr : ∀ e h1 n1, Hp h0 h1 n1 (.arr e [] :: L) → ∀ (no : OP) (K' : List AV → Nat → OP), readSl w h1 no K' = K' new c) (hl : new.length = c) (hs : new.all scal = true) (hb : bytes * 1000000 ≤ 70368744177664) (hc : c ≤ 1000000)
    (hK : ∀ id cap h' nx', capLe c cap → Hp h0 h' nx' (.arr id new :: L) → K (.sl id 0 c cap 1) h' nx' = .ok True) :
    (sBslice 1 0 [z] [] h nx fun v1 h1 n1 => sApp 1 bytes v1 w h1 n1 K) = .ok True := by
  refine H.bslice (l := []) rfl fun e h1 n1 H1 => ?_
  unfold sApp appA
  rw [hr _ _ _ H1]
  have hcc : (Nat.ble (bytes * 1000000) 70368744177664 && Nat.beq new.length (c * 1) && Nat.ble 1 1 && new.all scal) = true := by
    simp only [Bool.and_eq_true, hs, and_true]
    exact ⟨⟨Nat.ble_eq_true_of_le hb, by rw [hl, Nat.mul_one]; exact Nat.beq_refl _⟩, rfl⟩
  rw [hcc, cond_true]
  obtain ⟨op, t, g1, g2⟩ : HasArr h1 e [] := H1.own _ (List.mem_cons_self ..)
  show (bif Nat.beq 1 1 && Nat.ble (0 + c) 1000000 then asCells (T.get .no e h1) _ (.no 35) else .no 36) = _
  rw [g1, Nat.ble_eq_true_of_le (by omega)]
  show (bif Nat.ble (0 + c) 0 then (bif Nat.ble (0 + (0 + c) * 1) 0 then appIn e 0 0 (some 0) 1 op 0 t new c h1 n1 _ else .no 32) else appNew 0 0 1 t new c h1 n1 _) = _
  by_cases hc0 : c = 0
  · subst hc0
    obtain rfl : new = [] := List.eq_nil_of_length_eq_zero hl
    rw [show Nat.ble (0 + 0) 0 = true from rfl, cond_true, cond_true]
    unfold appIn
    rw [wrListK_eq, T.setK_eq, natK_eq]
    exact hK e (some 0) _ _ (Nat.le_refl _) (H1.upd (k := 0) (x' := .arr e []) rfl (by simp [Ob.names]) rfl ⟨op, _, T.get_set_same _ _ _ _, rfl⟩)
  · rw [bleF (by omega), cond_false]
    unfold appNew
    rw [newCells_eq, natK_eq]
    rw [Nat.zero_add]
    have H2 : Hp h0 (T.set .no (.cells true new.length (wrList new .e 0)) n1 h1) n1.succ (.arr n1 new :: L) :=
      Hp.new (x := .arr n1 new) H1.drop rfl fun h' q => ⟨_, _, q, wrList_all new⟩
    exact hK n1 none _ _ trivial H2
theorem cloneO79 {h0 h : T Blk} {nx p id : Pa} {L : List Ob} {k n : Nat} {cap : Option Nat} {l : List AV} {K : Kw Prop} (H : Hp h0 h nx L) (hk : L[k]? = some (.arr id l)) (hs : l.all scal = true) (hn : n ≤ 1000000) (hl : l.length = n)
    (hK : ∀ id' cap' h' nx', capLe n cap' → Hp h0 h' nx' (.arr id' l :: L) → K (.sl id' 0 n cap' 1) h' nx' = .ok True) : (CS Tryz.prog B).fn 79 p [.sl id 0 n cap 1] h nx K = .ok True := by
  refine CS_fn_mono (p := .of 79) (K := K) (by_body tbl_ok dreg 9 fun hf => ?_) fun _ _ _ _ q => q
  rw [F79.go]
  have e : (sBin .eql (.nil .sl) (.sl id 0 n cap 1) .nils fun v1 => sCond v1 (K .nils h nx) (sBslice 1 0 [I 0] [] h nx fun v2 h3 n4 => sApp 1 8 v2 (.sl id 0 n cap 1) h3 n4 fun v5 h6 n7 => K v5 h6 n7)) =
      (sBslice 1 0 [I 0] [] h nx fun v2 h3 n4 => sApp 1 8 v2 (.sl id 0 n cap 1) h3 n4 fun v5 h6 n7 => K v5 h6 n7) := nr rfl
  rw [e]
  refine H.copyArrO (new := l) (c := n) (fun e h1 n1 H1 => HasArr.rd (H1.own _ (List.mem_cons_of_mem _ (List.mem_of_getElem? hk))) (by rw [hl, Nat.mul_one])) hl hs (by decide) hn fun id' cap' h' nx' q1 q2 => hK id' cap' h' nx' q1 q2
theorem reverse96 {h0 h : T Blk} {nx p id : Pa} {L : List Ob} {k n : Nat} {cap : Option Nat} {l : List Int} {K : Kw Prop} (H : Hp h0 h nx L) (hk : L[k]? = some (.arr id (l.map I))) (hn : n ≤ 1000000) (hl : l.length = n)
    (hK : ∀ h', Hp h0 h' nx (L.set k (.arr id (l.reverse.map I))) → K (.tup []) h' nx = .ok True) : (CS Tryz.prog B).fn 96 p [.sl id 0 n cap 1] h nx K = .ok True := by
  refine CS_fn_mono (p := .of 96) (K := K) (by_body tbl_ok dreg 10000000 fun hf => ?_) fun _ _ _ _ q => q
  rw [F96.go]
  have hkl := (List.getElem?_eq_some_iff.1 hk).1
  simp (disch := omega) only [sAdd, sSub, sMul, sEql, sNeq, sLss, sLeq, sGtr, sGeq, sPick_t, sPick_f, sCond_t, sCond_f, sG_tt, sG_ff, sG_tf, sG_ft, sNot_b, sExt0, sExt1, sExt2, sPart0, sPart1, sPart2, sLen_lst, sLen_sl, sLen_nils, sSame_refl, decide_true, decide_false, Bool.not_true, Bool.not_false, sChk_t]
  refine F96.L1 (fun m z1 z2 h' nx' => ∃ (i : Nat) (cur : List Int), z1 = I i ∧ z2 = I ((n : Int) - 1 - i) ∧ n - i = m ∧ i ≤ n ∧ Rv l cur i ∧ 2 * i ≤ n + 1 ∧ nx' = nx ∧ Hp h0 h' nx (L.set k (.arr id (cur.map I)))) (m := n) (by omega)
    ⟨0, l, rfl, by simp, by omega, by omega, .start l, by omega, rfl, H.cast (by rw [(getSplit hk).2]; exact (getSplit hk).1)⟩ ?_
  rintro m z1 z2 z3 h1 nx1 R ⟨i, cur, rfl, rfl, rfl, hi, hrv, h2i, rfl, H1⟩ hR
  have hcl : cur.length = n := by rw [hrv.1, hl]
  have hk1 : ∀ x : Ob, (L.set k x)[k]? = some x := fun x => by rw [List.getElem?_set_self hkl]
  simp (disch := omega) only [sAdd, sSub, sMul, sEql, sNeq, sLss, sLeq, sGtr, sGeq, sPick_t, sPick_f, sCond_t, sCond_f, sG_tt, sG_ff, sG_tf, sG_ft, sNot_b, sExt0, sExt1, sExt2, sPart0, sPart1, sPart2, sLen_lst, sLen_sl, sLen_nils, sSame_refl, decide_true, decide_false, Bool.not_true, Bool.not_false, sChk_t]
  by_cases hlt : 2 * i + 1 < n
  · simp only [show (i : Int) < (n : Int) - 1 - i by omega, decide_true, sCond_t]
    have hxi : cur[i]? = some cur[i] := List.getElem?_eq_getElem (by omega)
    have hxj : cur[n - 1 - i]? = some cur[n - 1 - i] := List.getElem?_eq_getElem (by omega)
    rw [sIx (i := n - 1 - i) (by omega) (by omega), H1.load (hk1 _) (getI hxj), sIx (i := i) rfl (by omega), H1.load (hk1 _) (getI hxi), sIx (i := i) rfl (by omega)]
    refine H1.store (hk1 _) (by simp; omega) rfl fun h2 H2 => ?_
    rw [List.set_set] at H2
    try simp only [sSame_refl]
    rw [sIx (i := n - 1 - i) (by omega) (by omega)]
    refine H2.store (hk1 _) (by simp; omega) rfl fun h3 H3 => ?_
    rw [List.set_set] at H3
    try rw [sAdd (by omega)]
    try rw [sSub (by omega)]
    refine hR _ _ _ _ _ _ (by omega) ⟨i + 1, (cur.set i cur[n - 1 - i]).set (n - 1 - i) cur[i], rfl, by congr 1; omega, rfl, by omega, hrv.step (by omega) (by omega) hxi hxj, by omega, rfl, H3.cast ?_⟩
    simp [List.map_set]
  · simp only [show ¬ (i : Int) < (n : Int) - 1 - i by omega, decide_false, sCond_f]
    obtain rfl := hrv.done (by omega)
    exact hK _ H1
theorem isNaN164 (x : Int) : Pure Tryz.prog B 164 [I x] (· = .bool false) := by
  intro p h nx K hK
  refine by_body tbl_ok dreg 9 fun hf => ?_
  rw [F164.go]
  simp only [sNeq, decide_true, Bool.not_true]
  exact hK _ rfl hf
theorem cmp130 (x y : Int) : Pure Tryz.prog B 130 [I x, I y] (· = I (if x < y then -1 else if x = y then 0 else 1)) := by
  intro p h nx K hK
  refine by_body tbl_ok dreg 9 fun hf => ?_
  rw [F130.go]
  refine isNaN164 x _ _ _ _ ?_
  rintro _ rfl _
  refine isNaN164 y _ _ _ _ ?_
  rintro _ rfl _
  simp only [sCond_f, sLss]
  by_cases c1 : x < y
  · simp only [c1, decide_true, sCond_t]
    exact hK _ (by rw [if_pos c1]) hf
  · simp only [c1, decide_false, sCond_f, sGtr]
    by_cases c2 : y < x
    · simp only [c2, decide_true, sCond_t]
      exact hK _ (by rw [if_neg c1, if_neg (by omega)]) hf
    · simp only [c2, decide_false, sCond_f]
      exact hK _ (by rw [if_neg c1, if_pos (by omega)]) hf
theorem compare92 {a b : List Int} (ha : a.length ≤ 1000000) (hb : b.length ≤ 1000000) : Pure Tryz.prog B 92 [encI a, encI b] (· = I (cmpL a b)) := by
  intro p h nx K hK
  refine by_body tbl_ok dreg 10000000 fun hf => ?_
  rw [F92.go]
  simp (disch := omega) only [sAdd, sSub, sMul, sEql, sNeq, sLss, sLeq, sGtr, sGeq, sPick_t, sPick_f, sCond_t, sCond_f, sG_tt, sG_ff, sG_tf, sG_ft, sNot_b, sExt0, sExt1, sExt2, sPart0, sPart1, sPart2, sLen_lst, sLen_sl, sLen_nils, sSame_refl, decide_true, decide_false, Bool.not_true, Bool.not_false, sChk_t]
  refine F92.L1 (fun m z9 h' nx' => ∃ i : Nat, z9 = I i ∧ a.length - i = m ∧ i ≤ a.length ∧ i ≤ b.length ∧ h' = h ∧ nx' = nx ∧ a.take i = b.take i) (m := a.length) (by omega) ⟨0, rfl, rfl, by omega, by omega, rfl, rfl, rfl⟩ ?_
  rintro m z2 z3 z4 z5 z6 z9 z10 z11 z12 _ _ R ⟨i, rfl, rfl, hi, hib, rfl, rfl, htk⟩ hR
  have hsk := lexLt_skip i a b htk hi hib
  simp (disch := omega) only [sAdd, sSub, sMul, sEql, sNeq, sLss, sLeq, sGtr, sGeq, sPick_t, sPick_f, sCond_t, sCond_f, sG_tt, sG_ff, sG_tf, sG_ft, sNot_b, sExt0, sExt1, sExt2, sPart0, sPart1, sPart2, sLen_lst, sLen_sl, sLen_nils, sSame_refl, decide_true, decide_false, Bool.not_true, Bool.not_false, sChk_t]
  by_cases hlt : i < a.length
  · simp only [show (i : Int) < (a.length : Int) by omega, decide_true, sCond_t]
    have hx : a[i]? = some a[i] := List.getElem?_eq_getElem hlt
    have hda : a.drop i = a[i] :: a.drop (i + 1) := List.drop_eq_getElem_cons hlt
    rw [sIxL rfl hlt, ldL (getI hx)]
    by_cases hb2 : b.length ≤ i
    · simp only [sLen_lst, sGeq, show (b.length : Int) ≤ (i : Int) by omega, decide_true, sCond_t]
      refine hK _ ?_ hf
      rw [hda, List.drop_of_length_le hb2, lexLt] at hsk
      rw [cmpL, hsk, if_neg (by simp), if_neg (by rintro rfl; omega)]
    · simp only [sLen_lst, sGeq, show ¬ (b.length : Int) ≤ (i : Int) by omega, decide_false, sCond_f]
      have hxb : b[i]? = some b[i] := List.getElem?_eq_getElem (by omega)
      have hdb : b.drop i = b[i] :: b.drop (i + 1) := List.drop_eq_getElem_cons (by omega)
      rw [sIxL rfl (by omega), ldL (getI hxb)]
      refine cmp130 _ _ _ _ _ _ ?_
      rintro _ rfl _
      rw [hda, hdb, lexLt] at hsk
      simp only [sNeq]
      by_cases c1 : a[i] = b[i]
      · have e0 : (if a[i] < b[i] then (-1 : Int) else if a[i] = b[i] then 0 else 1) = 0 := by rw [if_neg (by omega), if_pos c1]
        rw [e0]
        simp only [decide_true, Bool.not_true, sCond_f]
        try rw [sAdd (by omega)]
        refine hR _ _ _ _ _ _ _ _ _ _ _ _ (by omega) ⟨i + 1, rfl, rfl, by omega, by omega, rfl, rfl, ?_⟩
        rw [List.take_add_one, List.take_add_one, htk, hx, hxb, c1]
      · have e1 : ¬ (if a[i] < b[i] then (-1 : Int) else if a[i] = b[i] then 0 else 1) = 0 := by
          by_cases c : a[i] < b[i]
          · rw [if_pos c]; omega
          · rw [if_neg c, if_neg c1]; omega
        simp only [e1, decide_false, Bool.not_false, sCond_t]
        refine hK _ ?_ hf
        rw [if_neg c1] at hsk
        rw [cmpL, hsk]
        by_cases c : a[i] < b[i]
        · simp [c]
        · rw [if_neg c, if_neg c1, if_neg (by simp [c]), if_neg (by rintro rfl; exact c1 rfl)]
  · simp only [show ¬ (i : Int) < (a.length : Int) by omega, decide_false, sCond_f]
    rw [F92.k9]
    simp (disch := omega) only [sAdd, sSub, sMul, sEql, sNeq, sLss, sLeq, sGtr, sGeq, sPick_t, sPick_f, sCond_t, sCond_f, sG_tt, sG_ff, sG_tf, sG_ft, sNot_b, sExt0, sExt1, sExt2, sPart0, sPart1, sPart2, sLen_lst, sLen_sl, sLen_nils, sSame_refl, decide_true, decide_false, Bool.not_true, Bool.not_false, sChk_t]
    rw [List.drop_of_length_le (show a.length ≤ i by omega)] at hsk
    by_cases c : a.length < b.length
    · simp only [show (a.length : Int) < (b.length : Int) by omega, decide_true, sCond_t]
      refine hK _ ?_ hf
      have hd : b.drop i = b[i] :: b.drop (i + 1) := List.drop_eq_getElem_cons (by omega)
      rw [hd, lexLt] at hsk
      rw [cmpL, hsk, if_pos rfl]
    · simp only [show ¬ (a.length : Int) < (b.length : Int) by omega, decide_false, sCond_f]
      refine hK _ ?_ hf
      rw [List.drop_of_length_le (show b.length ≤ i by omega), lexLt] at hsk
      have : a = b := by
        rw [List.take_of_length_le (by omega), List.take_of_length_le (by omega)] at htk
        exact htk
      rw [cmpL, hsk, if_neg (by simp), if_pos this]
end Go.Ev
namespace Go.Ev
open Go Go.Proofs
variable {B : Nat}
def outR (x : Int) : Bool := decide (x < -999999999) || decide (999999999 < x)
theorem outside94 {l : List Int} (hl : l.length ≤ 1000000) : Pure Tryz.prog B 94 [encI l] (· = .bool (l.any outR)) := by
  intro p h nx K hK
  refine by_body tbl_ok dreg 1000 fun hf => ?_
  rw [F94.go]
  refine contF131 (pr := outR) hl (fun x _ K hK => ?_) (hK _ rfl hf)
  refine CS_fn_mono (p := .of 132) (K := K) (by_body tbl_ok dreg 9 fun hf => ?_) fun _ _ _ _ q => q
  show callFn tbl 9 _ (Pa.of 132) [I x] _ _ _ = _
  rw [F132.go]
  unfold outR at hK
  by_cases c : x < -999999999
  · simp only [sLss, c, decide_true, sG_tf, sPick_t]
    simpa [c] using hK
  · simp only [sLss, c, decide_false, sG_ff, sGtr, sPick_f]
    simpa [c] using hK
def fillErr (cells : Int) (f : List Int) : Int := if (f.length : Int) ≠ cells then 2 else if f.any outR then 3 else 0
theorem isNormal38 {f : List Int} (hl : f.length ≤ 100000) : Pure Tryz.prog B 38 [encI f] (· = .bool (decide (srt f = upTo f.length))) := by
  intro p h nx K hK
  refine by_body tbl_ok dreg 10000000 fun hf => ?_
  rw [F38.go]
  refine sorted85 hl _ _ _ _ ?_
  rintro _ rfl _
  have hlen := srt_length f
  have hul : (upTo f.length).length = f.length := by simp
  refine F38.L1 (fun m z3 h' nx' => ∃ i : Nat, z3 = I i ∧ f.length - i = m ∧ i ≤ f.length ∧ h' = h ∧ nx' = nx ∧ (srt f).take i = (upTo f.length).take i) (m := f.length) (by omega) ⟨0, rfl, rfl, by omega, rfl, rfl, rfl⟩ ?_
  rintro m z1 z3 z4 z5 _ _ R ⟨i, rfl, rfl, hi, rfl, rfl, htk⟩ hR
  simp only [sLen_lst, sLss]
  by_cases hlt : i < f.length
  · simp only [show (i : Int) < ((srt f).length : Int) by omega, decide_true, sCond_t]
    have hx : (srt f)[i]? = some (srt f)[i] := List.getElem?_eq_getElem (by omega)
    have hu : (upTo f.length)[i]? = some ((i : Int) + 1) := by simp [List.getElem?_map, hlt]
    rw [sIxL rfl (by omega), ldL (getI hx), sAdd (by omega)]
    simp only [sNeq]
    by_cases c : (srt f)[i] = (i : Int) + 1
    · simp only [c, decide_true, Bool.not_true, sCond_f]
      try rw [sAdd (by omega)]
      refine hR _ _ _ _ _ _ _ (by omega) ⟨i + 1, rfl, rfl, by omega, rfl, rfl, ?_⟩
      rw [List.take_add_one, List.take_add_one, htk, hx, hu, c]
    · simp only [c, decide_false, Bool.not_false, sCond_t]
      refine hK _ ?_ hf
      rw [decide_eq_false]
      intro q
      have h9 : (srt f)[i]? = some ((i : Int) + 1) := by rw [q]; exact hu
      rw [hx] at h9
      exact c (Option.some.inj h9)
  · simp only [show ¬ (i : Int) < ((srt f).length : Int) by omega, decide_false, sCond_f]
    rw [F38.k8]
    rw [List.take_of_length_le (by omega), List.take_of_length_le (by omega)] at htk
    exact hK _ (by rw [decide_eq_true htk]) hf
theorem zip_take {f d : List Int} {i : Nat} (h1 : i < f.length) (h2 : i < d.length) : (f.zip d).take (i + 1) = (f.zip d).take i ++ [(f[i], d[i])] := by
  rw [List.take_add_one, List.getElem?_eq_getElem (by simp; omega)]
  simp
theorem fixdI {l : List Int} : ∀ v ∈ l.map I, fixd v = true := fun v hv => by obtain ⟨x, _, rfl⟩ := List.mem_map.1 hv; rfl
theorem frzOwn {h0 h : T Blk} {nx id : Pa} {L : List Ob} {k n : Nat} {cap : Option Nat} {l : List Int} (H : Hp h0 h nx L) (hk : L[k]? = some (.arr id (l.map I))) (hl : l.length = n) (hcap : capLe n cap) : FrzN .e h (.sl id 0 n cap 1) (encI l) := by
  subst hl
  exact HasArr.frz (H.own _ (List.mem_of_getElem? hk)) (T.get_e _ id) hcap (by simp) fixdI
end Go.Ev
namespace Go.Ev
open Go Go.Proofs
variable {B : Nat}
theorem Hp.addGro {h0 h : T Blk} {nx : Pa} {L : List Ob} (H : Hp h0 h nx L) (e : Nat) : Hp h0 h nx (.gro none e 0 [] :: L) :=
  ⟨H.keep, fun x hx => by rcases List.mem_cons.1 hx with rfl | q; · exact ⟨rfl, rfl⟩
                          · exact H.own x q, fun n hn => H.off n (by simpa [Ob.names] using hn), by have := H.nd; simpa [Ob.names] using this, H.fr⟩
end Go.Ev
namespace Go.Ev
open Go Go.Proofs
variable {B : Nat}
theorem gW_tf (op : KW3 → OP) (h : T Blk) (nx : Pa) (k : KW3) : sGW (.bool true) false op h nx k = k .undef h nx := nr rfl
theorem gW_ff (op : KW3 → OP) (h : T Blk) (nx : Pa) (k : KW3) : sGW (.bool false) false op h nx k = op k := nr rfl
theorem gW_tt (op : KW3 → OP) (h : T Blk) (nx : Pa) (k : KW3) : sGW (.bool true) true op h nx k = op k := nr rfl
theorem gW_ft (op : KW3 → OP) (h : T Blk) (nx : Pa) (k : KW3) : sGW (.bool false) true op h nx k = k .undef h nx := nr rfl
theorem few44 {cells a b : Int} {lines : List (List Int)} (ha : a ≤ 1000) (hb : b ≤ 1000000) : Pure Tryz.prog B 44 [.agg [I cells, encT lines], I a, I b] (· = .bool (decide (((lines.length : Int) ≤ b ∧ ∀ l ∈ lines, (l.length : Int) ≤ a) ∧ sysErr cells lines = 0 ∧ cells ≤ a))) := by
  refine pure_hp fun h nx K H0 hK => by_body tbl_ok dreg 1000 fun hf => ?_
  rw [F44.go]
  refine H0.box (l := [I cells, encT lines]) rfl fun bx h1 nx1 H1 => ?_
  rw [H1.loadN (k := 0) (n := 2) rfl rfl]
  refine short25 hb _ _ _ _ ?_
  rintro _ rfl _
  have ret : ∀ b', b' = decide (((lines.length : Int) ≤ b ∧ ∀ l ∈ lines, (l.length : Int) ≤ a) ∧ sysErr cells lines = 0 ∧ cells ≤ a) → K (.bool b') h1 nx1 = .ok True := fun b' hb' => hK _ _ _ _ _ H1 (frz_fixd rfl) (by rw [hb'])
  by_cases hsh : (lines.length : Int) ≤ b ∧ ∀ l ∈ lines, (l.length : Int) ≤ a
  case neg =>
    rw [decide_eq_false hsh]
    simp only [sG_ft, gW_ft, sPick_f]
    exact ret _ (by simp [hsh])
  rw [decide_eq_true hsh]
  have hw : ∀ q ∈ lines, q.length ≤ 1000000 := fun q hq => by have := hsh.2 q hq; omega
  simp only [sG_tt, gW_tt]
  rw [H1.loadN (k := 0) (n := 2) rfl rfl]
  refine sysErr27 hw _ _ _ _ ?_
  rintro _ rfl _
  simp only [sEql, sPick_t]
  by_cases hs : sysErr cells lines = 0
  case neg =>
    simp only [hs, decide_false, sG_ft, sPick_f]
    exact ret _ (by simp [hs])
  simp only [hs, decide_true, sG_tt, sFx]
  rw [H1.load (k := 0) (i := 0) rfl rfl]
  simp only [sLeq, sPick_t]
  exact ret _ (decide_eq_decide.2 ⟨fun q => ⟨hsh, hs, q⟩, fun q => q.2.2⟩)
theorem cells104 (n : Int) : Pure Tryz.prog B 104 [I n] (· = I (if n < 0 ∨ 256 < n then 3 else 0)) := by
  intro p h nx K hK
  refine by_body tbl_ok dreg 10 fun hf => ?_
  rw [F104.go]
  simp only [sLss]
  by_cases c : n < 0
  · simp only [c, decide_true, sG_tf, sPick_t, sCond_t]
    exact hK _ (by rw [if_pos (.inl c)]) hf
  · simp only [c, decide_false, sG_ff, sGtr, sPick_f]
    by_cases c2 : 256 < n
    · simp only [c2, decide_true, sCond_t]
      exact hK _ (by rw [if_pos (.inr c2)]) hf
    · simp only [c2, decide_false, sCond_f]
      exact hK _ (by rw [if_neg (by omega)]) hf
def PermL (l : List Int) : Prop := l.Nodup ∧ ∀ x ∈ l, 0 ≤ x ∧ x < (l.length : Int)
def hadL (n : Nat) (l : List Int) : List Bool := l.foldl (fun s x => s.set x.toNat true) (List.replicate n false)
theorem had_fold : ∀ (l : List Int) (s : List Bool) (k : Nat), (∀ x ∈ l, 0 ≤ x) → k < s.length → (l.foldl (fun s x => s.set x.toNat true) s)[k]? = some (s.getD k false || decide ((k : Int) ∈ l))
  | [], s, k, _, h => by
    rw [List.foldl_nil, List.getElem?_eq_getElem h, List.getD_eq_getElem?_getD, List.getElem?_eq_getElem h]; simp
  | x :: l, s, k, hl, h => by
    rw [List.foldl_cons, had_fold l _ k (fun y hy => hl y (List.mem_cons_of_mem _ hy)) (by simpa using h)]
    have h0 := hl x (List.mem_cons_self ..)
    congr 1
    rw [List.getD_eq_getElem?_getD, List.getD_eq_getElem?_getD, List.getElem?_set]
    by_cases e : x.toNat = k
    · have : (k : Int) = x := by omega
      rw [if_pos e, if_pos (by omega)]
      simp [this]
    · have : ¬ (k : Int) = x := by omega
      rw [if_neg e]
      simp [this]
theorem hadL_length (n : Nat) (l : List Int) : (hadL n l).length = n := by
  have : ∀ (l : List Int) (s : List Bool), (l.foldl (fun s x => s.set x.toNat true) s).length = s.length := by
    intro l
    induction l with
    | nil => intro s; rfl
    | cons x l ih => intro s; rw [List.foldl_cons, ih]; simp
  rw [hadL, this]; simp
theorem hadL_get {n : Nat} {l : List Int} {k : Nat} (hl : ∀ x ∈ l, 0 ≤ x) (hk : k < n) : (hadL n l)[k]? = some (decide ((k : Int) ∈ l)) := by
  rw [hadL, had_fold l _ k hl (by simpa using hk)]
  congr 1
  rw [List.getD_eq_getElem?_getD, List.getElem?_replicate, if_pos hk]; simp
theorem hadL_snoc (n : Nat) (l : List Int) (x : Int) : hadL n (l ++ [x]) = (hadL n l).set x.toNat true := by simp [hadL]
theorem perm45 {l : List Int} (hl : l.length ≤ 100000) : Pure Tryz.prog B 45 [encI l] (fun v => ∃ e, v = I e ∧ (e = 0 → PermL l)) := by
  refine pure_hp fun h nx K H0 hK => by_body tbl_ok dreg 1000000 fun hf => ?_
  rw [F45.go]
  simp only [sLen_lst, sGtr]
  by_cases c : (256 : Int) < (l.length : Int)
  · simp only [c, decide_true, sCond_t]
    exact hK _ _ _ _ _ H0 (frz_fixd rfl) ⟨5, rfl, by omega⟩
  simp only [c, decide_false, sCond_f]
  refine H0.mk1 l.length rfl rfl (by omega) (by decide) fun tb h1 nx1 H1 => ?_
  have e0 : List.replicate l.length (AV.bool false) = (hadL l.length []).map AV.bool := by simp [hadL]
  rw [e0] at H1
  refine F45.L2 (fun m x3 h' nx' => ∃ i : Nat, x3 = I i ∧ m = l.length - i ∧ i ≤ l.length ∧ (l.take i).Nodup ∧ (∀ x ∈ l.take i, 0 ≤ x ∧ x < (l.length : Int)) ∧ Hp h h' nx' [.arr tb ((hadL l.length (l.take i)).map AV.bool)]) (m := l.length) (by omega)
    ⟨0, rfl, by omega, by omega, by simp, by simp, by simpa using H1⟩ ?_
  rintro m x1 x3 x5 x6 h2 nx2 R ⟨i, rfl, rfl, hi, hnd, hrg, H2⟩ hR
  simp only [sLen_lst, sLss]
  by_cases hlt : i < l.length
  case neg =>
    simp only [show ¬ (i : Int) < (l.length : Int) by omega, decide_false, sCond_f]
    rw [F45.k10]
    rw [List.take_of_length_le (by omega)] at hnd hrg
    exact hK _ _ _ _ _ H2 (frz_fixd rfl) ⟨0, rfl, fun _ => ⟨hnd, hrg⟩⟩
  simp only [show (i : Int) < (l.length : Int) by omega, decide_true, sCond_t]
  have hx : l[i]? = some l[i] := List.getElem?_eq_getElem hlt
  have bad : K (I 14) h2 nx2 = .ok True := hK _ _ _ _ _ H2 (frz_fixd rfl) ⟨14, rfl, by omega⟩
  rw [sIxL rfl hlt, ldL (getI hx)]
  by_cases c1 : l[i] < 0
  · simp only [sLss, c1, decide_true, sG_tf, sPick_t, sCond_t]
    exact bad
  simp only [sLss, c1, decide_false, sG_ff]
  rw [sIxL rfl hlt, ldL (getI hx)]
  simp only [sLen_lst, sGeq, sPick_f]
  by_cases c2 : (l.length : Int) ≤ l[i]
  · simp only [c2, decide_true, sG_tf, sPick_t, sCond_t]
    exact bad
  simp only [c2, decide_false, sG_ff]
  have hk : (l[i]).toNat < l.length := by omega
  have hg := hadL_get (n := l.length) (fun x hx => (hrg x hx).1) hk
  rw [show (((l[i]).toNat : Nat) : Int) = l[i] by omega] at hg
  have hgv : ((hadL l.length (l.take i)).map AV.bool)[(l[i]).toNat]? = some (.bool (decide (l[i] ∈ l.take i))) := by rw [List.getElem?_map, hg]; rfl
  rw [sIxL rfl hlt, ldL (getI hx), sIx (i := (l[i]).toNat) (by omega) hk, H2.load (k := 0) rfl hgv]
  simp only [sPick_f]
  by_cases c3 : l[i] ∈ l.take i
  · simp only [c3, decide_true, sCond_t]
    exact bad
  simp only [c3, decide_false, sCond_f]
  rw [F45.k8, sIxL rfl hlt, ldL (getI hx), sIx (i := (l[i]).toNat) (by omega) hk]
  refine H2.store (k := 0) rfl (by rw [List.length_map, hadL_length]; exact hk) rfl fun h3 H3 => ?_
  rw [F45.k9, sAdd (by omega)]
  have htk : l.take (i + 1) = l.take i ++ [l[i]] := by rw [List.take_add_one, hx]; rfl
  refine hR _ _ _ _ _ _ _ (by omega) ⟨i + 1, rfl, rfl, by omega, ?_, ?_, H3.cast ?_⟩
  · rw [htk]
    exact List.nodup_append.2 ⟨hnd, by simp, fun a ha b hb => by simp at hb; subst hb; rintro rfl; exact c3 ha⟩
  · intro x hm
    rw [htk] at hm
    rcases List.mem_append.1 hm with q | q
    · exact hrg x q
    · simp at q; subst q; omega
  · rw [htk, hadL_snoc]
    simp [List.map_set]
theorem sym47 {g : List Int} {c : Bool} {n : Int} : Pure Tryz.prog B 47 [.agg [encI g, .bool c], I n] (fun v => ∃ e, v = I e ∧ (e = 0 → (g.length : Int) = n ∧ PermL g)) := by
  refine pure_hp fun h nx K H0 hK => by_body tbl_ok dreg 1000 fun hf => ?_
  rw [F47.go]
  refine H0.box (l := [encI g, .bool c]) rfl fun bx h1 nx1 H1 => ?_
  refine cells104 n _ _ _ _ ?_
  rintro _ rfl _
  simp only [sNeq]
  by_cases c1 : n < 0 ∨ 256 < n
  · simp only [if_pos c1]
    exact hK _ _ _ _ _ H1 (frz_fixd rfl) ⟨3, rfl, by omega⟩
  simp only [if_neg c1, decide_true, Bool.not_true, sCond_f, sFx]
  rw [H1.load (k := 0) (i := 0) rfl rfl]
  simp only [sLen_lst, sNeq]
  by_cases c2 : (g.length : Int) = n
  case neg =>
    simp only [c2, decide_false, Bool.not_false, sCond_t]
    exact hK _ _ _ _ _ H1 (frz_fixd rfl) ⟨2, rfl, by omega⟩
  simp only [c2, decide_true, Bool.not_true, sCond_f]
  rw [H1.load (k := 0) (i := 0) rfl rfl]
  refine perm45 (by omega) _ _ _ _ ?_
  rintro _ ⟨e, rfl, he⟩ _
  exact hK _ _ _ _ _ H1 (frz_fixd rfl) ⟨e, rfl, fun q => ⟨c2, he q⟩⟩
def xOf (n : Nat) (c : Bool) (x : Int) : Int := if c then (n : Int) + 1 - x else x
def applyP (n : Nat) (c : Bool) (g f : List Int) (i : Nat) : List Int := (List.range i).foldl (fun o k => o.set (g.getD k 0).toNat (xOf n c (f.getD k 0))) (List.replicate n 0)
theorem applyP_succ (n : Nat) (c : Bool) (g f : List Int) (i : Nat) : applyP n c g f (i + 1) = (applyP n c g f i).set (g.getD i 0).toNat (xOf n c (f.getD i 0)) := by
  simp [applyP, List.range_succ]
theorem applyP_length (n : Nat) (c : Bool) (g f : List Int) : ∀ i, (applyP n c g f i).length = n
  | 0 => by simp [applyP]
  | i + 1 => by rw [applyP_succ]; simp [applyP_length n c g f i]
def applyS (c : Bool) (g f : List Int) : List Int := applyP f.length c g f f.length
theorem apply49 {g f : List Int} {c : Bool} (hl : f.length ≤ 1000) (hg : g.length = f.length) (hp : PermL g) (hf : ∀ x ∈ f, -1000000000 ≤ x ∧ x ≤ 1000000000) : Pure Tryz.prog B 49 [.agg [encI g, .bool c], encI f] (· = encI (applyS c g f)) := by
  refine pure_hp fun h nx K H0 hK => by_body tbl_ok dreg 10000 fun hf' => ?_
  rw [F49.go]
  refine H0.box (l := [encI g, .bool c]) rfl fun bx h1 nx1 H1 => ?_
  simp only [sLen_lst]
  refine H1.mk1 f.length rfl rfl (by omega) (by decide) fun tb h2 nx2 H2 => ?_
  have e0 : List.replicate f.length (I 0) = (applyP f.length c g f 0).map I := by simp [applyP]
  rw [e0] at H2
  refine F49.L1 (fun m x5 h' nx' => ∃ i : Nat, x5 = I i ∧ m = f.length - i ∧ i ≤ f.length ∧ Hp h h' nx' [.arr tb ((applyP f.length c g f i).map I), .arr bx [encI g, .bool c]]) (m := f.length) (by omega)
    ⟨0, rfl, by omega, by omega, H2⟩ ?_
  rintro m x5 x6 x7 x8 h3 nx3 R ⟨i, rfl, rfl, hi, H3⟩ hR
  simp only [sLen_lst, sLss]
  by_cases hlt : i < f.length
  case neg =>
    simp only [show ¬ (i : Int) < (f.length : Int) by omega, decide_false, sCond_f]
    rw [F49.k9]
    obtain rfl : i = f.length := by omega
    have hal := applyP_length f.length c g f f.length
    refine hK _ _ _ _ _ H3 (H3.frzArr (k := 0) rfl (Nat.le_refl _) (by simp [hal]) fixdI) ?_
    show _ = AV.lst 1 _ _
    rw [applyS, hal]
  simp only [show (i : Int) < (f.length : Int) by omega, decide_true, sCond_t]
  have hx : f[i]? = some f[i] := List.getElem?_eq_getElem hlt
  have hgx : g[i]? = some g[i] := List.getElem?_eq_getElem (by omega)
  have hgb := hp.2 _ (List.getElem_mem (show i < g.length by omega))
  have hfb := hf _ (List.getElem_mem hlt)
  have hfd : f.getD i 0 = f[i] := by rw [List.getD_eq_getElem?_getD, hx]; rfl
  have hgd : g.getD i 0 = g[i] := by rw [List.getD_eq_getElem?_getD, hgx]; rfl
  rw [sIxL rfl hlt, ldL (getI hx), sFx, H3.load (k := 1) (i := 0 + 1) rfl rfl]
  cases c with
  | true =>
    simp only [sCond_t]
    rw [sAdd (by omega), sSub (by omega), sFx, H3.load (k := 1) (i := 0) rfl rfl, sIxL rfl (by omega), ldL (getI hgx), sIx (i := (g[i]).toNat) (by omega) (by omega)]
    refine H3.store (k := 0) rfl (by rw [List.length_map, applyP_length]; omega) rfl fun h4 H4 => ?_
    rw [sAdd (by omega)]
    refine hR _ _ _ _ _ _ _ (by omega) ⟨i + 1, rfl, rfl, by omega, H4.cast ?_⟩
    rw [applyP_succ, hfd, hgd]
    simp [List.map_set, xOf]
  | false =>
    simp only [sCond_f]
    rw [sFx, H3.load (k := 1) (i := 0) rfl rfl, sIxL rfl (by omega), ldL (getI hgx), sIx (i := (g[i]).toNat) (by omega) (by omega)]
    refine H3.store (k := 0) rfl (by rw [List.length_map, applyP_length]; omega) rfl fun h4 H4 => ?_
    rw [sAdd (by omega)]
    refine hR _ _ _ _ _ _ _ (by omega) ⟨i + 1, rfl, rfl, by omega, H4.cast ?_⟩
    rw [applyP_succ, hfd, hgd]
    simp [List.map_set, xOf]
theorem comp50 {f : List Int} (h0 : 0 < f.length) (hl : f.length ≤ 1000) (hf : ∀ x ∈ f, -1000000000 ≤ x ∧ x ≤ 1000000000) : Pure Tryz.prog B 50 [encI f] (· = encI (f.map fun x => (f.length : Int) + 1 - x)) := by
  refine pure_hp fun h nx K H0 hK => by_body tbl_ok dreg 10000 fun hf' => ?_
  rw [F50.go]
  refine F50.L1 (fun m x2 x3 h' nx' => ∃ (i : Nat) (o : Option Pa), x3 = I i ∧ x2 = rowV o 1 i ∧ m = f.length - i ∧ i ≤ f.length ∧ Hp h h' nx' [.gro o 1 i (((f.take i).map fun x => (f.length : Int) + 1 - x).map I)]) (m := f.length) (by omega)
    ⟨0, none, rfl, rfl, by omega, by omega, by simpa using H0.addGro 1⟩ ?_
  rintro m x2 x3 x4 h3 nx3 R ⟨i, o, rfl, rfl, rfl, hi, H3⟩ hR
  simp only [sLen_lst, sLss]
  by_cases hlt : i < f.length
  case neg =>
    simp only [show ¬ (i : Int) < (f.length : Int) by omega, decide_false, sCond_f]
    rw [F50.k8]
    obtain rfl : i = f.length := by omega
    refine hK _ _ _ _ _ H3 (H3.frzGro (k := 0) rfl fixdI) ?_
    show _ = AV.lst 1 _ _
    simp
  simp only [show (i : Int) < (f.length : Int) by omega, decide_true, sCond_t]
  have hx : f[i]? = some f[i] := List.getElem?_eq_getElem hlt
  have hfb := hf _ (List.getElem_mem hlt)
  rw [sAdd (by omega), sIxL rfl hlt, ldL (getI hx), sSub (by omega)]
  refine H3.bslice (l := [I ((f.length : Int) + 1 - f[i])]) rfl fun b h4 nx4 H4 => ?_
  refine H4.appN (k := 1) (c := 1) (new := [I ((f.length : Int) + 1 - f[i])]) rfl (HasArr.rd (H4.own _ (List.mem_cons_self ..)) rfl) rfl rfl (by omega) (by decide) (by omega) fun o' h5 nx5 _ H5 => ?_
  rw [sAdd (by omega)]
  refine hR _ _ _ _ _ _ (by omega) ⟨i + 1, o', rfl, rfl, rfl, by omega, (Hp.drop H5).cast ?_⟩
  have htk : f.take (i + 1) = f.take i ++ [f[i]] := by rw [List.take_add_one, hx]; rfl
  rw [htk, List.map_append, List.map_append]
  rfl
end Go.Ev
namespace Go.Ev
theorem sub_permG {α : Type} [DecidableEq α] : ∀ (l r : List α), l.Nodup → (∀ x ∈ l, x ∈ r) → ∃ s, r.Perm (l ++ s)
  | [], r, _, _ => ⟨r, .refl _⟩
  | a :: l, r, hn, hs => by
    obtain ⟨h1, h2⟩ := List.nodup_cons.1 hn
    have ha := hs a (by simp)
    obtain ⟨s, hp⟩ := sub_permG l (r.erase a) h2 fun x hx => (List.mem_erase_of_ne (by rintro rfl; exact h1 hx)).2 (hs x (by simp [hx]))
    exact ⟨s, (List.perm_cons_erase ha).trans (.cons a hp)⟩
theorem perm_of_sub {α : Type} [DecidableEq α] {l r : List α} (h1 : l.Nodup) (h2 : ∀ x ∈ l, x ∈ r) (h3 : r.length ≤ l.length) : r.Perm l := by
  obtain ⟨s, hs⟩ := sub_permG l r h1 h2
  have hl := hs.length_eq
  obtain rfl : s = [] := List.eq_nil_of_length_eq_zero (by rw [List.length_append] at hl; omega)
  simpa using hs
theorem nodup_get {α : Type} {l : List α} (h : l.Nodup) {i j : Nat} {x : α} (hi : l[i]? = some x) (hj : l[j]? = some x) : i = j := by
  obtain ⟨a1, a2⟩ := List.getElem?_eq_some_iff.1 hi
  obtain ⟨b1, b2⟩ := List.getElem?_eq_some_iff.1 hj
  have hp := List.pairwise_iff_getElem.1 h
  rcases Nat.lt_trichotomy i j with c | c | c
  · exact absurd (a2.trans b2.symm) (hp i j a1 b1 c)
  · exact c
  · exact absurd (b2.trans a2.symm) (hp j i b1 a1 c)
theorem getD_some {l : List Int} {i : Nat} (h : i < l.length) : l[i]? = some (l.getD i 0) := by
  rw [List.getD_eq_getElem?_getD, List.getElem?_eq_getElem h]; rfl
theorem PermL.surj {g : List Int} (h : PermL g) {j : Nat} (hj : j < g.length) : ∃ i, i < g.length ∧ g[i]? = some (j : Int) := by
  have hp : ((List.range g.length).map fun (i : Nat) => (i : Int)).Perm g := perm_of_sub h.1 (fun x hx => by
    have := h.2 x hx
    exact List.mem_map.2 ⟨x.toNat, List.mem_range.2 (by omega), by omega⟩) (by simp)
  have hm : (j : Int) ∈ g := hp.mem_iff.1 (List.mem_map.2 ⟨j, List.mem_range.2 hj, rfl⟩)
  obtain ⟨i, hi⟩ := List.mem_iff_getElem?.1 hm
  exact ⟨i, (List.getElem?_eq_some_iff.1 hi).1, hi⟩
theorem applyP_get {n : Nat} {c : Bool} {g f : List Int} (hg : PermL g) (hgn : g.length = n) : ∀ (i k : Nat), i ≤ n → k < i → (applyP n c g f i)[(g.getD k 0).toNat]? = some (xOf n c (f.getD k 0))
  | 0, k, _, h => by omega
  | i + 1, k, hi, h => by
    rw [applyP_succ]
    have hk := hg.2 _ (List.mem_of_getElem? (getD_some (l := g) (i := k) (by omega)))
    have hi' := hg.2 _ (List.mem_of_getElem? (getD_some (l := g) (i := i) (by omega)))
    by_cases e : k = i
    · subst e
      rw [List.getElem?_set, if_pos rfl, if_pos (by rw [applyP_length]; omega)]
    · rw [List.getElem?_set_ne, applyP_get hg hgn i k (by omega) (by omega)]
      intro q
      have e1 : g.getD i 0 = g.getD k 0 := by omega
      have := nodup_get hg.1 (getD_some (l := g) (i := i) (by omega)) (e1 ▸ getD_some (l := g) (i := k) (by omega))
      omega
theorem applyS_get {c : Bool} {g f : List Int} (hg : PermL g) (hgn : g.length = f.length) {k : Nat} (h : k < f.length) : (applyS c g f)[(g.getD k 0).toNat]? = some (xOf f.length c (f.getD k 0)) := applyP_get hg hgn _ k (Nat.le_refl _) h
theorem applyS_length (c : Bool) (g f : List Int) : (applyS c g f).length = f.length := applyP_length _ _ _ _ _
theorem xOf_inj {n : Nat} {c : Bool} {x y : Int} (h : xOf n c x = xOf n c y) : x = y := by
  unfold xOf at h; cases c
  · simpa using h
  · simp only [if_true] at h; omega
theorem applyS_nrm {c : Bool} {g f : List Int} (hg : PermL g) (hgn : g.length = f.length) (hf : Nrm f) : Nrm (applyS c g f) := by
  have hl := applyS_length c g f
  have key : ∀ j, j < f.length → ∃ i, i < f.length ∧ g.getD i 0 = (j : Int) ∧ (applyS c g f)[j]? = some (xOf f.length c (f.getD i 0)) := by
    intro j hj
    obtain ⟨i, hi, hgi⟩ := hg.surj (j := j) (by omega)
    have hgd : g.getD i 0 = (j : Int) := by rw [List.getD_eq_getElem?_getD, hgi]; rfl
    have := applyS_get (c := c) hg hgn (k := i) (by omega)
    rw [hgd, Int.toNat_natCast] at this
    exact ⟨i, by omega, hgd, this⟩
  refine ⟨List.pairwise_iff_getElem.2 fun i j hi hj hij q => ?_, fun x hx => ?_⟩
  · obtain ⟨a, a1, a2, a3⟩ := key i (by omega)
    obtain ⟨b, b1, b2, b3⟩ := key j (by omega)
    rw [List.getElem?_eq_getElem hi] at a3
    rw [List.getElem?_eq_getElem hj] at b3
    have e1 := xOf_inj ((Option.some.inj a3).symm.trans (q.trans (Option.some.inj b3)))
    have := nodup_get hf.1 (getD_some a1) (e1 ▸ getD_some b1)
    subst this
    omega
  · obtain ⟨j, hj⟩ := List.mem_iff_getElem?.1 hx
    obtain ⟨i, i1, i2, i3⟩ := key j (by have := (List.getElem?_eq_some_iff.1 hj).1; omega)
    have e1 := Option.some.inj (hj.symm.trans i3)
    have := hf.2 _ (List.mem_of_getElem? (getD_some i1))
    rw [hl]
    subst e1
    unfold xOf; cases c
    · simpa using this
    · simp only [if_true]; omega
def IsUp (n : Nat) (f d u : List Int) : Prop := u.length = n ∧ ∀ i, i < n → u[(f.getD i 0 - 1).toNat]? = some (d.getD i 0)
theorem upS_get {n : Nat} {f d : List Int} (hf : Nrm f) (hn : f.length = n) (hd : d.length = n) : ∀ (i k : Nat), i ≤ n → k < i → (((f.zip d).take i).foldl putN (List.replicate n 0))[(f.getD k 0 - 1).toNat]? = some (d.getD k 0)
  | 0, k, _, h => by omega
  | i + 1, k, hi, h => by
    have hi1 : i < f.length := by omega
    have hfi : f.getD i 0 = f[i] := Option.some.inj ((getD_some hi1).symm.trans (List.getElem?_eq_getElem hi1))
    have hdi : d.getD i 0 = d[i] := Option.some.inj ((getD_some (by omega)).symm.trans (List.getElem?_eq_getElem (by omega)))
    have hk := hf.2 _ (List.mem_of_getElem? (getD_some (l := f) (i := k) (by omega)))
    have hi' := hf.2 _ (List.mem_of_getElem? (getD_some hi1))
    rw [zip_take hi1 (by omega), List.foldl_append, List.foldl_cons, List.foldl_nil, putN, ← hfi, ← hdi]
    by_cases e : k = i
    · subst e
      rw [List.getElem?_set, if_pos rfl, if_pos (by rw [foldl_putK_len, List.length_replicate]; omega)]
    · rw [List.getElem?_set_ne, upS_get hf hn hd i k (by omega) (by omega)]
      intro q
      have e1 : f.getD i 0 = f.getD k 0 := by omega
      have := nodup_get hf.1 (getD_some hi1) (e1 ▸ getD_some (l := f) (i := k) (by omega))
      omega
theorem upS_is {n : Nat} {f d : List Int} (hf : Nrm f) (hn : f.length = n) (hd : d.length = n) : IsUp n f d (upS n f d) := by
  refine ⟨upS_length n f d, fun i hi => ?_⟩
  have := upS_get hf hn hd n i (Nat.le_refl _) hi
  rw [List.take_of_length_le (by simp; omega)] at this
  exact this
theorem Nrm.surj {f : List Int} (h : Nrm f) {j : Nat} (hj : j < f.length) : ∃ i, i < f.length ∧ (f.getD i 0 - 1).toNat = j := by
  have hm : (j : Int) + 1 ∈ f := by
    have h1 := (nrm_iff f).2 h
    have : (j : Int) + 1 ∈ srt f := by rw [h1]; exact List.mem_map.2 ⟨j, List.mem_range.2 hj, rfl⟩
    exact (srt_perm f).mem_iff.1 this
  obtain ⟨i, hi⟩ := List.mem_iff_getElem?.1 hm
  refine ⟨i, (List.getElem?_eq_some_iff.1 hi).1, ?_⟩
  rw [List.getD_eq_getElem?_getD, hi]; simp
theorem IsUp.uniq {n : Nat} {f d u u' : List Int} (hf : Nrm f) (hn : f.length = n) (h : IsUp n f d u) (h' : IsUp n f d u') : u = u' := by
  apply List.ext_getElem?
  intro j
  by_cases hj : j < n
  · obtain ⟨i, hi, rfl⟩ := hf.surj (j := j) (by omega)
    rw [h.2 i (by omega), h'.2 i (by omega)]
  · rw [List.getElem?_eq_none (by have := h.1; omega), List.getElem?_eq_none (by have := h'.1; omega)]
theorem IsUp.rev {n : Nat} {f d u : List Int} (hf : Nrm f) (hn : f.length = n) (h : IsUp n f d u) : IsUp n (f.map fun x => (n : Int) + 1 - x) d u.reverse := by
  refine ⟨by rw [List.length_reverse, h.1], fun i hi => ?_⟩
  have hfi := getD_some (l := f) (i := i) (by omega)
  have hb := hf.2 _ (List.mem_of_getElem? hfi)
  have e : (f.map fun x => (n : Int) + 1 - x).getD i 0 = (n : Int) + 1 - f.getD i 0 := by
    rw [List.getD_eq_getElem?_getD, List.getElem?_map, hfi]; rfl
  rw [e, List.getElem?_reverse (by rw [h.1]; omega), h.1, show n - 1 - ((n : Int) + 1 - f.getD i 0 - 1).toNat = (f.getD i 0 - 1).toNat by omega]
  exact h.2 i hi
theorem compl_nrm {n : Nat} {f : List Int} (hf : Nrm f) (hn : f.length = n) : Nrm (f.map fun x => (n : Int) + 1 - x) := by
  refine ⟨List.pairwise_map.2 (hf.1.imp fun {a b} q e => q (by omega)), fun x hx => ?_⟩
  obtain ⟨y, hy, rfl⟩ := List.mem_map.1 hx
  have := hf.2 y hy
  rw [List.length_map]; omega
theorem IsUp.img {n : Nat} {g f d u : List Int} {c : Bool} (hg : PermL g) (hgn : g.length = f.length) (hn : f.length = n) (hd : ∀ i, i < n → d.getD (g.getD i 0).toNat 0 = d.getD i 0) (h : IsUp n (f.map (xOf n c)) d u) : IsUp n (applyS c g f) d u := by
  refine ⟨h.1, fun j hj => ?_⟩
  obtain ⟨i, hi, hgi⟩ := hg.surj (j := j) (by omega)
  have hgd : g.getD i 0 = (j : Int) := by rw [List.getD_eq_getElem?_getD, hgi]; rfl
  have e1 := applyS_get (c := c) hg hgn (k := i) (by omega)
  rw [hgd, Int.toNat_natCast] at e1
  have e2 : (applyS c g f).getD j 0 = xOf n c (f.getD i 0) := by rw [List.getD_eq_getElem?_getD, e1, hn]; rfl
  have e3 : (f.map (xOf n c)).getD i 0 = xOf n c (f.getD i 0) := by rw [List.getD_eq_getElem?_getD, List.getElem?_map, getD_some (l := f) (by omega)]; rfl
  have := h.2 i (by omega)
  rw [e3] at this
  rw [e2, this]
  have := hd i (by omega)
  rw [hgd, Int.toNat_natCast] at this
  rw [this]
theorem lexLt_asym : ∀ (a b : List Int), lexLt a b = true → lexLt b a = false
  | [], [], h => by simp [lexLt] at h
  | [], _ :: _, _ => by simp [lexLt]
  | _ :: _, [], h => by simp [lexLt] at h
  | x :: a, y :: b, h => by
    have ih := lexLt_asym a b
    rw [lexLt] at h ⊢
    by_cases c2 : x = y
    · subst c2
      simp only [ne_eq, not_true_eq_false, if_false, if_true] at h ⊢
      exact ih h
    · have c3 : ¬ y = x := fun q => c2 q.symm
      simp only [ne_eq, c2, c3, not_false_eq_true, if_false, if_true, decide_eq_true_eq] at h ⊢
      simp only [decide_eq_false_iff_not]
      omega
theorem lexLt_tri : ∀ (a b : List Int), lexLt a b = false → lexLt b a = false → a = b
  | [], [], _, _ => rfl
  | [], _ :: _, h, _ => by simp [lexLt] at h
  | _ :: _, [], _, h => by simp [lexLt] at h
  | x :: a, y :: b, h, h' => by
    have ih := lexLt_tri a b
    rw [lexLt] at h h'
    by_cases c2 : x = y
    · subst c2
      simp only [ne_eq, not_true_eq_false, if_false, if_true] at h h'
      rw [ih h h']
    · have c3 : ¬ y = x := fun q => c2 q.symm
      simp only [ne_eq, c2, c3, not_false_eq_true, if_false, if_true, decide_eq_false_iff_not] at h h'
      omega
def least2 (u : List Int) : List Int := if lexLt u.reverse u then u.reverse else u
theorem least2_rev (u : List Int) : least2 u.reverse = least2 u := by
  unfold least2
  rw [List.reverse_reverse]
  cases h1 : lexLt u u.reverse with
  | true => rw [lexLt_asym _ _ h1]; simp
  | false =>
    cases h2 : lexLt u.reverse u with
    | true => simp
    | false => simp only [Bool.false_eq_true, if_false]; exact (lexLt_tri _ _ h1 h2).symm
theorem keyS_eq (n : Nat) (f d : List Int) : keyS n f d = least2 (upS n f d) := rfl
theorem key_compl {n : Nat} {f d : List Int} (hf : Nrm f) (hn : f.length = n) (hd : d.length = n) : keyS n (f.map fun x => (n : Int) + 1 - x) d = keyS n f d := by
  rw [keyS_eq, keyS_eq]
  have h1 := (upS_is hf hn hd).rev hf hn
  have h2 := upS_is (compl_nrm hf hn) (by simpa using hn) hd
  rw [h2.uniq (compl_nrm hf hn) (by simpa using hn) h1, least2_rev]
theorem key_img {n : Nat} {g f d : List Int} {c : Bool} (hg : PermL g) (hgn : g.length = f.length) (hf : Nrm f) (hn : f.length = n) (hd : d.length = n) (hdg : ∀ i, i < n → d.getD (g.getD i 0).toNat 0 = d.getD i 0) : keyS n (applyS c g f) d = keyS n f d := by
  rw [keyS_eq, keyS_eq]
  have hN := applyS_nrm (c := c) hg hgn hf
  have hl := applyS_length c g f
  have h2 := upS_is hN (by omega) hd
  have h0 := upS_is hf hn hd
  cases c with
  | false =>
    have e : f.map (xOf n false) = f := by
      have : (xOf n false) = id := by funext x; simp [xOf]
      rw [this, List.map_id]
    have h3 := IsUp.img (c := false) hg hgn hn hdg (u := upS n f d) (by rw [e]; exact h0)
    rw [h2.uniq hN (by omega) h3]
  | true =>
    have e : f.map (xOf n true) = f.map fun x => (n : Int) + 1 - x := by
      congr 1
    have h3 := IsUp.img (c := true) hg hgn hn hdg (u := (upS n f d).reverse) (by rw [e]; exact h0.rev hf hn)
    rw [h2.uniq hN (by omega) h3, least2_rev]
theorem incr_get {d : List Int} {c : Int} {k : Nat} (hc : 0 ≤ c) (hk : k < d.length) : (incr d c).getD k 0 = d.getD k 0 + (if (k : Int) = c then 1 else 0) := by
  rw [incr, List.getD_eq_getElem?_getD, List.getElem?_set]
  by_cases e : c.toNat = k
  · have : (k : Int) = c := by omega
    rw [if_pos e, if_pos (by omega), if_pos this, e]; rfl
  · have : ¬ (k : Int) = c := by omega
    rw [if_neg e, if_neg this, ← List.getD_eq_getElem?_getD]; omega
theorem incr_len (d : List Int) (c : Int) : (incr d c).length = d.length := by simp [incr]
theorem line_get {k : Nat} : ∀ (l d : List Int), l.Nodup → (∀ c ∈ l, 0 ≤ c) → k < d.length → (l.foldl incr d).getD k 0 = d.getD k 0 + (if (k : Int) ∈ l then 1 else 0)
  | [], d, _, _, _ => by simp
  | c :: l, d, hn, hl, hk => by
    obtain ⟨h1, h2⟩ := List.nodup_cons.1 hn
    rw [List.foldl_cons, line_get l _ h2 (fun x hx => hl x (List.mem_cons_of_mem _ hx)) (by rw [incr_len]; exact hk), incr_get (hl c (List.mem_cons_self ..)) hk]
    by_cases e : (k : Int) = c
    · subst e; rw [if_pos rfl, if_neg h1, if_pos (List.mem_cons_self ..)]; omega
    · rw [if_neg e]
      by_cases m : (k : Int) ∈ l
      · rw [if_pos m, if_pos (List.mem_cons_of_mem _ m)]; omega
      · rw [if_neg m, if_neg (by simp [e, m])]; omega
theorem deg_get {n k : Nat} (hk : k < n) : ∀ (ls : List (List Int)) (d : List Int), d.length = n → (∀ l ∈ ls, l.Nodup ∧ ∀ c ∈ l, 0 ≤ c) → (ls.foldl (fun d l => l.foldl incr d) d).getD k 0 = d.getD k 0 + ((ls.countP fun l => decide ((k : Int) ∈ l) : Nat) : Int)
  | [], d, _, _ => by simp
  | l :: ls, d, hd, hl => by
    rw [List.foldl_cons, deg_get hk ls _ (by rw [foldl_incr_length, hd]) (fun x hx => hl x (List.mem_cons_of_mem _ hx)), line_get l d (hl l (List.mem_cons_self ..)).1 (hl l (List.mem_cons_self ..)).2 (by omega), List.countP_cons]
    by_cases m : (k : Int) ∈ l
    · simp [m]; omega
    · simp [m]
theorem degS_get {n k : Nat} {lines : List (List Int)} (hk : k < n) (hl : ∀ l ∈ lines, AscL n l) : (degS n lines).getD k 0 = ((lines.countP fun l => decide ((k : Int) ∈ l) : Nat) : Int) := by
  rw [degS, deg_get hk lines _ (by simp) fun l hm => ⟨(hl l hm).2.1.imp fun {a b} q e => by omega, fun c hc => ((hl l hm).2.2 c hc).1⟩]
  rw [List.getD_eq_getElem?_getD, List.getElem?_replicate, if_pos hk]; simp
def imgL (g l : List Int) : List Int := srt (l.map fun c => g.getD c.toNat 0)
theorem deg_kept {n : Nat} {g : List Int} {lines : List (List Int)} (hg : PermL g) (hgn : g.length = n) (hl : ∀ l ∈ lines, AscL n l) (hnd : lines.Nodup) (hk : ∀ l ∈ lines, imgL g l ∈ lines) : ∀ i, i < n → (degS n lines).getD (g.getD i 0).toNat 0 = (degS n lines).getD i 0 := by
  intro i hi
  have hgi := getD_some (l := g) (i := i) (by omega)
  have hb := hg.2 _ (List.mem_of_getElem? hgi)
  rw [degS_get (by omega) hl, degS_get hi hl, show (((g.getD i 0).toNat : Nat) : Int) = g.getD i 0 by omega]
  have inj : ∀ a b : Int, 0 ≤ a → a < n → 0 ≤ b → b < n → g.getD a.toNat 0 = g.getD b.toNat 0 → a = b := by
    intro a b a0 a1 b0 b1 e
    have := nodup_get hg.1 (getD_some (l := g) (i := a.toNat) (by omega)) (e ▸ getD_some (l := g) (i := b.toNat) (by omega))
    omega
  have hnd' : (lines.map (imgL g)).Nodup := by
    rw [List.nodup_iff_pairwise_ne, List.pairwise_map]
    refine List.Pairwise.imp_of_mem (fun {a b} ha hb hab e => hab ?_) hnd
    obtain ⟨_, a2, a3⟩ := hl a ha
    obtain ⟨_, b2, b3⟩ := hl b hb
    have hp : (a.map fun c => g.getD c.toNat 0).Perm (b.map fun c => g.getD c.toNat 0) := (srt_perm _).symm.trans (by rw [show srt (a.map fun c => g.getD c.toNat 0) = srt (b.map fun c => g.getD c.toNat 0) from e]; exact srt_perm _)
    have sub : ∀ (a b : List Int), (∀ c ∈ a, 0 ≤ c ∧ c < (n : Int)) → (∀ c ∈ b, 0 ≤ c ∧ c < (n : Int)) → (a.map fun c => g.getD c.toNat 0).Perm (b.map fun c => g.getD c.toNat 0) → ∀ x ∈ a, x ∈ b := by
      intro a b a3 b3 hp x hx
      have := hp.mem_iff.1 (List.mem_map.2 ⟨x, hx, rfl⟩)
      obtain ⟨y, hy, e⟩ := List.mem_map.1 this
      rw [inj x y (a3 x hx).1 (a3 x hx).2 (b3 y hy).1 (b3 y hy).2 e.symm]; exact hy
    have hlen := hp.length_eq
    rw [List.length_map, List.length_map] at hlen
    have hab' := perm_of_sub (l := a) (r := b) (a2.imp fun {x y} q e => by omega) (sub a b a3 b3 hp) (by omega)
    have s1 := srt_unique (hab'.symm) (a2.imp fun {x y} q => by omega)
    have s2 := srt_unique (l := b) (.refl b) (b2.imp fun {x y} q => by omega)
    rw [s1, ← s2]
  have hperm : lines.Perm (lines.map (imgL g)) := perm_of_sub hnd' (fun x hx => by obtain ⟨l, h1, rfl⟩ := List.mem_map.1 hx; exact hk l h1) (by simp)
  rw [hperm.countP_eq, List.countP_map]
  congr 1
  refine List.countP_congr fun l hm => ?_
  simp only [Function.comp, decide_eq_true_eq]
  have key : g.getD i 0 ∈ imgL g l ↔ (i : Int) ∈ l := by
    unfold imgL
    rw [(srt_perm _).mem_iff]
    constructor
    · intro h
      obtain ⟨y, hy, e⟩ := List.mem_map.1 h
      have hy' := (hl l hm).2.2 y hy
      have := inj y i hy'.1 hy'.2 (by omega) (by omega) (by rw [e, Int.toNat_natCast])
      subst this; exact hy
    · intro h
      exact List.mem_map.2 ⟨(i : Int), h, by rw [Int.toNat_natCast]⟩
  exact key
theorem lines_nd {cells : Int} : ∀ {ls prev : List (List Int)}, linesErr cells prev ls = 0 → ls.Nodup ∧ ∀ l ∈ ls, l ∉ prev
  | [], _, _ => by simp
  | a :: ls, prev, h => by
    rw [linesErr] at h
    by_cases c : lineErr cells prev a ≠ 0
    · rw [if_pos c] at h; exact absurd h c
    rw [if_neg c] at h
    have c : lineErr cells prev a = 0 := by simpa using c
    rw [lineErr] at c
    by_cases c0 : a = []
    · rw [if_pos c0] at c; cases c
    rw [if_neg c0] at c
    by_cases c1 : cellsErr cells none a ≠ 0
    · rw [if_pos c1] at c; exact absurd c c1
    rw [if_neg c1] at c
    have c2 : a ∉ prev := fun q => by rw [if_pos q] at c; cases c
    obtain ⟨h1, h2⟩ := lines_nd h
    refine ⟨List.nodup_cons.2 ⟨fun q => h2 a q (by simp), h1⟩, fun l hl => ?_⟩
    rcases List.mem_cons.1 hl with rfl | hl
    · exact c2
    · exact fun q => h2 l hl (by simp [q])
theorem sys_nd {cells : Int} {lines : List (List Int)} (h : sysErr cells lines = 0) : lines.Nodup := by
  rw [sysErr] at h
  by_cases c1 : cells < 1 ∨ 256 < cells
  · rw [if_pos c1] at h; cases h
  rw [if_neg c1] at h
  by_cases c2 : 128 < lines.length
  · rw [if_pos c2] at h; cases h
  rw [if_neg c2] at h
  exact (lines_nd h).1
end Go.Ev
namespace Go.Ev
open Go Go.Proofs
variable {B : Nat}
theorem groArr0 {h0 h : T Blk} {nx : Pa} {L : List Ob} {o : Option Pa} {e n : Nat} {l : List AV} (H : Hp h0 h nx (.gro o e n l :: L)) (hn : 0 < n) : ∃ id, o = some id ∧ Hp h0 h nx (.arr id l :: L) := by
  cases o with
  | none =>
    obtain ⟨_, rfl⟩ := H.own _ (List.mem_cons_self ..)
    omega
  | some id =>
    refine ⟨id, rfl, H.keep, fun x hx => ?_, fun m hm => H.off m (by simpa [Ob.names] using hm), by have := H.nd; simpa [Ob.names] using this, H.fr⟩
    rcases List.mem_cons.1 hx with rfl | q
    · obtain ⟨t, g1, g2, g3⟩ := H.own _ (List.mem_cons_self ..)
      exact ⟨true, t, by rw [g1, g2], by rw [g2]; exact g3⟩
    · exact H.own x (List.mem_cons_of_mem _ q)
theorem ins_srt {l : List Int} {x : Int} {i : Nat} (hs : l.Pairwise (· ≤ ·)) (h1 : ∀ j v, j < i → l[j]? = some v → v < x) (h2 : ∀ v, l[i]? = some v → x ≤ v) : (l.take i ++ [x] ++ l.drop i).Pairwise (· ≤ ·) := by
  have hd := List.pairwise_append.1 (show (l.take i ++ l.drop i).Pairwise (· ≤ ·) by rw [List.take_append_drop]; exact hs)
  have hdx : ∀ v ∈ l.drop i, x ≤ v := by
    intro v hv
    obtain ⟨j, hj⟩ := List.mem_iff_getElem?.1 hv
    rw [List.getElem?_drop] at hj
    by_cases e : j = 0
    · subst e; exact h2 v hj
    · have hjl := (List.getElem?_eq_some_iff.1 hj).1
      have hx := h2 _ (List.getElem?_eq_getElem (show i < l.length by omega))
      have := List.pairwise_iff_getElem.1 hs i (i + j) (by omega) hjl (by omega)
      have e2 := (List.getElem?_eq_some_iff.1 hj).2
      omega
  have htx : ∀ v ∈ l.take i, v ≤ x := by
    intro v hv
    obtain ⟨j, hj⟩ := List.mem_iff_getElem?.1 hv
    have hjl := (List.getElem?_eq_some_iff.1 hj).1
    rw [List.length_take] at hjl
    rw [List.getElem?_take_of_lt (by omega)] at hj
    have := h1 j v (by omega) hj
    omega
  refine List.pairwise_append.2 ⟨List.pairwise_append.2 ⟨hd.1, by simp, fun a ha b hb => by simp at hb; subst hb; exact htx a ha⟩, hd.2.1, fun a ha b hb => ?_⟩
  rcases List.mem_append.1 ha with q | q
  · exact hd.2.2 a q b hb
  · simp at q; subst q; exact hdx b hb
theorem ins_perm {l : List Int} {x : Int} {i : Nat} : (l.take i ++ [x] ++ l.drop i).Perm (l ++ [x]) := by
  rw [List.append_assoc]
  refine (List.Perm.append_left _ List.perm_append_comm).trans ?_
  rw [← List.append_assoc, List.take_append_drop]
theorem image105 {g l : List Int} (h0 : 0 < l.length) (hl : l.length ≤ 1000) (hc : ∀ c ∈ l, 0 ≤ c ∧ c < (g.length : Int)) : Pure Tryz.prog B 105 [encI g, encI l] (· = encI (imgL g l)) := by
  refine pure_hp fun h nx K H0 hK => by_body tbl_ok dreg 10000 fun hf' => ?_
  rw [F105.go]
  let d : List Int := l.map fun c => g.getD c.toNat 0
  refine F105.L1 (fun m x3 x4 h' nx' => ∃ (i : Nat) (o : Option Pa) (L : List Ob), x4 = I i ∧ x3 = rowV o 1 i ∧ m = l.length - i ∧ i ≤ l.length ∧ Hp h h' nx' (.gro o 1 i ((srt (d.take i)).map I) :: L)) (m := l.length) (by omega)
    ⟨0, none, [], rfl, rfl, by omega, by omega, by simpa [srt] using H0.addGro 1⟩ ?_
  rintro m x3 x4 x5 x6 x7 x8 h3 nx3 R ⟨i, o, L, rfl, rfl, rfl, hi, H3⟩ hR
  simp only [sLen_lst, sLss]
  by_cases hlt : i < l.length
  case neg =>
    simp only [show ¬ (i : Int) < (l.length : Int) by omega, decide_false, sCond_f]
    rw [F105.k14]
    obtain rfl : i = l.length := by omega
    refine hK _ _ _ _ _ H3 (H3.frzGro (k := 0) rfl fixdI) ?_
    have e1 : d.take l.length = d := List.take_of_length_le (by simp [d])
    have e2 : (srt d).length = l.length := by rw [(srt_perm d).length_eq]; simp [d]
    rw [e1]
    show AV.lst 1 _ _ = AV.lst 1 (srt d).length _
    rw [e2]
    rfl
  simp only [show (i : Int) < (l.length : Int) by omega, decide_true, sCond_t]
  have hx : l[i]? = some l[i] := List.getElem?_eq_getElem hlt
  obtain ⟨c0, c1⟩ := hc _ (List.getElem_mem hlt)
  have hgv := getD_some (l := g) (i := (l[i]).toNat) (by omega)
  rw [sIxL rfl hlt, ldL (getI hx), sIxL (i := (l[i]).toNat) (by omega) (by omega), ldL (getI hgv)]
  have hdi : d[i]? = some (g.getD (l[i]).toNat 0) := by rw [List.getElem?_map, hx]; rfl
  generalize hxv : g.getD (l[i]).toNat 0 = x at hdi
  have hss : (srt (d.take i)).Pairwise (· ≤ ·) := by
    have := List.pairwise_mergeSort (le := fun x y : Int => decide (x ≤ y)) (by simp; omega) (by simp; omega) (d.take i)
    simpa using this
  have hsl : (srt (d.take i)).length = i := by rw [(srt_perm _).length_eq, List.length_take]; simp [d]; omega
  have hlen : ∀ op : AV → OP, sLen (rowV o 1 i) op = op (I i) := fun op => H3.groLen (k := 0) rfl
  generalize hS : srt (d.take i) = S at H3 hss hsl
  refine F105.L7 (fun m x6 h' nx' => ∃ j : Nat, x6 = I j ∧ m = i - j ∧ j ≤ i ∧ (∀ t v, t < j → S[t]? = some v → v < x) ∧ h' = h3 ∧ nx' = nx3) (m := i) (by omega) ⟨0, rfl, by omega, by omega, fun t v h => by omega, rfl, rfl⟩ ?_
  rintro m y6 y8 h3 nx3 R2 ⟨j, rfl, rfl, hj, hlo, rfl, rfl⟩ hR2
  rw [hlen]
  simp only [sLss]
  have done : ∀ z8, (∀ v, S[j]? = some v → x ≤ v) → IR.run F105.b12 (CS Tryz.prog B) 10000 (((fnO F105.res K).blk 0 (IR.run F105.b14 (CS Tryz.prog B) 10000 (fnO F105.res K) (retK F105.res K))).blk 1 (IR.run F105.b13 (CS Tryz.prog B) 10000 ((fnO F105.res K).blk 0 (IR.run F105.b14 (CS Tryz.prog B) 10000 (fnO F105.res K) (retK F105.res K))) R)) (IR.run F105.b13 (CS Tryz.prog B) 10000 ((fnO F105.res K).blk 0 (IR.run F105.b14 (CS Tryz.prog B) 10000 (fnO F105.res K) (retK F105.res K))) R) (F105.fr (encI g) (encI l) .nils (rowV o 1 i) (I i) (I x) (I j) (.bool true) z8) h3 nx3 = .ok True := by
    intro z8 hhi
    rw [F105.k12]
    have eHi : ∀ op : AV → OP, sSlice 1 (rowV o 1 i) none (some (I (j : Int))) none op = op (rowV o 1 j) := fun op => H3.groHi (k := 0) rfl hj
    have eLo : ∀ op : AV → OP, sSlice 1 (rowV o 1 i) (some (I (j : Int))) none none op = op (dropV o 1 i j) := fun op => H3.groLo (k := 0) rfl hj
    have ec : ((fillA (repl 1 [(I 0)]) [(0, 1, I x)]).isSome && true) = true := rfl
    simp only [eHi, eLo, sSame_refl, show ((fillA (repl 0 [(I 0)]) []).isSome && true) = true from rfl, ec, sChk_t]
    refine H3.ins (k := 0) (l := S.map I) (xs := [I x]) rfl (by simp [hsl]) hj (by omega) (List.all_eq_true.2 fun v hv => by obtain ⟨y, _, rfl⟩ := List.mem_map.1 hv; rfl) rfl rfl rfl (by decide) (by omega) fun o' h5 n5 H5 => ?_
    rw [F105.k13, sAdd (by omega)]
    refine hR _ _ _ _ _ _ _ _ _ (by omega) ⟨i + 1, o', .gro o 1 i (S.map I) :: L, rfl, rfl, rfl, by omega, ?_⟩
    have e5 : srt (d.take (i + 1)) = S.take j ++ [x] ++ S.drop j := by
      refine (srt_unique ?_ (ins_srt hss hlo hhi)).symm
      rw [List.take_add_one, hdi]
      refine ins_perm.trans (List.Perm.append_right _ ?_)
      rw [← hS]; exact srt_perm _
    rw [e5]
    refine H5.cast ?_
    simp [List.map_take, List.map_drop]
  by_cases hji : j < i
  · simp only [show (j : Int) < (i : Int) by omega, decide_true, sG_tt]
    obtain ⟨id, rfl, HA⟩ := groArr0 H3 (by omega)
    have hg : S[j]? = some S[j] := List.getElem?_eq_getElem (by omega)
    have hgI : (S.map I)[j]? = some (I S[j]) := getI hg
    rw [show rowV (some id) 1 i = .sl id 0 i none 1 from rfl, sIx (i := j) rfl hji, HA.load (k := 0) rfl hgI]
    simp only [sLss, sPick_t]
    by_cases c : S[j] < x
    · simp only [c, decide_true, sCond_t]
      rw [F105.k10, sAdd (by omega)]
      refine hR2 _ _ _ _ _ (by omega) ⟨j + 1, rfl, rfl, by omega, fun t v ht hv => ?_, rfl, rfl⟩
      by_cases e : t = j
      · subst e; rw [hg] at hv; have := Option.some.inj hv; omega
      · exact hlo t v (by omega) hv
    · simp only [c, decide_false, sCond_f]
      exact done _ fun v hv => by rw [hg] at hv; have := Option.some.inj hv; omega
  · simp only [show ¬ (j : Int) < (i : Int) by omega, decide_false, sG_ft, sPick_f, sCond_f]
    exact done _ fun v hv => by have := (List.getElem?_eq_some_iff.1 hv).1; omega
theorem keeps48 {n : Nat} {lines : List (List Int)} {g : List Int} (hm : lines.length ≤ 1000) (hl : ∀ l ∈ lines, AscL n l ∧ l.length ≤ 1000) (hg : g.length = n) : Pure Tryz.prog B 48 [.agg [I n, encT lines], encI g] (fun v => ∃ b, v = .bool b ∧ (b = true → ∀ l ∈ lines, imgL g l ∈ lines)) := by
  refine pure_hp fun h nx K H0 hK => by_body tbl_ok dreg 10000 fun hf' => ?_
  rw [F48.go]
  refine H0.box (l := [I n, encT lines]) rfl fun bx h1 nx1 H1 => ?_
  refine F48.L1 (fun m x4 h' nx' => ∃ i : Nat, x4 = I i ∧ m = lines.length - i ∧ i ≤ lines.length ∧ (∀ l ∈ lines.take i, imgL g l ∈ lines) ∧ h' = h1 ∧ nx' = nx1) (m := lines.length) (by omega) ⟨0, rfl, by omega, by omega, by simp, rfl, rfl⟩ ?_
  rintro m x3 x4 x5 x6 x7 x8 x9 x10 h1 nx1 R ⟨i, rfl, rfl, hi, hk, rfl, rfl⟩ hR
  rw [sFx, H1.load (k := 0) (i := 0 + 1) rfl rfl]
  simp only [sLen_lst, sLss]
  by_cases hlt : i < lines.length
  case neg =>
    simp only [show ¬ (i : Int) < (lines.length : Int) by omega, decide_false, sCond_f]
    rw [F48.k16]
    rw [List.take_of_length_le (by omega)] at hk
    exact hK _ _ _ _ _ H1 (frz_fixd rfl) ⟨true, rfl, fun _ => hk⟩
  simp only [show (i : Int) < (lines.length : Int) by omega, decide_true, sCond_t]
  have hx : lines[i]? = some lines[i] := List.getElem?_eq_getElem hlt
  obtain ⟨ha, hlw⟩ := hl _ (List.getElem_mem hlt)
  rw [sFx, H1.load (k := 0) (i := 0 + 1) rfl rfl, sIxL rfl hlt, ldL (getT hx)]
  refine image105 (List.length_pos_iff.2 ha.1) hlw (fun c hc => by rw [hg]; exact ha.2.2 c hc) _ _ _ _ ?_
  rintro _ rfl _
  refine F48.L7 (fun m x6 x7 h' nx' => ∃ j : Nat, x7 = I j ∧ m = lines.length - j ∧ j ≤ lines.length ∧ x6 = .bool (decide (imgL g lines[i] ∈ lines.take j)) ∧ h' = h1 ∧ nx' = nx1) (m := lines.length) (by omega) ⟨0, rfl, by omega, by omega, by simp, rfl, rfl⟩ ?_
  rintro m y6 y7 y9 h1 nx1 R2 ⟨j, rfl, rfl, hj, rfl, rfl, rfl⟩ hR2
  rw [sFx, H1.load (k := 0) (i := 0 + 1) rfl rfl]
  simp only [sLen_lst, sLss]
  by_cases hjl : j < lines.length
  case neg =>
    simp only [show ¬ (j : Int) < (lines.length : Int) by omega, decide_false, sCond_f]
    rw [F48.k14]
    simp only [sNot_b]
    rw [List.take_of_length_le (by omega)]
    by_cases c : imgL g lines[i] ∈ lines
    · simp only [c, decide_true, Bool.not_true, sCond_f]
      rw [F48.k15, sAdd (by omega)]
      refine hR _ _ _ _ _ _ _ _ _ _ _ (by omega) ⟨i + 1, rfl, rfl, by omega, fun l hm' => ?_, rfl, rfl⟩
      rw [List.take_add_one, hx] at hm'
      rcases List.mem_append.1 hm' with q | q
      · exact hk l q
      · simp at q; subst q; exact c
    · simp only [c, decide_false, Bool.not_false, sCond_t]
      exact hK _ _ _ _ _ H1 (frz_fixd rfl) ⟨false, rfl, by simp⟩
  simp only [show (j : Int) < (lines.length : Int) by omega, decide_true, sCond_t]
  have hy : lines[j]? = some lines[j] := List.getElem?_eq_getElem hjl
  have hst : decide (imgL g lines[i] ∈ lines.take (j + 1)) = (decide (imgL g lines[i] ∈ lines.take j) || decide (imgL g lines[i] = lines[j])) := by
    rw [Bool.eq_iff_iff, Bool.or_eq_true, decide_eq_true_eq, decide_eq_true_eq, decide_eq_true_eq, List.take_add_one, hy, Option.toList_some, List.mem_append, List.mem_singleton]
  by_cases c : imgL g lines[i] ∈ lines.take j
  · rw [show decide (imgL g lines[i] ∈ lines.take j) = true from decide_eq_true c] at hst ⊢
    simp only [sG_tf, gW_tf, sPick_t]
    rw [sAdd (by omega)]
    exact hR2 _ _ _ _ _ _ (by omega) ⟨j + 1, rfl, rfl, by omega, by rw [hst]; rfl, rfl, rfl⟩
  · rw [show decide (imgL g lines[i] ∈ lines.take j) = false from decide_eq_false c] at hst ⊢
    simp only [sG_ff, gW_ff, sPick_f, sFx]
    rw [H1.load (k := 0) (i := 0 + 1) rfl rfl, sIxL rfl hjl, ldL (getT hy)]
    refine sameInts35 (by unfold imgL; rw [(srt_perm _).length_eq, List.length_map]; omega) _ _ _ _ ?_
    rintro _ rfl _
    rw [sAdd (by omega)]
    exact hR2 _ _ _ _ _ _ (by omega) ⟨j + 1, rfl, rfl, by omega, by rw [hst]; rfl, rfl, rfl⟩
end Go.Ev
namespace Go.Ev
open Go Go.Proofs
variable {B : Nat}
theorem cmpL_neg (a b : List Int) : decide (cmpL a b < 0) = lexLt a b := by
  unfold cmpL
  cases lexLt a b with
  | true => simp
  | false =>
    by_cases c : a = b
    · simp [c]
    · simp [c]
theorem minFunc97 {h0 h : T Blk} {nx p m u w : Pa} {L : List Ob} {km ku kw n : Nat} {cap : Option Nat} {ul wl : List Int} {K : Kw Prop} (H : Hp h0 h nx L) (hm : L[km]? = some (.arr m [.sl u 0 n (some n) 1, .sl w 0 n cap 1])) (hu : L[ku]? = some (.arr u (ul.map I))) (hw : L[kw]? = some (.arr w (wl.map I)))
    (hul : ul.length = n) (hwl : wl.length = n) (hn : n ≤ 1000000) (hcap : capLe n cap) (hK : K (if lexLt wl ul then .sl w 0 n cap 1 else .sl u 0 n (some n) 1) h nx = .ok True) : (CS Tryz.prog B).fn 97 p [.sl m 0 2 (some 2) 1, .fn 92 (.of 92) []] h nx K = .ok True := by
  refine CS_fn_mono (p := .of 97) (K := K) (by_body tbl_ok dreg 10 fun hf => ?_) fun _ _ _ _ q => q
  rw [F97.go]
  simp only [sLen_sl, sLss, show ¬ ((2 : Nat) : Int) < 1 by omega, decide_false, sCond_f]
  rw [sIx (i := 0) (j := 0) (by rfl) (by decide), H.load hm (i := 0) rfl]
  refine F97.L2 (fun m z3 z4 h' nx' => ∃ i : Nat, z4 = I i ∧ 2 - i = m ∧ h' = h ∧ nx' = nx ∧ ((i = 1 ∧ z3 = .sl u 0 n (some n) 1) ∨ (i = 2 ∧ z3 = if lexLt wl ul then .sl w 0 n cap 1 else .sl u 0 n (some n) 1))) (m := 1) (by omega) ⟨1, rfl, rfl, rfl, rfl, .inl ⟨rfl, rfl⟩⟩ ?_
  rintro m z3 z4 z6 z7 h1 nx1 R ⟨i, rfl, rfl, rfl, rfl, hz⟩ hR
  rcases hz with ⟨rfl, rfl⟩ | ⟨rfl, rfl⟩
  · simp only [sLen_sl, sLss, show ((1 : Nat) : Int) < ((2 : Nat) : Int) by omega, decide_true, sCond_t]
    rw [sIx (i := 1) rfl (by decide), H.load hm (i := 1) rfl, sCall_fn]
    refine CS_plain (args := [.sl w 0 n cap 1, .sl u 0 n (some n) 1]) (args' := [encI wl, encI ul]) (.cons (frzOwn H hw hwl hcap) (.cons (frzOwn H hu hul (Nat.le_refl _)) .nil)) (by simp only [nns, fixd.nn (fixd_encI _), Bool.and_self]) (fun B => compare92 (by omega) (by omega)) (fun v hv => by rw [hv]; exact .int _ _) ?_
    rintro _ rfl _
    simp only [sLss]
    rw [cmpL_neg]
    cases c : lexLt wl ul with
    | true =>
      simp only [sCond_t]
      rw [sIx (i := 1) rfl (by decide), H.load hm (i := 1) rfl, sAdd (by omega)]
      exact hR 0 _ _ _ _ _ _ (by omega) ⟨2, rfl, rfl, rfl, rfl, .inr ⟨rfl, by rw [c, if_pos rfl]⟩⟩
    | false =>
      simp only [sCond_f]
      rw [sAdd (by omega)]
      exact hR 0 _ _ _ _ _ _ (by omega) ⟨2, rfl, rfl, rfl, rfl, .inr ⟨rfl, by rw [c, if_neg (by simp)]⟩⟩
  · simp only [sLen_sl, sLss, show ¬ ((2 : Nat) : Int) < ((2 : Nat) : Int) by omega, decide_false, sCond_f]
    rw [F97.k9]
    exact hK
def kErr (cells : Int) (lines : List (List Int)) (f : List Int) : Int := firstE [sysErr cells lines, if !decide ((f.length : Int) = cells) then 2 else 0, if f.any outR then 3 else 0]
theorem kErr_eq (cells : Int) (lines : List (List Int)) (f : List Int) : kErr cells lines f = if sysErr cells lines ≠ 0 then sysErr cells lines else fillErr cells f := by
  unfold kErr fillErr
  by_cases c : sysErr cells lines = 0
  · by_cases c2 : (f.length : Int) = cells
    · cases c3 : f.any outR <;> simp [firstE, c, c2]
    · simp [firstE, c, c2]
  · simp [firstE, c]
theorem F36.head {h : T Blk} {nx : Pa} {K : Kw Prop} {cells : Int} {lines : List (List Int)} {f : List Int} (hw : ∀ q ∈ lines, q.length ≤ 1000000) (hfl : f.length ≤ 1000) (hf0 : Fr h nx)
    (bad : ∀ h' nx' L, Hp h h' nx' L → kErr cells lines f ≠ 0 → K (.tup [.nils, I (kErr cells lines f)]) h' nx' = .ok True)
    (good : ∀ bx u s h' nx', kErr cells lines f = 0 → Hp h h' nx' [.arr s (List.replicate f.length (.bool false)), .arr u (List.replicate f.length (I 0)), .arr bx [I cells, encT lines]] →
      (CS Tryz.prog B).fn 95 (.of 95) [.agg [I cells, encT lines]] h' nx' (fun v37 h38 n39 => sLen v37 fun v40 => IR.run F36.b2 (CS Tryz.prog B) 10000000 (fnO F36.res K) (IR.run F36.b10 (CS Tryz.prog B) 10000000 (fnO F36.res K) (retK F36.res K))
        (F36.fr (.agg [I cells, encT lines]) (encI f) (.ptr bx 0) .nils (I 0) (I 0) (.sl u 0 f.length (some f.length) 1) (.sl s 0 f.length (some f.length) 1) .undef .undef .undef .undef (.bool false) v37 v40 (I 0) .undef .undef) h38 n39) = .ok True) :
    callFn tbl 10000000 (CS Tryz.prog B) (.of 36) [.agg [I cells, encT lines], encI f] h nx K = .ok True := by
  rw [F36.go]
  refine (Hp.init hf0).box (l := [I cells, encT lines]) rfl fun bx h1 nx1 H1 => ?_
  rw [H1.loadN (k := 0) (n := 2) rfl rfl]
  simp only [sLen_lst]
  rw [sFx, H1.load (k := 0) (i := 0) rfl rfl]
  simp only [sNeq]
  refine sys81 hw _ _ _ _ ?_
  rintro _ rfl _
  simp only [sSame_refl, sLen_lst, sFx]
  rw [H1.load (k := 0) (i := 0) rfl rfl]
  simp only [sSame_refl, sLen_lst]
  refine whenB82 _ _ _ _ _ _ ?_
  rintro _ rfl _
  try simp only [sSame_refl]
  refine outside94 (by omega) _ _ _ _ ?_
  rintro _ rfl _
  refine whenB82 _ _ _ _ _ _ ?_
  rintro _ rfl _
  refine H1.bslice (l := [I (sysErr cells lines), I (if !decide ((f.length : Int) = cells) then 2 else 0), I (if f.any outR then 3 else 0)]) rfl fun id h4 nx4 H4 => ?_
  refine own_plain (l := [sysErr cells lines, if !decide ((f.length : Int) = cells) then 2 else 0, if f.any outR then 3 else 0]) H4 (k := 0) rfl (fun B => first80 (by simp)) (fun v hv => by rw [hv]; exact .int _ _) ?_
  rintro _ rfl
  rw [show firstE [sysErr cells lines, if !decide ((f.length : Int) = cells) then 2 else 0, if f.any outR then 3 else 0] = kErr cells lines f from rfl]
  simp only [sNeq]
  by_cases he : kErr cells lines f = 0
  case neg =>
    simp only [he, decide_false, Bool.not_false, sCond_t]
    exact bad _ _ _ H4 he
  simp only [he, decide_true, Bool.not_true, sCond_f]
  refine H4.drop.mk1 f.length rfl rfl (by omega) (by decide) fun u h5 nx5 H5 => ?_
  refine H5.mk1 f.length rfl rfl (by omega) (by decide) fun s h6 nx6 H6 => ?_
  rw [H6.loadN (k := 2) (n := 2) rfl rfl]
  exact good _ _ _ _ _ he H6
theorem key36 {cells : Int} {lines : List (List Int)} {f : List Int} (hw : ∀ q ∈ lines, q.length ≤ 1000) (hfl : f.length ≤ 1000) (he : kErr cells lines f = 0) (hs : sysErr cells lines = 0) (hfc : (f.length : Int) = cells) :
    Pure Tryz.prog B 36 [.agg [I cells, encT lines], encI f] (· = if srt f = upTo f.length then .tup [encI (keyS f.length f (degS f.length lines)), I 0] else .tup [.nils, I 1]) := by
  obtain ⟨n, rfl, g1, g2, g3, g4⟩ := sys_ok hs
  obtain rfl : n = f.length := by omega
  refine pure_hp fun h nx K H0 hK => by_body tbl_ok dreg 10000000 fun hf => ?_
  refine F36.head (fun q hq => Nat.le_trans (hw q hq) (by omega)) hfl hf (fun _ _ _ _ q => absurd he q) fun bx u s h1 nx1 _ H1 => ?_
  refine deg95 g2 g3 (fun l hl => ⟨hw l hl, (g4 l hl).2.2⟩) _ _ _ _ ?_
  rintro _ rfl _
  have hdl : (degS f.length lines).length = f.length := degS_length _ _
  generalize degS f.length lines = d at *
  simp only [sLen_lst]
  rw [hdl]
  have hz : List.replicate f.length (I 0) = (List.replicate f.length (0 : Int)).map I := by simp
  have hz2 : List.replicate f.length (AV.bool false) = (seenL f.length []).map AV.bool := by simp [seenL]
  rw [hz, hz2] at H1
  have bad : ¬ (srt f = upTo f.length) → ∀ h' nx' L, Hp h h' nx' L → K (.tup [.nils, I 1]) h' nx' = .ok True := fun q h' nx' L H' => by
    rw [if_neg q] at hK
    exact hK _ _ _ _ _ H' (frz_tup2 (frz_fixd rfl) (frz_fixd rfl)) rfl
  refine F36.L2 (fun m z15 h' nx' => ∃ i : Nat, z15 = I i ∧ f.length - i = m ∧ i ≤ f.length ∧ (f.take i).Nodup ∧ (∀ x ∈ f.take i, 1 ≤ x ∧ x ≤ (f.length : Int)) ∧ Hp h h' nx' [.arr s ((seenL f.length (f.take i)).map AV.bool), .arr u ((((f.zip d).take i).foldl putN (List.replicate f.length 0)).map I), .arr bx [I f.length, encT lines]]) (m := f.length) (by omega) ⟨0, rfl, rfl, by omega, by simp, by simp, H1⟩ ?_
  rintro m z3 z4 z8 z9 z10 z15 z16 z17 h2 nx2 R ⟨i, rfl, rfl, hi, hnd, hrg, H2⟩ hR
  simp (disch := omega) only [sAdd, sSub, sMul, sEql, sNeq, sLss, sLeq, sGtr, sGeq, sPick_t, sPick_f, sCond_t, sCond_f, sG_tt, sG_ff, sG_tf, sG_ft, sNot_b, sExt0, sExt1, sExt2, sPart0, sPart1, sPart2, sLen_lst, sLen_sl, sLen_nils, sSame_refl, decide_true, decide_false, Bool.not_true, Bool.not_false, sChk_t]
  by_cases hlt : i < f.length
  case neg =>
    simp only [show ¬ (i : Int) < (f.length : Int) by omega, decide_false, sCond_f]
    rw [List.take_of_length_le (by omega)] at hnd hrg
    have hnrm := (nrm_iff f).2 ⟨hnd, hrg⟩
    rw [if_pos hnrm] at hK
    rw [List.take_of_length_le (l := f.zip d) (by simp; omega)] at H2
    have H3 : Hp h h2 nx2 [.arr s ((seenL f.length (f.take i)).map AV.bool), .arr u ((upS f.length f d).map I), .arr bx [I f.length, encT lines]] := H2
    have hul := upS_length f.length f d
    rw [F36.k10]
    refine cloneO79 H3 (k := 1) rfl (by simp [List.all_eq_true, scal]) (by omega) (by simp [hul]) fun w cap h4 nx4 hcap H4 => ?_
    refine reverse96 H4 (k := 0) rfl (by omega) hul fun h5 H5 => ?_
    refine H5.bslice (l := [.sl u 0 f.length (some f.length) 1, .sl w 0 f.length cap 1]) rfl fun m h6 nx6 H6 => ?_
    refine minFunc97 H6 (km := 0) (ku := 3) (kw := 1) rfl rfl rfl hul (by rw [List.length_reverse, hul]) (by omega) hcap ?_
    unfold keyS at hK
    cases c : lexLt (upS f.length f d).reverse (upS f.length f d) with
    | true =>
      rw [if_pos rfl]
      rw [c, if_pos rfl] at hK
      refine hK _ _ _ _ _ H6 (frz_tup2 (H6.frzArr (k := 1) rfl hcap (by simp [hul]) fixdI) (frz_fixd rfl)) ?_
      show AV.tup [AV.lst 1 _ _, _] = AV.tup [AV.lst 1 _ _, _]
      rw [List.length_reverse, hul]
    | false =>
      rw [if_neg (by simp)]
      rw [c, if_neg (by simp)] at hK
      refine hK _ _ _ _ _ H6 (frz_tup2 (H6.frzArr (k := 3) rfl (Nat.le_refl _) (by simp [hul]) fixdI) (frz_fixd rfl)) ?_
      show AV.tup [AV.lst 1 _ _, _] = AV.tup [AV.lst 1 _ _, _]
      rw [hul]
  simp only [show (i : Int) < (f.length : Int) by omega, decide_true, sCond_t]
  have hx : f[i]? = some f[i] := List.getElem?_eq_getElem hlt
  have hxd : d[i]? = some d[i] := List.getElem?_eq_getElem (by omega)
  have hnot : ¬ (1 ≤ f[i] ∧ f[i] ≤ (f.length : Int) ∧ f[i] ∉ f.take i) → ¬ (srt f = upTo f.length) := by
    intro q r
    obtain ⟨r1, r2⟩ := (nrm_iff f).1 r
    refine q ⟨(r2 _ (List.getElem_mem hlt)).1, (r2 _ (List.getElem_mem hlt)).2, fun hm => ?_⟩
    rw [← List.take_append_drop (i + 1) f, List.take_add_one, hx] at r1
    have := (List.nodup_append.1 (List.nodup_append.1 r1).1).2.2 _ hm f[i] (by simp)
    exact this rfl
  rw [sIxL rfl (by omega), ldL (getI hxd), sIxL rfl hlt, ldL (getI hx)]
  by_cases c1 : f[i] < 1
  · simp only [sLss, c1, decide_true, sG_tf, sPick_t, sCond_t]
    exact bad (hnot (by omega)) _ _ _ H2
  simp only [sLss, c1, decide_false, sG_ff, sLen_lst, sGtr, sPick_f]
  by_cases c2 : (f.length : Int) < f[i]
  · simp only [c2, decide_true, sG_tf, sPick_t, sCond_t]
    exact bad (hnot (by omega)) _ _ _ H2
  simp only [c2, decide_false, sG_ff]
  have hk : (f[i] - 1).toNat < f.length := by omega
  have hg := seenL_get (n := f.length) (fun x hx => (hrg x hx).1) hk
  rw [show (((f[i] - 1).toNat : Nat) : Int) + 1 = f[i] by omega] at hg
  have hgv : ((seenL f.length (f.take i)).map AV.bool)[(f[i] - 1).toNat]? = some (.bool (decide (f[i] ∈ f.take i))) := by rw [List.getElem?_map, hg]; rfl
  rw [sSub (by omega), sIx (i := (f[i] - 1).toNat) (by omega) hk, H2.load (k := 0) rfl hgv]
  simp only [sPick_f]
  by_cases c3 : f[i] ∈ f.take i
  · simp only [c3, decide_true, sCond_t]
    exact bad (hnot (by intro q; exact q.2.2 c3)) _ _ _ H2
  simp only [c3, decide_false, sCond_f]
  rw [F36.k8, sSub (by omega), sSub (by omega), sIx (i := (f[i] - 1).toNat) (by omega) hk]
  refine H2.store (k := 0) rfl (by rw [List.length_map, seenL_length]; exact hk) rfl fun h3 H3 => ?_
  rw [sIx (i := (f[i] - 1).toNat) (by omega) hk]
  refine H3.store (k := 1) rfl (by rw [List.length_map, foldl_putK_len]; simp; omega) rfl fun h4 H4 => ?_
  rw [F36.k9]
  try rw [sAdd (by omega)]
  have htk : f.take (i + 1) = f.take i ++ [f[i]] := by rw [List.take_add_one, hx]; rfl
  refine hR _ _ _ _ _ _ _ _ _ _ _ (by omega) ⟨i + 1, rfl, rfl, by omega, ?_, ?_, H4.cast ?_⟩
  · rw [htk]
    exact List.nodup_append.2 ⟨hnd, by simp, fun a ha b hb => by simp at hb; subst hb; rintro rfl; exact c3 ha⟩
  · intro x hm
    rw [htk] at hm
    rcases List.mem_append.1 hm with q | q
    · exact hrg x q
    · simp at q; subst q; omega
  · rw [zip_take hlt (by omega), List.foldl_append, htk, seenL_snoc]
    simp [putN, List.map_set]
end Go.Ev
namespace Go.Ev
open Go Go.Proofs
variable {B : Nat}
theorem nrm_kErr {n : Nat} {lines : List (List Int)} {f : List Int} (hs : sysErr n lines = 0) (hf : Nrm f) (hn : f.length = n) (hn2 : n ≤ 1000) : kErr n lines f = 0 := by
  rw [kErr_eq, if_neg (by simp [hs]), fillErr, if_neg (by simp [hn]), if_neg]
  intro q
  obtain ⟨x, hx, h⟩ := List.any_eq_true.1 q
  have := hf.2 x hx
  simp only [outR, Bool.or_eq_true, decide_eq_true_eq] at h
  omega
theorem law10 {cells : Int} {lines : List (List Int)} {f g : List Int} {c : Bool} (haw : ∀ {B}, Pure Tryz.prog B 18 [] (· = .bool true)) : Pure Tryz.prog B 10 [.agg [I cells, encT lines], encI f, .agg [encI g, .bool c]] (· = .bool true) := by
  refine pure_hp fun h nx K H0 hK => by_body tbl_ok dreg 1000 fun hf => ?_
  rw [F10.go]
  refine H0.box (l := [I cells, encT lines]) rfl fun bx h1 nx1 H1 => ?_
  refine H1.box (l := [encI g, .bool c]) rfl fun b4 h2 nx2 H2 => ?_
  have ret : K (.bool true) h2 nx2 = .ok True := hK _ _ _ _ _ H2 (frz_fixd rfl) rfl
  have awk : ∀ Z : Kw Prop, Z (.bool true) h2 nx2 = .ok True → (CS Tryz.prog B).fn 18 (.of 18) [] h2 nx2 Z = .ok True := fun Z hZ => haw _ _ _ _ fun v hv _ => by rw [hv]; exact hZ
  rw [H2.loadN (k := 1) (n := 2) rfl rfl]
  refine few44 (by omega) (by omega) _ _ _ _ ?_
  rintro _ rfl _
  by_cases hfew : ((lines.length : Int) ≤ 16 ∧ ∀ l ∈ lines, (l.length : Int) ≤ 12) ∧ sysErr cells lines = 0 ∧ cells ≤ 12
  case neg =>
    rw [decide_eq_false hfew]
    simp only [sNot_b, Bool.not_false, sG_tf, gW_tf, sPick_t, sCond_t]
    exact awk _ ret
  rw [decide_eq_true hfew]
  obtain ⟨⟨s1, s2⟩, hs, s3⟩ := hfew
  obtain ⟨n, rfl, g1, g2, g3, g4⟩ := sys_ok hs
  have hw12 : ∀ q ∈ lines, q.length ≤ 12 := fun q hq => by have := s2 q hq; omega
  simp only [sNot_b, Bool.not_true, sG_ff, sLen_lst, sFx]
  rw [H2.load (k := 1) (i := 0) rfl rfl]
  simp only [sNeq, sPick_f]
  by_cases hfn : (f.length : Int) = (n : Int)
  case neg =>
    simp only [hfn, decide_false, Bool.not_false, sG_tf, gW_tf, sPick_t, sCond_t]
    exact awk _ ret
  have hfn' : f.length = n := by omega
  simp only [hfn, decide_true, Bool.not_true, sG_ff, gW_ff]
  refine isNormal38 (by omega) _ _ _ _ ?_
  rintro _ rfl _
  simp only [sNot_b, sPick_f]
  by_cases hnm : srt f = upTo f.length
  case neg =>
    rw [decide_eq_false hnm]
    simp only [Bool.not_false, sG_tf, gW_tf, sPick_t, sCond_t]
    exact awk _ ret
  rw [decide_eq_true hnm]
  have hN := (nrm_iff f).1 hnm
  simp only [Bool.not_true, sG_ff, gW_ff]
  rw [H2.loadN (k := 0) (n := 2) rfl rfl]
  rw [H2.load (k := 1) (i := 0) rfl rfl]
  refine sym47 _ _ _ _ ?_
  rintro _ ⟨e, rfl, he⟩ _
  simp only [sNeq, sPick_f]
  by_cases he0 : e = 0
  case neg =>
    simp only [he0, decide_false, Bool.not_false, sG_tf, gW_tf, sPick_t, sCond_t]
    exact awk _ ret
  obtain ⟨hg1, hgp⟩ := he he0
  simp only [he0, decide_true, Bool.not_true, sG_ff, gW_ff]
  rw [H2.loadN (k := 1) (n := 2) rfl rfl]
  try simp only [sFx]
  rw [H2.load (k := 0) (i := 0) rfl rfl]
  refine keeps48 (n := n) (by omega) (fun l hl => ⟨g4 l hl, by have := hw12 l hl; omega⟩) (by omega) _ _ _ _ ?_
  rintro _ ⟨b, rfl, hb⟩ _
  simp only [sNot_b, sPick_f]
  cases b with
  | false =>
    simp only [Bool.not_false, sCond_t]
    exact awk _ ret
  | true =>
  have hkp := hb rfl
  simp only [Bool.not_true, sCond_f]
  have hgn : g.length = f.length := by omega
  have hdl := degS_length n lines
  have hwk : ∀ q ∈ lines, q.length ≤ 1000 := fun q hq => by have := hw12 q hq; omega
  have hfb : ∀ (f' : List Int), Nrm f' → f'.length = n → ∀ x ∈ f', -1000000000 ≤ x ∧ x ≤ 1000000000 := fun f' q1 q2 x hx => by have := q1.2 x hx; omega
  have hNa := applyS_nrm (c := c) hgp hgn hN
  have hla := applyS_length c g f
  have hNc := compl_nrm hN (rfl : f.length = f.length)
  have k1 := key_img (c := c) hgp hgn hN hfn' hdl (deg_kept hgp (by omega) g4 (sys_nd hs) hkp)
  have k2 := key_compl hN hfn' hdl
  rw [F10.k1, H2.loadN (k := 1) (n := 2) rfl rfl]
  refine key36 hwk (by omega) (nrm_kErr hs hN hfn' (by omega)) hs hfn _ _ _ _ ?_
  rintro _ rfl _
  rw [if_pos hnm]
  simp only [sExt0, sExt1]
  rw [H2.loadN (k := 1) (n := 2) rfl rfl, H2.loadN (k := 0) (n := 2) rfl rfl]
  refine apply49 (by omega) hgn hgp (hfb f hN hfn') _ _ _ _ ?_
  rintro _ rfl _
  rw [H2.loadN (k := 1) (n := 2) rfl rfl]
  simp only [sSame_refl]
  refine key36 hwk (by omega) (nrm_kErr hs hNa (by omega) (by omega)) hs (by omega) _ _ _ _ ?_
  rintro _ rfl _
  rw [if_pos ((nrm_iff _).2 hNa)]
  simp only [sExt0, sExt1]
  rw [H2.loadN (k := 1) (n := 2) rfl rfl]
  refine comp50 (by omega) (by omega) (hfb f hN hfn') _ _ _ _ ?_
  rintro _ rfl _
  rw [H2.loadN (k := 1) (n := 2) rfl rfl]
  simp only [sSame_refl]
  refine key36 hwk (by rw [List.length_map]; omega) (nrm_kErr hs hNc (by rw [List.length_map]; omega) (by omega)) hs (by rw [List.length_map]; omega) _ _ _ _ ?_
  rintro _ rfl _
  rw [if_pos ((nrm_iff _).2 hNc)]
  simp only [sExt0, sExt1]
  have e1 : keyS (applyS c g f).length (applyS c g f) (degS (applyS c g f).length lines) = keyS f.length f (degS f.length lines) := by
    rw [hla, hfn']; exact k1
  have e2 : keyS (f.map fun x => (f.length : Int) + 1 - x).length (f.map fun x => (f.length : Int) + 1 - x) (degS (f.map fun x => (f.length : Int) + 1 - x).length lines) = keyS f.length f (degS f.length lines) := by
    rw [List.length_map, hfn']; exact k2
  rw [e1, e2]
  have hkl : (keyS f.length f (degS f.length lines)).length = f.length := by
    unfold keyS
    by_cases q : lexLt (upS f.length f (degS f.length lines)).reverse (upS f.length f (degS f.length lines))
    · rw [if_pos q, List.length_reverse, upS_length]
    · rw [if_neg q, upS_length]
  rw [sAdd (by omega), sAdd (by omega)]
  simp only [sEql, show ((0 : Int) + 0 + 0 = 0) by omega, decide_true, sG_tt, sLen_lst, sFx]
  rw [H2.load (k := 1) (i := 0) rfl rfl, hkl]
  simp only [sEql, hfn, decide_true, sPick_t, sG_tt, gW_tt]
  refine sameInts35 (by rw [hkl]; omega) _ _ _ _ ?_
  rintro _ rfl _
  simp only [decide_true, sPick_t, sG_tt, gW_tt]
  refine sameInts35 (by rw [hkl]; omega) _ _ _ _ ?_
  rintro _ rfl _
  simp only [decide_true, sPick_t, gW_tt]
  exact awk _ ret
end Go.Ev
