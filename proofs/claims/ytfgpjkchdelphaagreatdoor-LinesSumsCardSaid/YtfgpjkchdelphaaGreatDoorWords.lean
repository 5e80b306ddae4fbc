import Derived.Test.YtfgpjkchdelphaaGreatDoorEvD
import Derived.Deep.Matrix
import Derived.Lib.SmallJoins
import Derived.Test.YtfgpjkchdelphaaGreatDoorCode
import GoSem.Core.Next
import Derived.Test.YtfgpjkchdelphaaGreatDoorLaws
import Derived.IntWalk
import Derived.KernelRfl
set_option linter.unusedSimpArgs false
set_option linter.unusedVariables false
namespace Go.Ev
open Go Go.RowKit Go.ChangeShapes Go.WideShapes Go.Deep Go.Joins
variable {H : Type} {enc : TypeId × Value → H} {P : Program}
theorem cellOf_of_cell {w : World} {a : Addr} {i : Nat} {v : Value} (h : w.cell? (a.add i) = some v) : a = ⟨a.block, a.off, a.spot⟩ ∧ (i = 0 → a.spot = none) ∧ cellOf w a.block (a.off + i) = some v := by
 unfold Addr.add at h
 by_cases hi : i = 0
 ·subst hi
  rw [if_pos rfl] at h
  unfold World.cell? at h
  split at h
  ·rename_i c ty fr hb
   split at h
   ·cases h
   ·rename_i hs
    refine ⟨rfl, fun _ => by cases e : a.spot <;> simp_all, ?_⟩
    simp [cellOf, hb, h]
  ·cases h
 ·rw [if_neg hi] at h
  unfold World.cell? at h
  split at h
  ·rename_i c ty fr hb
   refine ⟨rfl, fun q => absurd q hi, ?_⟩
   simp at h hb
   simp [cellOf, hb, h]
  ·cases h
theorem VRF_mk {E : Env} {b : Nat} : ∀ {l : List AV} {off : Nat}, (∀ i a, l[i]? = some a → ∃ v, E.fz b (off + i) = some v ∧ VR E a v) → VRF E l b off
 | [], _, _ => by simp only [VRF]
 | a :: l, off, h => by
  simp only [VRF]
  obtain ⟨v, h1, h2⟩ := h 0 a rfl
  refine ⟨v, h1, h2, VRF_mk fun i x hx => ?_⟩
  obtain ⟨v', h3, h4⟩ := h (i + 1) x (by simpa using hx)
  exact ⟨v', by rw [Nat.add_assoc, Nat.add_comm 1 i]; exact h3, h4⟩
theorem scalI2 (l : List Int) : (l.map I).all scal = true := by
 rw [List.all_eq_true]; intro v hv
 obtain ⟨x, _, rfl⟩ := List.mem_map.1 hv; rfl
theorem scalT2 (l : List (List Int)) : (l.map encI).all scal = true := by
 rw [List.all_eq_true]; intro v hv
 obtain ⟨x, _, rfl⟩ := List.mem_map.1 hv; rfl
theorem vr_row {w : World} {hl : LaidW w} {p : Option Addr} {L C : Nat} {Z : List Int} (hL : L ≤ C) (hZ : Z.length = C) (h0 : p = none → C = 0) (hc : ∀ a, p = some a → ∀ c, c < C → w.cell? (a.add c) = some (.int .i64 (Z.getD c 0))) :
  VR (allE w hl) (encI (Z.take L)) (.slice p L C) := by
 have hlen : (Z.take L).length = L := by rw [List.length_take]; omega
 simp only [VR]
 refine ⟨scalI2 _, by simp, p, C, by rw [hlen], ?_⟩
 rw [hlen]
 cases p with
 | none => exact .inl ⟨by have := h0 rfl; omega, fun _ => h0 rfl⟩
 | some a =>
  by_cases hL0 : L = 0
  ·exact .inl ⟨hL0, by intro q; cases q⟩
  ·obtain ⟨_, hs, _⟩ := cellOf_of_cell (hc a rfl 0 (by omega))
   obtain ⟨b, off, sp⟩ := a
   have : sp = none := hs rfl
   subst this
   refine .inr ⟨b, off, rfl, hL, VRF_mk fun i x hx => ?_⟩
   rw [List.getElem?_map] at hx
   have hi : i < L := by
    cases e : (Z.take L)[i]? with
    | none => rw [e] at hx; cases hx
    | some y => have := (List.getElem?_eq_some_iff.1 e).1; omega
   obtain ⟨_, _, h3⟩ := cellOf_of_cell (hc _ rfl i (by omega))
   refine ⟨_, h3, ?_⟩
   rw [List.getElem?_take, if_pos hi] at hx
   cases e : Z[i]? with
   | none => rw [e] at hx; cases hx
   | some y =>
    rw [e] at hx
    have hx := Option.some.inj hx
    subst hx
    rw [List.getD_eq_getElem?_getD, e]
    simp only [VR, Option.getD_some]
theorem open_listI {t e : TypeId} {w : World} {hl : LaidW w} {base : Nat} {held : Bool} {fuel : Nat} {cs : List Value} {x : DataW H × List MemPlace} (ht : P.underlying t = some (.slice e)) (he : P.underlying e = some (.int .i64)) (hc : P.cellsOf e = 1)
  (h : DataW.trod enc P w base (fun _ => true) held fuel t cs = some x) : ∃ (l : List Int) (v : Value), cs = [v] ∧ VR (allE w hl) (encI l) v ∧ l.length ≤ maxLen ∧ ∀ n ∈ l, (Lit.int .i64 n).wf = true := by
 rcases open_ints ht he hc h with ⟨rfl, _⟩ | ⟨a, len, cap, zs, rfl, hb, hl, hm, hz, _, hcell, hwz⟩
 ·exact ⟨[], _, rfl, by simp only [VR]; exact ⟨rfl, rfl, none, 0, rfl, .inl ⟨rfl, fun _ => rfl⟩⟩, by simp, by simp⟩
 ·simp only [if_true] at hz
  refine ⟨zs.take len, _, rfl, vr_row hl hz (fun q => by cases q) (fun a' q c hc => by cases q; exact hcell c (by rw [hz]; exact hc)), by rw [List.length_take]; omega, fun n hn => hwz n (List.mem_of_mem_take hn)⟩
theorem open_listV {r : Reach} {b0 : Nat} {t e : TypeId} {w : World} {hl : LaidW w} {base : Nat} {held : Bool} {v : Value} {d : DataW H} {p : List MemPlace} (ht : P.underlying t = some (.slice e)) (he : P.underlying e = some (.int .i64)) (hc : P.cellsOf e = 1)
  (hval : Value.okWide P w r b0 t v) (h : DataW.Trod enc P w base (fun _ => true) held t v d p) : ∃ l : List Int, VR (allE w hl) (encI l) v ∧ l.length ≤ maxLen ∧ ∀ n ∈ l, (Lit.int .i64 n).wf = true := by
 obtain ⟨fuel, hf⟩ := h
 obtain ⟨a, len, cap, rfl⟩ := okWide_slice ht hval
 obtain ⟨l, v', hv, h1, h2, h3⟩ := open_listI ht he hc hf
 simp only [Value.cells, List.cons.injEq, and_true] at hv
 subst hv
 exact ⟨l, h1, h2, h3⟩
theorem open_listT {t e q : TypeId} {w : World} {hl : LaidW w} {base : Nat} {held : Bool} {fuel : Nat} {cs : List Value} {x : DataW H × List MemPlace} (ht : P.underlying t = some (.slice e)) (he : P.underlying e = some (.slice q)) (hq : P.underlying q = some (.int .i64))
  (ce : P.cellsOf e = 1) (cq : P.cellsOf q = 1) (h : DataW.trod enc P w base (fun _ => true) held fuel t cs = some x) :
  ∃ (ll : List (List Int)) (v : Value), cs = [v] ∧ VR (allE w hl) (encT ll) v ∧ ll.length ≤ maxLen ∧ ∀ l ∈ ll, l.length ≤ maxLen ∧ ∀ n ∈ l, (Lit.int .i64 n).wf = true := by
 rcases open_int_rows ht he hq ce cq h with ⟨rfl, _⟩ | ⟨a, len, cap, A, L, C, Z, rfl, hb, hl, hm, _, hr⟩
 ·exact ⟨[], _, rfl, by simp only [VR]; exact ⟨rfl, rfl, none, 0, rfl, .inl ⟨rfl, fun _ => rfl⟩⟩, by simp, by simp⟩
 ·refine ⟨(List.range len).map fun r => (Z r).take (L r), _, rfl, ?_, by simp; omega, fun l hm' => ?_⟩
  ·simp only [VR]
   refine ⟨scalT2 _, by simp, some a, cap, by simp, ?_⟩
   by_cases h0 : len = 0
   ·exact .inl ⟨by simp [h0], by intro q; cases q⟩
   ·obtain ⟨_, hs, _⟩ := cellOf_of_cell (hr 0 (by omega)).1
    obtain ⟨b, off, sp⟩ := a
    have : sp = none := hs rfl
    subst this
    refine .inr ⟨b, off, rfl, by simpa using hl, VRF_mk fun i x hx => ?_⟩
    rw [List.map_map, List.getElem?_map] at hx
    have hi : i < len := by
     cases e : (List.range len)[i]? with
     | none => rw [e] at hx; cases hx
     | some y => have := (List.getElem?_eq_some_iff.1 e).1; simpa using this
    rw [List.getElem?_range hi] at hx
    have hx := Option.some.inj hx
    subst hx
    obtain ⟨g1, g2, g3, g4, _, g6, g7⟩ := hr i (by omega)
    obtain ⟨_, _, h3⟩ := cellOf_of_cell g1
    exact ⟨_, h3, vr_row g2 g4 g6 fun a' q c hc => (g7 a' q).2 c hc⟩
  ·obtain ⟨r, hr', rfl⟩ := List.mem_map.1 hm'
   obtain ⟨_, g2, g3, g4, g5, _⟩ := hr r (by have := List.mem_range.1 hr'; omega)
   exact ⟨by rw [List.length_take]; omega, fun n hn => g5 n (List.mem_of_mem_take hn)⟩
theorem open_system {r : Reach} {b0 base : Nat} {held : Bool} {w : World} {hl : LaidW w} {t ti tl tr : TypeId} {f0 f1 : Field} {v : Value} {d : DataW H} {p : List MemPlace} (hs : P.underlying t = some (.struct #[f0, f1])) (hone : oneCellFields P #[f0, f1] = true) (hC : P.cellsOf t = 2)
  (e0 : f0.type = ti) (e1 : f1.type = tl) (u0 : P.underlying ti = some (.int .i64)) (u1 : P.underlying tl = some (.slice tr)) (u2 : P.underlying tr = some (.slice ti)) (c1 : P.cellsOf tr = 1) (c2 : P.cellsOf ti = 1)
  (hv : Value.okWide P w r b0 t v) (h : DataW.Trod enc P w base (fun _ => true) held t v d p) :
  ∃ (cells : Int) (lines : List (List Int)), VR (allE w hl) (.agg [I cells, encT lines]) v ∧ (Lit.int .i64 cells).wf = true ∧ lines.length ≤ maxLen ∧ ∀ l ∈ lines, l.length ≤ maxLen ∧ ∀ n ∈ l, (Lit.int .i64 n).wf = true := by
 obtain ⟨v0, v1, y0, y1, n, rfl, _, _, h0, h1⟩ := open_agg2 hs hone hC hv h
 rw [e0] at h0
 rw [e1] at h1
 obtain ⟨x, hx, _, hw⟩ := DataW.trod_int u0 h0
 simp only [List.cons.injEq, and_true] at hx
 subst hx
 obtain ⟨ll, v', hv', g1, g2, g3⟩ := open_listT u1 u2 u0 c1 c2 h1
 simp only [List.cons.injEq, and_true] at hv'
 subst hv'
 refine ⟨x, ll, ?_, hw, g2, g3⟩
 simp only [VR]
 exact ⟨rfl, _, rfl, VRL.cons (by simp only [VR]) (VRL.cons g1 VRL.nil)⟩
end Go.Ev
namespace Go.Ev
open Go Go.Proofs
theorem dreg {B : Nat} : DregAll Tryz.prog B Prop := dreg_all mixed
variable {B : Nat}
theorem sameInts35 {a b : List Int} (ha : a.length ≤ 1000000000) : Pure Tryz.prog B 49 [encI a, encI b] (· = .bool (decide (a = b))) := by
 intro p h nx K hK
 refine by_body tbl_ok dreg (a.length + 2) fun hf => ?_
 rw [F49.go]
 simp (disch := omega) only [sAdd, sSub, sMul, sEql, sNeq, sLss, sLeq, sGtr, sGeq, sPick_t, sPick_f, sCond_t, sCond_f, sG_tt, sG_ff, sG_tf, sG_ft, sNot_b, sExt0, sExt1, sExt2, sPart0, sPart1, sPart2, sLen_lst, sLen_sl, sLen_nils, sSame_refl, decide_true, decide_false, Bool.not_true, Bool.not_false, sChk_t]
 by_cases hl : a.length = b.length
 ·simp only [hl, decide_true, Bool.not_true, sCond_f]
  refine F49.L2 (fun m z3 h' nx' => ∃ i : Nat, z3 = I i ∧ m = a.length - i ∧ i ≤ a.length ∧ h' = h ∧ nx' = nx ∧ a.take i = b.take i) (m := a.length) (by omega) ⟨0, rfl, by simp, by omega, rfl, rfl, by simp⟩ ?_
  rintro m z2 z3 z5 z6 _ _ R ⟨i, rfl, rfl, hi, rfl, rfl, htk⟩ hR
  simp (disch := omega) only [sAdd, sSub, sMul, sEql, sNeq, sLss, sLeq, sGtr, sGeq, sPick_t, sPick_f, sCond_t, sCond_f, sG_tt, sG_ff, sG_tf, sG_ft, sNot_b, sExt0, sExt1, sExt2, sPart0, sPart1, sPart2, sLen_lst, sLen_sl, sLen_nils, sSame_refl, decide_true, decide_false, Bool.not_true, Bool.not_false, sChk_t]
  by_cases hlt : i < a.length
  ·have h1 : (i : Int) < a.length := by omega
   have hb : i < b.length := by omega
   simp only [h1, decide_true, sCond_t]
   rw [sIxL rfl hlt, ldL (getI (List.getElem?_eq_getElem hlt)), sIxL rfl hb, ldL (getI (List.getElem?_eq_getElem hb))]
   simp (disch := omega) only [sAdd, sSub, sMul, sEql, sNeq, sLss, sLeq, sGtr, sGeq, sPick_t, sPick_f, sCond_t, sCond_f, sG_tt, sG_ff, sG_tf, sG_ft, sNot_b, sExt0, sExt1, sExt2, sPart0, sPart1, sPart2, sLen_lst, sLen_sl, sLen_nils, sSame_refl, decide_true, decide_false, Bool.not_true, Bool.not_false, sChk_t]
   by_cases he : a[i] = b[i]
   ·simp only [he, decide_true, Bool.not_true, sCond_f]
    refine hR (a.length - (i + 1)) _ _ _ _ _ _ (by omega) ⟨i + 1, rfl, rfl, by omega, rfl, rfl, ?_⟩
    rw [List.take_add_one, List.take_add_one, htk, List.getElem?_eq_getElem hlt, List.getElem?_eq_getElem hb, he]
   ·simp only [he, decide_false, Bool.not_false, sCond_t]
    refine hK _ ?_ hf
    rw [decide_eq_false]
    rintro rfl
    exact he rfl
  ·have h1 : ¬ (i : Int) < a.length := by omega
   simp only [h1, decide_false, sCond_f]
   rw [F49.k9]
   refine hK _ ?_ hf
   rw [List.take_of_length_le (by omega), List.take_of_length_le (by omega)] at htk
   rw [decide_eq_true htk]
 ·have h1 : ¬ (a.length : Int) = b.length := by omega
  simp only [h1, decide_false, Bool.not_false, sCond_t]
  refine hK _ ?_ hf
  rw [decide_eq_false]
  rintro rfl; exact hl rfl
end Go.Ev
namespace Go.Ev
open Go Go.Proofs
variable {B : Nat}
theorem when123 (b : Bool) (e : Int) : Pure Tryz.prog B 88 [.bool b, I e] (· = I (if b then e else 0)) := by
 intro p h nx K hK
 refine by_body tbl_ok dreg 9 fun hf => ?_
 rw [F88.go]
 cases b <;> simp (disch := omega) only [sAdd, sSub, sMul, sEql, sNeq, sLss, sLeq, sGtr, sGeq, sPick_t, sPick_f, sCond_t, sCond_f, sG_tt, sG_ff, sG_tf, sG_ft, sNot_b, sExt0, sExt1, sExt2, sPart0, sPart1, sPart2, sLen_lst, sLen_sl, sLen_nils, sSame_refl, decide_true, decide_false, Bool.not_true, Bool.not_false, sChk_t] <;> exact hK _ rfl hf
def firstE : List Int → Int
 | [] => 0
 | e :: l => if e ≠ 0 then e else firstE l
theorem firstE_skip : ∀ (l : List Int) (i : Nat), (∀ e ∈ l.take i, e = 0) → firstE l = firstE (l.drop i)
 | l, 0, _ => rfl
 | [], _ + 1, _ => rfl
 | e :: l, i + 1, h => by
  have h0 : e = 0 := h e (by simp)
  rw [firstE, if_neg (by simp [h0]), List.drop_succ_cons]
  exact firstE_skip l i fun x hx => h x (by simp [hx])
theorem first121 {l : List Int} (hl : l.length ≤ 1000000) : Pure Tryz.prog B 86 [encI l] (· = I (firstE l)) := by
 intro p h nx K hK
 refine by_body tbl_ok dreg 10000000 fun hf => ?_
 rw [F86.go]
 simp (disch := omega) only [sAdd, sSub, sMul, sEql, sNeq, sLss, sLeq, sGtr, sGeq, sPick_t, sPick_f, sCond_t, sCond_f, sG_tt, sG_ff, sG_tf, sG_ft, sNot_b, sExt0, sExt1, sExt2, sPart0, sPart1, sPart2, sLen_lst, sLen_sl, sLen_nils, sSame_refl, decide_true, decide_false, Bool.not_true, Bool.not_false, sChk_t]
 refine F86.L1 (fun m z5 h' nx' => ∃ i : Nat, z5 = I i ∧ l.length - i = m ∧ i ≤ l.length ∧ h' = h ∧ nx' = nx ∧ ∀ e ∈ l.take i, e = 0) (m := l.length) (by omega) ⟨0, rfl, rfl, by omega, rfl, rfl, by simp⟩ ?_
 rintro m z1 z2 z5 z6 z7 _ _ R ⟨i, rfl, rfl, hi, rfl, rfl, htk⟩ hR
 simp (disch := omega) only [sAdd, sSub, sMul, sEql, sNeq, sLss, sLeq, sGtr, sGeq, sPick_t, sPick_f, sCond_t, sCond_f, sG_tt, sG_ff, sG_tf, sG_ft, sNot_b, sExt0, sExt1, sExt2, sPart0, sPart1, sPart2, sLen_lst, sLen_sl, sLen_nils, sSame_refl, decide_true, decide_false, Bool.not_true, Bool.not_false, sChk_t]
 by_cases hlt : i < l.length
 ·simp only [show (i : Int) < (l.length : Int) by omega, decide_true, sCond_t]
  have hx : l[i]? = some l[i] := List.getElem?_eq_getElem hlt
  rw [sIxL rfl hlt, ldL (getI hx)]
  simp (disch := omega) only [sAdd, sSub, sMul, sEql, sNeq, sLss, sLeq, sGtr, sGeq, sPick_t, sPick_f, sCond_t, sCond_f, sG_tt, sG_ff, sG_tf, sG_ft, sNot_b, sExt0, sExt1, sExt2, sPart0, sPart1, sPart2, sLen_lst, sLen_sl, sLen_nils, sSame_refl, decide_true, decide_false, Bool.not_true, Bool.not_false, sChk_t]
  have hd : l.drop i = l[i] :: l.drop (i + 1) := List.drop_eq_getElem_cons hlt
  by_cases h0 : l[i] = 0
  ·simp only [h0, decide_true, Bool.not_true, sCond_f]
   refine hR _ _ _ _ _ _ _ _ (by omega) ⟨i + 1, rfl, rfl, by omega, rfl, rfl, fun e he => ?_⟩
   rw [List.take_add_one, hx] at he
   rcases List.mem_append.1 he with q | q
   ·exact htk e q
   ·simp at q; rw [q]; exact h0
  ·simp only [h0, decide_false, Bool.not_false, sCond_t]
   refine hK _ ?_ hf
   rw [firstE_skip l i htk, hd, firstE, if_pos h0]
 ·simp only [show ¬ (i : Int) < (l.length : Int) by omega, decide_false, sCond_f]
  rw [F86.k8]
  refine hK _ ?_ hf
  rw [firstE_skip l i htk, List.drop_of_length_le (by omega)]; rfl
theorem equal150 {a b : List Int} (ha : a.length ≤ 1000000000) : Pure Tryz.prog B 177 [encI a, encI b] (· = .bool (decide (a = b))) := by
 intro p h nx K hK
 refine by_body tbl_ok dreg (a.length + 2) fun hf => ?_
 rw [F177.go]
 simp (disch := omega) only [sAdd, sSub, sMul, sEql, sNeq, sLss, sLeq, sGtr, sGeq, sPick_t, sPick_f, sCond_t, sCond_f, sG_tt, sG_ff, sG_tf, sG_ft, sNot_b, sExt0, sExt1, sExt2, sPart0, sPart1, sPart2, sLen_lst, sLen_sl, sLen_nils, sSame_refl, decide_true, decide_false, Bool.not_true, Bool.not_false, sChk_t]
 by_cases hl : a.length = b.length
 ·simp only [hl, decide_true, Bool.not_true, sCond_f]
  refine F177.L2 (fun m z6 h' nx' => ∃ i : Nat, z6 = I i ∧ a.length - i = m ∧ i ≤ a.length ∧ h' = h ∧ nx' = nx ∧ a.take i = b.take i) (m := a.length) (by omega) ⟨0, rfl, by simp, by omega, rfl, rfl, by simp⟩ ?_
  rintro m z2 z3 z6 z7 z8 _ _ R ⟨i, rfl, rfl, hi, rfl, rfl, htk⟩ hR
  simp (disch := omega) only [sAdd, sSub, sMul, sEql, sNeq, sLss, sLeq, sGtr, sGeq, sPick_t, sPick_f, sCond_t, sCond_f, sG_tt, sG_ff, sG_tf, sG_ft, sNot_b, sExt0, sExt1, sExt2, sPart0, sPart1, sPart2, sLen_lst, sLen_sl, sLen_nils, sSame_refl, decide_true, decide_false, Bool.not_true, Bool.not_false, sChk_t]
  by_cases hlt : i < a.length
  ·have hb : i < b.length := by omega
   simp only [show (i : Int) < (b.length : Int) by omega, decide_true, sCond_t]
   rw [sIxL rfl hlt, ldL (getI (List.getElem?_eq_getElem hlt)), sIxL rfl hb, ldL (getI (List.getElem?_eq_getElem hb))]
   simp (disch := omega) only [sAdd, sSub, sMul, sEql, sNeq, sLss, sLeq, sGtr, sGeq, sPick_t, sPick_f, sCond_t, sCond_f, sG_tt, sG_ff, sG_tf, sG_ft, sNot_b, sExt0, sExt1, sExt2, sPart0, sPart1, sPart2, sLen_lst, sLen_sl, sLen_nils, sSame_refl, decide_true, decide_false, Bool.not_true, Bool.not_false, sChk_t]
   by_cases he : a[i] = b[i]
   ·simp only [he, decide_true, Bool.not_true, sCond_f]
    refine hR (a.length - (i + 1)) _ _ _ _ _ _ _ (by omega) ⟨i + 1, rfl, rfl, by omega, rfl, rfl, ?_⟩
    rw [List.take_add_one, List.take_add_one, htk, List.getElem?_eq_getElem hlt, List.getElem?_eq_getElem hb, he]
   ·simp only [he, decide_false, Bool.not_false, sCond_t]
    refine hK _ ?_ hf
    rw [decide_eq_false]
    rintro rfl
    exact he rfl
  ·simp only [show ¬ (i : Int) < (b.length : Int) by omega, decide_false, sCond_f]
   rw [F177.k9]
   refine hK _ ?_ hf
   rw [List.take_of_length_le (by omega), List.take_of_length_le (by omega)] at htk
   rw [decide_eq_true htk]
 ·have h1 : ¬ (a.length : Int) = b.length := by omega
  simp only [h1, decide_false, Bool.not_false, sCond_t]
  refine hK _ ?_ hf
  rw [decide_eq_false]
  rintro rfl; exact hl rfl
theorem contains148 {h0 h : T Blk} {nx : Pa} {L : List Ob} {k : Nat} {x p : Pa} {l : List Int} {prev : List (List Int)} {K : Kw Prop} (H : Hp h0 h nx L) (hk : L[k]? = some (.arr x [encI l])) (hp : prev.length ≤ 1000000) (hw : ∀ q ∈ prev, q.length ≤ 1000000)
  (hK : K (.bool (decide (l ∈ prev))) h nx = .ok True) : (CS Tryz.prog B).fn 175 p [encT prev, .fn 176 (.of 176) [.ptr x 0]] h nx K = .ok True := by
 refine CS_fn_mono (p := .of 175) (K := K) (by_body tbl_ok dreg 9 fun hf => ?_) fun _ _ _ _ q => q
 rw [F175.go]
 refine CS_fn_mono (p := .of 245) (K := fun v1 h2 n3 => sBin .geq .int v1 (I 0) fun v4 => K v4 h2 n3) (by_body tbl_ok dreg 10000000 fun hf => ?_) fun _ _ _ _ q => q
 rw [F245.go]
 simp (disch := omega) only [sAdd, sSub, sMul, sEql, sNeq, sLss, sLeq, sGtr, sGeq, sPick_t, sPick_f, sCond_t, sCond_f, sG_tt, sG_ff, sG_tf, sG_ft, sNot_b, sExt0, sExt1, sExt2, sPart0, sPart1, sPart2, sLen_lst, sLen_sl, sLen_nils, sSame_refl, decide_true, decide_false, Bool.not_true, Bool.not_false, sChk_t]
 refine F245.L1 (fun m z5 h' nx' => ∃ i : Nat, z5 = I i ∧ prev.length - i = m ∧ i ≤ prev.length ∧ h' = h ∧ nx' = nx ∧ l ∉ prev.take i) (m := prev.length) (by omega) ⟨0, rfl, rfl, by omega, rfl, rfl, by simp⟩ ?_
 rintro m z2 z3 z5 z6 z7 _ _ R ⟨i, rfl, rfl, hi, rfl, rfl, htk⟩ hR
 simp (disch := omega) only [sAdd, sSub, sMul, sEql, sNeq, sLss, sLeq, sGtr, sGeq, sPick_t, sPick_f, sCond_t, sCond_f, sG_tt, sG_ff, sG_tf, sG_ft, sNot_b, sExt0, sExt1, sExt2, sPart0, sPart1, sPart2, sLen_lst, sLen_sl, sLen_nils, sSame_refl, decide_true, decide_false, Bool.not_true, Bool.not_false, sChk_t]
 by_cases hlt : i < prev.length
 ·simp only [show (i : Int) < (prev.length : Int) by omega, decide_true, sCond_t]
  have hx : prev[i]? = some prev[i] := List.getElem?_eq_getElem hlt
  rw [sIxL rfl hlt, ldL (getT hx), sCall_fn]
  refine CS_fn_mono (p := .of 176) (by_body tbl_ok dreg 9 fun hf => ?_) fun _ _ _ _ q => q
  show callFn tbl 9 _ (Pa.of 176) [encI prev[i], .ptr x 0] _ _ _ = _
  rw [F176.go, H.load (k := k) (i := 0) hk rfl]
  refine equal150 (Nat.le_trans (hw _ (List.getElem_mem hlt)) (by omega)) _ _ _ _ ?_
  rintro _ rfl _
  by_cases he : prev[i] = l
  ·simp only [he, decide_true, sCond_t, sGeq, show (0 : Int) ≤ (i : Int) by omega]
   rw [decide_eq_true (he ▸ List.getElem_mem hlt)] at hK
   exact hK
  ·simp only [he, decide_false, sCond_f]
   refine hR _ _ _ _ _ _ _ _ (by omega) ⟨i + 1, rfl, rfl, by omega, rfl, rfl, fun q => ?_⟩
   rw [List.take_add_one, hx] at q
   rcases List.mem_append.1 q with q | q
   ·exact htk q
   ·simp at q; exact he q.symm
 ·simp only [show ¬ (i : Int) < (prev.length : Int) by omega, decide_false, sCond_f]
  rw [F245.k8]
  rw [List.take_of_length_le (by omega)] at htk
  rw [decide_eq_false htk] at hK
  simp only [sGeq, show ¬ (0 : Int) ≤ -1 by omega, decide_false]
  exact hK
end Go.Ev
namespace Go.Ev
open Go Go.Proofs
variable {B : Nat}
def cellsErr (cells : Int) : Option Int → List Int → Int
 | _, [] => 0
 | p, c :: l => if c < 0 ∨ cells ≤ c then 10 else if p.any (fun q => decide (c ≤ q)) then 11 else cellsErr cells (some c) l
def lineErr (cells : Int) (prev : List (List Int)) (l : List Int) : Int := if l = [] then 12 else if cellsErr cells none l ≠ 0 then cellsErr cells none l else if l ∈ prev then 9 else 0
def linesErr (cells : Int) : List (List Int) → List (List Int) → Int
 | _, [] => 0
 | prev, l :: r => if lineErr cells prev l ≠ 0 then lineErr cells prev l else linesErr cells (prev ++ [l]) r
def sysErr (cells : Int) (lines : List (List Int)) : Int := if cells < 1 ∨ 256 < cells then 3 else if 128 < lines.length then 5 else linesErr cells [] lines
def pv (l : List Int) (k : Nat) : Option Int := if k = 0 then none else l[k - 1]?
theorem pv_succ {l : List Int} {k : Nat} (h : k < l.length) : pv l (k + 1) = some l[k] := by simp [pv, h]
theorem short25 {cells a b : Int} {lines : List (List Int)} (hb : b ≤ 1000000) : Pure Tryz.prog B 16 [.agg [I cells, encT lines], I a, I b] (· = .bool (decide ((lines.length : Int) ≤ b ∧ ∀ l ∈ lines, (l.length : Int) ≤ a))) := by
 refine pure_hp fun h nx K H0 hK => by_body tbl_ok dreg 10000000 fun hf => ?_
 rw [F16.go]
 refine H0.box (l := [I cells, encT lines]) rfl fun bx h1 nx1 H1 => ?_
 rw [sFx, H1.load (k := 0) (i := 0 + 1) rfl rfl]
 simp (disch := omega) only [sAdd, sSub, sMul, sEql, sNeq, sLss, sLeq, sGtr, sGeq, sPick_t, sPick_f, sCond_t, sCond_f, sG_tt, sG_ff, sG_tf, sG_ft, sNot_b, sExt0, sExt1, sExt2, sPart0, sPart1, sPart2, sLen_lst, sLen_sl, sLen_nils, sSame_refl, decide_true, decide_false, Bool.not_true, Bool.not_false, sChk_t]
 have ret : ∀ v : Bool, v = decide ((lines.length : Int) ≤ b ∧ ∀ l ∈ lines, (l.length : Int) ≤ a) → K (.bool v) h1 nx1 = .ok True := fun v hv => by rw [hv]; exact hK _ _ _ _ _ H1 (frz_fixd rfl) rfl
 by_cases hlen : b < (lines.length : Int)
 ·simp only [hlen, decide_true, sCond_t]
  refine ret _ ?_
  rw [decide_eq_false]
  rintro ⟨q, _⟩; omega
 simp only [hlen, decide_false, sCond_f]
 refine F16.L2 (fun m z5 h' nx' => ∃ i : Nat, z5 = I i ∧ lines.length - i = m ∧ i ≤ lines.length ∧ h' = h1 ∧ nx' = nx1 ∧ ∀ l ∈ lines.take i, (l.length : Int) ≤ a) (m := lines.length) (by omega) ⟨0, rfl, rfl, by omega, rfl, rfl, by simp⟩ ?_
 rintro m z4 z5 z7 z8 _ _ R ⟨i, rfl, rfl, hi, rfl, rfl, htk⟩ hR
 rw [sFx, H1.load (k := 0) (i := 0 + 1) rfl rfl]
 simp (disch := omega) only [sAdd, sSub, sMul, sEql, sNeq, sLss, sLeq, sGtr, sGeq, sPick_t, sPick_f, sCond_t, sCond_f, sG_tt, sG_ff, sG_tf, sG_ft, sNot_b, sExt0, sExt1, sExt2, sPart0, sPart1, sPart2, sLen_lst, sLen_sl, sLen_nils, sSame_refl, decide_true, decide_false, Bool.not_true, Bool.not_false, sChk_t]
 by_cases hlt : i < lines.length
 ·simp only [show (i : Int) < (lines.length : Int) by omega, decide_true, sCond_t]
  have hx : lines[i]? = some lines[i] := List.getElem?_eq_getElem hlt
  rw [sFx, H1.load (k := 0) (i := 0 + 1) rfl rfl, sIxL rfl hlt, ldL (getT hx)]
  simp (disch := omega) only [sAdd, sSub, sMul, sEql, sNeq, sLss, sLeq, sGtr, sGeq, sPick_t, sPick_f, sCond_t, sCond_f, sG_tt, sG_ff, sG_tf, sG_ft, sNot_b, sExt0, sExt1, sExt2, sPart0, sPart1, sPart2, sLen_lst, sLen_sl, sLen_nils, sSame_refl, decide_true, decide_false, Bool.not_true, Bool.not_false, sChk_t]
  by_cases hw : a < (lines[i].length : Int)
  ·simp only [hw, decide_true, sCond_t]
   refine ret _ ?_
   rw [decide_eq_false]
   rintro ⟨_, q⟩
   have := q _ (List.getElem_mem hlt)
   omega
  ·simp only [hw, decide_false, sCond_f]
   refine hR _ _ _ _ _ _ _ (by omega) ⟨i + 1, rfl, rfl, by omega, rfl, rfl, fun l hl => ?_⟩
   rw [List.take_add_one, hx] at hl
   rcases List.mem_append.1 hl with q | q
   ·exact htk l q
   ·simp at q; rw [q]; omega
 ·simp only [show ¬ (i : Int) < (lines.length : Int) by omega, decide_false, sCond_f]
  rw [F16.k9]
  rw [List.take_of_length_le (by omega)] at htk
  refine ret _ ?_
  rw [decide_eq_true ⟨by omega, htk⟩]
theorem hasLine84 {prev : List (List Int)} {l : List Int} (hp : prev.length ≤ 1000000) (hw : ∀ q ∈ prev, q.length ≤ 1000000000) : Pure Tryz.prog B 90 [encT prev, encI l] (· = .bool (decide (l ∈ prev))) := by
 intro p h nx K hK
 refine by_body tbl_ok dreg 10000000 fun hf => ?_
 rw [F90.go]
 refine F90.L1 (fun m z3 h' nx' => ∃ i : Nat, z3 = I i ∧ prev.length - i = m ∧ i ≤ prev.length ∧ h' = h ∧ nx' = nx ∧ l ∉ prev.take i) (m := prev.length) (by omega) ⟨0, rfl, rfl, by omega, rfl, rfl, by simp⟩ ?_
 rintro m z2 z3 z4 z5 _ _ R ⟨i, rfl, rfl, hi, rfl, rfl, htk⟩ hR
 simp (disch := omega) only [sAdd, sSub, sMul, sEql, sNeq, sLss, sLeq, sGtr, sGeq, sPick_t, sPick_f, sCond_t, sCond_f, sG_tt, sG_ff, sG_tf, sG_ft, sNot_b, sExt0, sExt1, sExt2, sPart0, sPart1, sPart2, sLen_lst, sLen_sl, sLen_nils, sSame_refl, decide_true, decide_false, Bool.not_true, Bool.not_false, sChk_t]
 by_cases hlt : i < prev.length
 ·simp only [show (i : Int) < (prev.length : Int) by omega, decide_true, sCond_t]
  have hx : prev[i]? = some prev[i] := List.getElem?_eq_getElem hlt
  rw [sIxL rfl hlt, ldL (getT hx)]
  refine sameInts35 (hw _ (List.getElem_mem hlt)) _ _ _ _ ?_
  rintro _ rfl _
  by_cases he : prev[i] = l
  ·simp only [he, decide_true, sCond_t]
   refine hK _ ?_ hf
   rw [decide_eq_true (he ▸ List.getElem_mem hlt)]
  ·simp only [he, decide_false, sCond_f]
   refine hR _ _ _ _ _ _ _ (by omega) ⟨i + 1, rfl, rfl, by omega, rfl, rfl, fun q => ?_⟩
   rw [List.take_add_one, hx] at q
   rcases List.mem_append.1 q with q | q
   ·exact htk q
   ·simp at q; exact he q.symm
 ·simp only [show ¬ (i : Int) < (prev.length : Int) by omega, decide_false, sCond_f]
  rw [F90.k8]
  rw [List.take_of_length_le (by omega)] at htk
  refine hK _ ?_ hf
  rw [decide_eq_false htk]
end Go.Ev
namespace Go.Ev
open Go Go.Proofs
variable {B : Nat}
theorem sSliceF {n i : Nat} {l : List AV} {op : AV → OP} (hn : 1 ≤ n) (hi : i ≤ n) : sSlice 1 (.lst 1 n l) none (some (I (i : Int))) none op = op (.lst 1 i (l.take i)) := by
 show (bif Nat.beq 1 1 && Nat.ble 1 n then (match bnd (some (I (i : Int))) n n with | none => Out.no 17 | some h => match bnd none h 0 with | none => .no 17 | some q => op (.lst 1 (h - q) ((l.drop (q * 1)).take ((h - q) * 1)))) else .no 17) = _
 rw [Nat.ble_eq_true_of_le hn]
 have : bnd (some (I (i : Int))) n n = some i := by
  show (bif Nat.ble i n then some i else none) = _
  rw [Nat.ble_eq_true_of_le hi]; rfl
 rw [this]
 show op (.lst 1 (i - 0) ((l.drop (0 * 1)).take ((i - 0) * 1))) = _
 simp
theorem sysErr27 {cells : Int} {lines : List (List Int)} (hw : ∀ q ∈ lines, q.length ≤ 1000000) : Pure Tryz.prog B 19 [.agg [I cells, encT lines]] (· = I (sysErr cells lines)) := by
 refine pure_hp fun h nx K H0 hK => by_body tbl_ok dreg 10000000 fun hf => ?_
 rw [F19.go]
 refine H0.box (l := [I cells, encT lines]) rfl fun bx h1 nx1 H1 => ?_
 rw [sFx, H1.load (k := 0) (i := 0) rfl rfl]
 have ret : ∀ v : Int, v = sysErr cells lines → K (I v) h1 nx1 = .ok True := fun v hv => by rw [hv]; exact hK _ _ _ _ _ H1 (frz_fixd rfl) rfl
 by_cases hc : cells < 1 ∨ 256 < cells
 ·have hv : (3 : Int) = sysErr cells lines := by rw [sysErr, if_pos hc]
  by_cases c1 : cells < 1
  ·simp only [sLss, c1, decide_true, sG_tf, sPick_t, sCond_t]
   exact ret 3 hv
  ·simp only [sLss, c1, decide_false, sG_ff]
   rw [sFx, H1.load (k := 0) (i := 0) rfl rfl]
   simp only [sGtr, show (256 : Int) < cells by omega, decide_true, sPick_f, sCond_t]
   exact ret 3 hv
 simp only [sLss, show ¬ cells < 1 by omega, decide_false, sG_ff]
 rw [sFx, H1.load (k := 0) (i := 0) rfl rfl]
 simp only [sGtr, show ¬ (256 : Int) < cells by omega, decide_false, sPick_f, sCond_f]
 rw [sFx, H1.load (k := 0) (i := 0 + 1) rfl rfl]
 simp (disch := omega) only [sAdd, sSub, sMul, sEql, sNeq, sLss, sLeq, sGtr, sGeq, sPick_t, sPick_f, sCond_t, sCond_f, sG_tt, sG_ff, sG_tf, sG_ft, sNot_b, sExt0, sExt1, sExt2, sPart0, sPart1, sPart2, sLen_lst, sLen_sl, sLen_nils, sSame_refl, decide_true, decide_false, Bool.not_true, Bool.not_false, sChk_t]
 by_cases hm : 128 < lines.length
 ·simp only [show (128 : Int) < (lines.length : Int) by omega, decide_true, sCond_t]
  exact ret 5 (by rw [sysErr, if_neg hc, if_pos hm])
 simp only [show ¬ (128 : Int) < (lines.length : Int) by omega, decide_false, sCond_f]
 have hs : sysErr cells lines = linesErr cells [] lines := by rw [sysErr, if_neg hc, if_neg hm]
 refine F19.L3 (fun m z3 h' nx' => ∃ i : Nat, z3 = I i ∧ lines.length - i = m ∧ i ≤ lines.length ∧ h' = h1 ∧ nx' = nx1 ∧ sysErr cells lines = linesErr cells (lines.take i) (lines.drop i)) (m := lines.length) (by omega) ⟨0, rfl, rfl, by omega, rfl, rfl, by simpa using hs⟩ ?_
 rintro m z2 z3 z4 z5 z8 z9 z10 z11 z12 z13 h1 nx1 R ⟨i, rfl, rfl, hi, rfl, rfl, he⟩ hR
 rw [sFx, H1.load (k := 0) (i := 0 + 1) rfl rfl]
 simp (disch := omega) only [sAdd, sSub, sMul, sEql, sNeq, sLss, sLeq, sGtr, sGeq, sPick_t, sPick_f, sCond_t, sCond_f, sG_tt, sG_ff, sG_tf, sG_ft, sNot_b, sExt0, sExt1, sExt2, sPart0, sPart1, sPart2, sLen_lst, sLen_sl, sLen_nils, sSame_refl, decide_true, decide_false, Bool.not_true, Bool.not_false, sChk_t]
 by_cases hlt : i < lines.length
 case neg =>
  simp only [show ¬ (i : Int) < (lines.length : Int) by omega, decide_false, sCond_f]
  rw [F19.k20]
  exact ret 0 (by rw [he, List.drop_of_length_le (by omega)]; rfl)
 simp only [show (i : Int) < (lines.length : Int) by omega, decide_true, sCond_t]
 obtain ⟨l, hx⟩ : ∃ l, lines[i]? = some l := ⟨_, List.getElem?_eq_getElem hlt⟩
 have hmem := List.mem_of_getElem? hx
 have hd : lines.drop i = l :: lines.drop (i + 1) := by
  rw [List.drop_eq_getElem_cons hlt]
  rw [List.getElem?_eq_getElem hlt] at hx
  rw [Option.some.inj hx]
 have htake : lines.take (i + 1) = lines.take i ++ [l] := by rw [List.take_add_one, hx]; rfl
 rw [sFx, H1.load (k := 0) (i := 0 + 1) rfl rfl, sIxL rfl hlt, ldL (getT hx)]
 simp (disch := omega) only [sAdd, sSub, sMul, sEql, sNeq, sLss, sLeq, sGtr, sGeq, sPick_t, sPick_f, sCond_t, sCond_f, sG_tt, sG_ff, sG_tf, sG_ft, sNot_b, sExt0, sExt1, sExt2, sPart0, sPart1, sPart2, sLen_lst, sLen_sl, sLen_nils, sSame_refl, decide_true, decide_false, Bool.not_true, Bool.not_false, sChk_t]
 have hlw := hw l hmem
 have hline : lineErr cells (lines.take i) l ≠ 0 → sysErr cells lines = lineErr cells (lines.take i) l := fun h => by rw [he, hd, linesErr, if_pos h]
 by_cases h0 : l.length = 0
 ·simp only [show (l.length : Int) = 0 by omega, decide_true, sCond_t]
  have hl0 : l = [] := List.eq_nil_of_length_eq_zero h0
  have e12 : lineErr cells (lines.take i) l = 12 := by rw [lineErr, if_pos hl0]
  exact ret 12 (by rw [hline (by rw [e12]; decide), e12])
 simp only [show ¬ (l.length : Int) = 0 by omega, decide_false, sCond_f]
 have hl0 : l ≠ [] := fun q => h0 (by rw [q]; rfl)
 have hcell : cellsErr cells none l ≠ 0 → sysErr cells lines = cellsErr cells none l := fun h => by
  have e : lineErr cells (lines.take i) l = cellsErr cells none l := by rw [lineErr, if_neg hl0, if_pos h]
  rw [hline (by rw [e]; exact h), e]
 refine F19.L10 (fun m z5 h' nx' => ∃ k : Nat, z5 = I k ∧ l.length - k = m ∧ k ≤ l.length ∧ h' = h1 ∧ nx' = nx1 ∧ cellsErr cells none l = cellsErr cells (pv l k) (l.drop k)) (m := l.length) (by omega) ⟨0, rfl, rfl, by omega, rfl, rfl, rfl⟩ ?_
 rintro m y2 y5 y10 y11 y12 h1 nx1 R2 ⟨k, rfl, rfl, hk, rfl, rfl, hce⟩ hR2
 simp (disch := omega) only [sAdd, sSub, sMul, sEql, sNeq, sLss, sLeq, sGtr, sGeq, sPick_t, sPick_f, sCond_t, sCond_f, sG_tt, sG_ff, sG_tf, sG_ft, sNot_b, sExt0, sExt1, sExt2, sPart0, sPart1, sPart2, sLen_lst, sLen_sl, sLen_nils, sSame_refl, decide_true, decide_false, Bool.not_true, Bool.not_false, sChk_t]
 by_cases hkt : k < l.length
 case neg =>
  simp only [show ¬ (k : Int) < (l.length : Int) by omega, decide_false, sCond_f]
  have hz : cellsErr cells none l = 0 := by rw [hce, List.drop_of_length_le (by omega)]; rfl
  rw [F19.k18, sFx, H1.load (k := 0) (i := 0 + 1) rfl rfl, sSliceF (by omega) (by omega)]
  have ep : AV.lst 1 i ((lines.map encI).take i) = encT (lines.take i) := by
   rw [← List.map_take]
   simp [encT, Nat.min_eq_left (Nat.le_of_lt hlt)]
  rw [ep]
  refine hasLine84 (by rw [List.length_take]; omega) (fun q hq => Nat.le_trans (hw q (List.mem_of_mem_take hq)) (by omega)) _ _ _ _ ?_
  rintro _ rfl _
  by_cases hin : l ∈ lines.take i
  ·simp only [hin, decide_true, sCond_t]
   have e9 : lineErr cells (lines.take i) l = 9 := by rw [lineErr, if_neg hl0, if_neg (by rw [hz]; simp), if_pos hin]
   exact ret 9 (by rw [hline (by rw [e9]; decide), e9])
  ·simp only [hin, decide_false, sCond_f]
   rw [F19.k19, sAdd (by omega)]
   have e0 : lineErr cells (lines.take i) l = 0 := by rw [lineErr, if_neg hl0, if_neg (by rw [hz]; simp), if_neg hin]
   refine hR _ _ _ _ _ _ _ _ _ _ _ _ _ (by omega) ⟨i + 1, rfl, rfl, by omega, rfl, rfl, ?_⟩
   rw [he, hd, linesErr, if_neg (by rw [e0]; simp), htake]
 simp only [show (k : Int) < (l.length : Int) by omega, decide_true, sCond_t]
 have hxk : l[k]? = some l[k] := List.getElem?_eq_getElem hkt
 have hdk : l.drop k = l[k] :: l.drop (k + 1) := List.drop_eq_getElem_cons hkt
 rw [sIxL rfl hkt, ldL (getI hxk)]
 by_cases hbad : l[k] < 0 ∨ cells ≤ l[k]
 ·have e10 : cellsErr cells none l = 10 := by rw [hce, hdk, cellsErr, if_pos hbad]
  have fin := ret 10 (by rw [hcell (by rw [e10]; decide), e10])
  by_cases hneg : l[k] < 0
  ·simp only [sLss, hneg, decide_true, sG_tf, sPick_t, sCond_t]
   exact fin
  ·simp only [sLss, hneg, decide_false, sG_ff]
   rw [sIxL rfl hkt, ldL (getI hxk), sFx, H1.load (k := 0) (i := 0) rfl rfl]
   simp only [sGeq, show cells ≤ l[k] by omega, decide_true, sPick_f, sCond_t]
   exact fin
 simp only [sLss, show ¬ l[k] < 0 by omega, decide_false, sG_ff]
 rw [sIxL rfl hkt, ldL (getI hxk), sFx, H1.load (k := 0) (i := 0) rfl rfl]
 simp only [sGeq, show ¬ cells ≤ l[k] by omega, decide_false, sPick_f, sCond_f]
 rw [F19.k16]
 have next : ∀ z12, (pv l k).any (fun q => decide (l[k] ≤ q)) = false → R2 (F19.fr (.agg [I cells, encT lines]) (.ptr bx 0) y2 (I i) (encI l) (I ((k : Int) + 1)) (.bool false) (.bool false) (.bool true) (.bool false) (.bool true) (.bool false) z12 z13) h1 nx1 = .ok True := fun z12 hany => by
  refine hR2 _ _ _ _ _ _ _ _ (by omega) ⟨k + 1, rfl, rfl, by omega, rfl, rfl, ?_⟩
  rw [hce, hdk, cellsErr, if_neg hbad, hany]
  simp [pv_succ hkt]
 by_cases hk0 : 0 < k
 ·obtain ⟨k, rfl⟩ : ∃ j, k = j + 1 := ⟨k - 1, by omega⟩
  have hk1 : k < l.length := by omega
  have hxk1 : l[k]? = some l[k] := List.getElem?_eq_getElem hk1
  simp only [sGtr, show (0 : Int) < ((k + 1 : Nat) : Int) by omega, decide_true, sG_tt]
  rw [sIxL rfl hkt, ldL (getI hxk), sSub (by omega), sIxL (i := k) (by omega) hk1, ldL (getI hxk1)]
  rw [pv_succ hk1] at next
  by_cases hle : l[k + 1] ≤ l[k]
  ·simp only [sLeq, hle, decide_true, sPick_t, sCond_t]
   have e11 : cellsErr cells none l = 11 := by rw [hce, hdk, cellsErr, if_neg hbad, pv_succ hk1, if_pos (by simp [hle])]
   exact ret 11 (by rw [hcell (by rw [e11]; decide), e11])
  ·simp only [sLeq, hle, decide_false, sPick_t, sCond_f]
   rw [F19.k17, sAdd (by omega)]
   exact next _ (by simp [hle])
 ·obtain rfl : k = 0 := by omega
  simp only [sGtr, show ¬ (0 : Int) < ((0 : Nat) : Int) by omega, decide_false, sG_ft, sPick_f, sCond_f]
  rw [F19.k17, sAdd (by omega)]
  exact next _ (by simp [pv])
end Go.Ev
namespace Go.Ev
open Go Go.Proofs
variable {B : Nat}
theorem own_plain {P : Program} {f : Nat} {p id : Pa} {h0 h : T Blk} {nx : Pa} {L : List Ob} {k : Nat} {l : List Int} {K : Kw Prop} {Q : AV → Prop} (H : Hp h0 h nx L) (hk : L[k]? = some (.arr id (l.map I))) (hq : ∀ B, Pure P B f [encI l] Q) (hpl : ∀ v, Q v → Plain v)
  (hK : ∀ v, Q v → K v h nx = .ok True) : (CS P B).fn f p [.sl id 0 l.length (some l.length) 1] h nx K = .ok True :=
 CS_plain (.cons (HasArr.frz (H.own _ (List.mem_of_getElem? hk)) (T.get_e _ id) (Nat.le_refl _) (by simp) fun v hv => by obtain ⟨x, _, rfl⟩ := List.mem_map.1 hv; rfl) .nil) (by
  have := fixd_encI l
  simp only [nns, fixd.nn this, Bool.and_self]) hq hpl fun v hv _ => hK v hv
theorem contF131 {h : T Blk} {nx : Pa} {l : List Int} {g : Nat} {p q : Pa} {cap : List AV} {pr : Int → Bool} {K : Kw Prop} (hl : l.length ≤ 1000000) (hcl : ∀ x ∈ l, ∀ K : Kw Prop, K (.bool (pr x)) h nx = .ok True → (CS Tryz.prog B).fn g q (I x :: cap) h nx K = .ok True)
  (hK : K (.bool (l.any pr)) h nx = .ok True) : (CS Tryz.prog B).fn 173 p [encI l, .fn g q cap] h nx K = .ok True := by
 refine CS_fn_mono (p := .of 173) (K := K) (by_body tbl_ok dreg 9 fun hf => ?_) fun _ _ _ _ q => q
 rw [F173.go]
 refine CS_fn_mono (p := .of 184) (K := fun v1 h2 n3 => sBin .geq .int v1 (I 0) fun v4 => K v4 h2 n3) (by_body tbl_ok dreg 10000000 fun hf => ?_) fun _ _ _ _ q => q
 rw [F184.go]
 simp (disch := omega) only [sAdd, sSub, sMul, sEql, sNeq, sLss, sLeq, sGtr, sGeq, sPick_t, sPick_f, sCond_t, sCond_f, sG_tt, sG_ff, sG_tf, sG_ft, sNot_b, sExt0, sExt1, sExt2, sPart0, sPart1, sPart2, sLen_lst, sLen_sl, sLen_nils, sSame_refl, decide_true, decide_false, Bool.not_true, Bool.not_false, sChk_t]
 refine F184.L1 (fun m z5 h' nx' => ∃ i : Nat, z5 = I i ∧ l.length - i = m ∧ i ≤ l.length ∧ h' = h ∧ nx' = nx ∧ (l.take i).any pr = false) (m := l.length) (by omega) ⟨0, rfl, rfl, by omega, rfl, rfl, by simp⟩ ?_
 rintro m z2 z3 z5 z6 z7 _ _ R ⟨i, rfl, rfl, hi, rfl, rfl, htk⟩ hR
 simp (disch := omega) only [sAdd, sSub, sMul, sEql, sNeq, sLss, sLeq, sGtr, sGeq, sPick_t, sPick_f, sCond_t, sCond_f, sG_tt, sG_ff, sG_tf, sG_ft, sNot_b, sExt0, sExt1, sExt2, sPart0, sPart1, sPart2, sLen_lst, sLen_sl, sLen_nils, sSame_refl, decide_true, decide_false, Bool.not_true, Bool.not_false, sChk_t]
 by_cases hlt : i < l.length
 ·simp only [show (i : Int) < (l.length : Int) by omega, decide_true, sCond_t]
  have hx : l[i]? = some l[i] := List.getElem?_eq_getElem hlt
  rw [sIxL rfl hlt, ldL (getI hx), sCall_fn]
  refine hcl _ (List.getElem_mem hlt) _ ?_
  cases he : pr l[i] with
  | true =>
   simp only [sCond_t, sGeq, show (0 : Int) ≤ (i : Int) by omega, decide_true]
   rw [List.any_eq_true.2 ⟨_, List.getElem_mem hlt, he⟩] at hK
   exact hK
  | false =>
   simp only [sCond_f]
   refine hR _ _ _ _ _ _ _ _ (by omega) ⟨i + 1, rfl, rfl, by omega, rfl, rfl, ?_⟩
   rw [List.take_add_one, hx, List.any_append, htk]
   simp [he]
 ·simp only [show ¬ (i : Int) < (l.length : Int) by omega, decide_false, sCond_f]
  rw [F184.k8]
  rw [List.take_of_length_le (by omega)] at htk
  rw [htk] at hK
  simp only [sGeq, show ¬ (0 : Int) ≤ -1 by omega, decide_false]
  exact hK
theorem from122 {a b : Int} {l : List Int} (hl : l.length ≤ 1000000) : Pure Tryz.prog B 87 [I a, I b, encI l] (· = I (if l.any (fun x => decide (x < a) || decide (b < x)) then 3 else 0)) := by
 refine pure_hp fun h nx K H0 hK => by_body tbl_ok dreg 1000 fun hf => ?_
 rw [F87.go]
 refine H0.box (l := [I a]) rfl fun x1 h1 nx1 H1 => ?_
 refine H1.box (l := [I b]) rfl fun x2 h2 nx2 H2 => ?_
 refine contF131 (pr := fun x => decide (x < a) || decide (b < x)) hl (fun x _ K hK => ?_) ?_
 ·refine CS_fn_mono (p := .of 174) (K := K) (by_body tbl_ok dreg 9 fun hf => ?_) fun _ _ _ _ q => q
  show callFn tbl 9 _ (Pa.of 174) [I x, .ptr x1 0, .ptr x2 0] _ _ _ = _
  rw [F174.go, H2.load (k := 1) (i := 0) rfl rfl]
  by_cases c : x < a
  ·simp only [sLss, c, decide_true, sG_tf, sPick_t]
   simpa [c] using hK
  ·simp only [sLss, c, decide_false, sG_ff]
   rw [H2.load (k := 0) (i := 0) rfl rfl]
   simp only [sGtr, sPick_f]
   simpa [c] using hK
 ·refine when123 _ _ _ _ _ _ ?_
  rintro _ rfl _
  exact hK _ _ _ _ _ H2 (frz_fixd rfl) rfl
theorem line124 {cells : Int} {lines : List (List Int)} {i : Nat} {l : List Int} (hi : lines[i]? = some l) (hn : lines.length ≤ 1000000) (hw : ∀ q ∈ lines, q.length ≤ 1000000) : Pure Tryz.prog B 89 [.agg [I cells, encT lines], I i] (· = I (lineErr cells (lines.take i) l)) := by
 refine pure_hp fun h nx K H0 hK => by_body tbl_ok dreg 10000000 fun hf => ?_
 have hlt : i < lines.length := (List.getElem?_eq_some_iff.1 hi).1
 have hlw := hw l (List.mem_of_getElem? hi)
 rw [F89.go]
 refine H0.box (l := [I cells, encT lines]) rfl fun bx h1 nx1 H1 => ?_
 rw [sFx, H1.load (k := 0) (i := 0 + 1) rfl rfl, sIxL rfl hlt, ldL (getT hi)]
 refine H1.alloc fun x h2 nx2 H2 => ?_
 refine H2.store (k := 0) rfl (by decide) rfl fun h3 H3 => ?_
 rw [H3.load (k := 0) (i := 0) rfl rfl]
 simp (disch := omega) only [sAdd, sSub, sMul, sEql, sNeq, sLss, sLeq, sGtr, sGeq, sPick_t, sPick_f, sCond_t, sCond_f, sG_tt, sG_ff, sG_tf, sG_ft, sNot_b, sExt0, sExt1, sExt2, sPart0, sPart1, sPart2, sLen_lst, sLen_sl, sLen_nils, sSame_refl, decide_true, decide_false, Bool.not_true, Bool.not_false, sChk_t]
 have ret : ∀ (v : Int) h' nx' L, v = lineErr cells (lines.take i) l → Hp h h' nx' L → K (I v) h' nx' = .ok True := fun v h' nx' L hv H' => by rw [hv]; exact hK _ _ _ _ _ H' (frz_fixd rfl) rfl
 by_cases h0 : l.length = 0
 ·simp only [show (l.length : Int) = 0 by omega, decide_true, sCond_t]
  have hl0 : l = [] := List.eq_nil_of_length_eq_zero h0
  exact ret 12 _ _ _ (by rw [lineErr, if_pos hl0]) H3
 simp only [show ¬ (l.length : Int) = 0 by omega, decide_false, sCond_f]
 have hl0 : l ≠ [] := fun q => h0 (by rw [q]; rfl)
 have hcell : cellsErr cells none l ≠ 0 → cellsErr cells none l = lineErr cells (lines.take i) l := fun h => by rw [lineErr, if_neg hl0, if_pos h]
 rw [H3.load (k := 0) (i := 0) rfl rfl]
 simp (disch := omega) only [sAdd, sSub, sMul, sEql, sNeq, sLss, sLeq, sGtr, sGeq, sPick_t, sPick_f, sCond_t, sCond_f, sG_tt, sG_ff, sG_tf, sG_ft, sNot_b, sExt0, sExt1, sExt2, sPart0, sPart1, sPart2, sLen_lst, sLen_sl, sLen_nils, sSame_refl, decide_true, decide_false, Bool.not_true, Bool.not_false, sChk_t]
 refine F89.L2 (fun m z11 h' nx' => ∃ k : Nat, z11 = I k ∧ l.length - k = m ∧ k ≤ l.length ∧ Hp h h' nx' [.arr x [encI l], .arr bx [I cells, encT lines]] ∧ cellsErr cells none l = cellsErr cells (pv l k) (l.drop k)) (m := l.length) (by omega) ⟨0, rfl, rfl, by omega, H3, rfl⟩ ?_
 rintro m z3 z5 z6 z7 z11 z12 z13 h1 nx1 R ⟨k, rfl, rfl, hk, H1, hce⟩ hR
 simp (disch := omega) only [sAdd, sSub, sMul, sEql, sNeq, sLss, sLeq, sGtr, sGeq, sPick_t, sPick_f, sCond_t, sCond_f, sG_tt, sG_ff, sG_tf, sG_ft, sNot_b, sExt0, sExt1, sExt2, sPart0, sPart1, sPart2, sLen_lst, sLen_sl, sLen_nils, sSame_refl, decide_true, decide_false, Bool.not_true, Bool.not_false, sChk_t]
 by_cases hkt : k < l.length
 case neg =>
  simp only [show ¬ (k : Int) < (l.length : Int) by omega, decide_false, sCond_f]
  have hz : cellsErr cells none l = 0 := by rw [hce, List.drop_of_length_le (by omega)]; rfl
  rw [F89.k9, sFx, H1.load (k := 1) (i := 0 + 1) rfl rfl, sSliceF (by omega) (by omega)]
  have ep : AV.lst 1 i ((lines.map encI).take i) = encT (lines.take i) := by
   rw [← List.map_take]
   simp [encT, Nat.min_eq_left (Nat.le_of_lt hlt)]
  rw [ep]
  refine contains148 H1 (k := 0) rfl (by rw [List.length_take]; omega) (fun q hq => hw q (List.mem_of_mem_take hq)) ?_
  refine when123 _ _ _ _ _ _ ?_
  rintro _ rfl _
  refine ret _ _ _ _ ?_ H1
  have e9 : lineErr cells (lines.take i) l = if l ∈ lines.take i then 9 else 0 := by rw [lineErr, if_neg hl0, if_neg (by rw [hz]; simp)]
  rw [e9]
  by_cases hin : l ∈ lines.take i <;> simp [hin]
 simp only [show (k : Int) < (l.length : Int) by omega, decide_true, sCond_t]
 have hxk : l[k]? = some l[k] := List.getElem?_eq_getElem hkt
 have hdk : l.drop k = l[k] :: l.drop (k + 1) := List.drop_eq_getElem_cons hkt
 rw [sIxL rfl hkt, ldL (getI hxk)]
 have tail : ∀ (b1 b2 : Bool) (z : AV) (z' : AV) (Z : AV → T Blk → Pa → Out Prop), b1 = (decide (l[k] < 0 ∨ cells ≤ l[k])) → b2 = (pv l k).any (fun q => decide (l[k] ≤ q)) →
   (∀ (e : Int) h' nx', e = (if l[k] < 0 ∨ cells ≤ l[k] then 10 else if (pv l k).any (fun q => decide (l[k] ≤ q)) then 11 else 0) → Hp h h' nx' [.arr x [encI l], .arr bx [I cells, encT lines]] → Z (I e) h' nx' = .ok True) →
   (CS Tryz.prog B).fn 88 (.of 88) [.bool b2, I 11] h1 nx1 (fun v22 h23 n24 => sBslice 1 2 [(I 0)] [(0, 1, I (if b1 then 10 else 0)), (1, 1, v22)] h23 n24 fun v25 h26 n27 => (CS Tryz.prog B).fn 86 (.of 86) [v25] h26 n27 Z) = .ok True := by
  intro b1 b2 z z' Z e1 e2 hZ
  refine when123 _ _ _ _ _ _ ?_
  rintro _ rfl _
  refine H1.bslice (l := [I (if b1 then 10 else 0), I (if b2 then 11 else 0)]) rfl fun id h4 nx4 H4 => ?_
  refine own_plain (l := [if b1 then 10 else 0, if b2 then 11 else 0]) H4 (k := 0) rfl (fun B => first121 (by simp)) (fun v hv => by rw [hv]; exact .int _ _) ?_
  rintro _ rfl
  refine hZ _ _ _ ?_ H4.drop
  subst e1 e2
  by_cases c1 : l[k] < 0 ∨ cells ≤ l[k]
  ·simp [c1, firstE]
  ·cases c2 : (pv l k).any (fun q => decide (l[k] ≤ q)) <;> simp [c1, firstE]
 have fin : ∀ (e : Int) h' nx', e = (if l[k] < 0 ∨ cells ≤ l[k] then 10 else if (pv l k).any (fun q => decide (l[k] ≤ q)) then 11 else 0) → Hp h h' nx' [.arr x [encI l], .arr bx [I cells, encT lines]] →
   (sBin .neq .int (I e) (I 0) fun v31 => sCond v31 (K (I e) h' nx') (R (F89.fr (.agg [I cells, encT lines]) (I i) (.ptr bx 0) z3 (.ptr x 0) (I k) (I l[k]) (I e) (.bool false) (encI l) (I l.length) (I ((k : Int) + 1)) (.bool true) v31) h' nx')) = .ok True := by
  intro e h' nx' he H'
  have hstep : cellsErr cells none l = if e ≠ 0 then e else cellsErr cells (some l[k]) (l.drop (k + 1)) := by
   rw [hce, hdk, cellsErr, he]
   by_cases c1 : l[k] < 0 ∨ cells ≤ l[k]
   ·simp [c1]
   ·cases c2 : (pv l k).any (fun q => decide (l[k] ≤ q)) <;> simp [c1]
  simp (disch := omega) only [sAdd, sSub, sMul, sEql, sNeq, sLss, sLeq, sGtr, sGeq, sPick_t, sPick_f, sCond_t, sCond_f, sG_tt, sG_ff, sG_tf, sG_ft, sNot_b, sExt0, sExt1, sExt2, sPart0, sPart1, sPart2, sLen_lst, sLen_sl, sLen_nils, sSame_refl, decide_true, decide_false, Bool.not_true, Bool.not_false, sChk_t]
  by_cases c : e = 0
  ·simp only [c, decide_true, Bool.not_true, sCond_f]
   refine hR _ _ _ _ _ _ _ _ _ _ (by omega) ⟨k + 1, rfl, rfl, by omega, H', ?_⟩
   rw [hstep, if_neg (by simp [c]), pv_succ hkt]
  ·simp only [c, decide_false, Bool.not_false, sCond_t]
   rw [if_pos c] at hstep
   exact ret _ _ _ _ (by rw [← hcell (by rw [hstep]; exact c), hstep]) H'
 have mid : ∀ b1 : Bool, b1 = decide (l[k] < 0 ∨ cells ≤ l[k]) →
   (CS Tryz.prog B).fn 88 (.of 88) [.bool b1, I 10] h1 nx1 (fun v10 h11 n12 =>
    sG (.bool (decide (0 < (k : Int)))) true (fun k => sLoad (.ptr x 0) h11 k) fun v14 => sG (.bool (decide (0 < (k : Int)))) true (fun q => q (I (k : Int))) fun v15 => sG (.bool (decide (0 < (k : Int)))) true (fun k => sBin .sub .int v15 (I 1) k) fun v16 => sG (.bool (decide (0 < (k : Int)))) true (fun k => sIaddr 1 v14 v16 k) fun v17 => sG (.bool (decide (0 < (k : Int)))) true (fun k => sLoad v17 h11 k) fun v18 =>
    sG (.bool (decide (0 < (k : Int)))) true (fun q => q (I l[k])) fun v19 => sG (.bool (decide (0 < (k : Int)))) true (fun k => sBin .geq .int v18 v19 k) fun v20 => sPick (.bool (decide (0 < (k : Int)))) v20 (.bool false) fun v21 =>
    (CS Tryz.prog B).fn 88 (.of 88) [v21, I 11] h11 n12 fun v22 h23 n24 => sBslice 1 2 [(I 0)] [(0, 1, v10), (1, 1, v22)] h23 n24 fun v25 h26 n27 => (CS Tryz.prog B).fn 86 (.of 86) [v25] h26 n27 fun v28 h29 n30 =>
    sBin .neq .int v28 (I 0) fun v31 => sCond v31 (K v28 h29 n30) (R (F89.fr (.agg [I cells, encT lines]) (I i) (.ptr bx 0) z3 (.ptr x 0) (I k) (I l[k]) v28 (.bool false) (encI l) (I l.length) (I ((k : Int) + 1)) (.bool true) v31) h29 n30)) = .ok True := by
  intro b1 e1
  refine when123 _ _ _ _ _ _ ?_
  rintro _ rfl _
  by_cases ck : 0 < k
  ·obtain ⟨k, rfl⟩ : ∃ j, k = j + 1 := ⟨k - 1, by omega⟩
   have hk1 : k < l.length := by omega
   have hxk1 : l[k]? = some l[k] := List.getElem?_eq_getElem hk1
   simp only [show (0 : Int) < ((k + 1 : Nat) : Int) by omega, decide_true, sG_tt, sPick_t]
   rw [H1.load (k := 0) (i := 0) rfl rfl, sSub (by omega), sIxL (i := k) (by omega) hk1, ldL (getI hxk1)]
   simp only [sGeq]
   exact tail _ _ .undef .undef _ e1 (by rw [pv_succ hk1]; rfl) fin
  ·obtain rfl : k = 0 := by omega
   simp only [show ¬ (0 : Int) < ((0 : Nat) : Int) by omega, decide_false, sG_ft, sPick_f]
   exact tail _ _ .undef .undef _ e1 rfl fin
 by_cases c : l[k] < 0
 ·simp only [sLss, c, decide_true, sG_tf, sPick_t]
  exact mid true (by simp [c])
 ·simp only [sLss, c, decide_false, sG_ff, sFx]
  rw [H1.load (k := 1) (i := 0) rfl rfl]
  simp only [sGeq, sPick_f]
  exact mid _ (by simp [c])
theorem sys81 {cells : Int} {lines : List (List Int)} (hw : ∀ q ∈ lines, q.length ≤ 1000000) : Pure Tryz.prog B 18 [.agg [I cells, encT lines]] (· = I (sysErr cells lines)) := by
 refine pure_hp fun h nx K H0 hK => by_body tbl_ok dreg 10000000 fun hf => ?_
 rw [F18.go]
 refine H0.box (l := [I cells, encT lines]) rfl fun bx h1 nx1 H1 => ?_
 rw [sFx, H1.load (k := 0) (i := 0) rfl rfl, sFx, H1.load (k := 0) (i := 0 + 1) rfl rfl]
 simp only [sLen_lst, sGtr]
 refine H1.bslice (l := [I cells]) rfl fun id h2 nx2 H2 => ?_
 simp only [sSame_refl, sLen_lst]
 rw [H2.load (k := 1) (i := 0 + 1) rfl rfl]
 simp only [sSame_refl, sFx]
 refine CS_plain (args' := [I 1, I 256, encI [cells]]) (.cons (.int _ _) (.cons (.int _ _) (.cons (HasArr.frz (H2.own (.arr id [I cells]) (by simp)) (T.get_e _ id) (Nat.le_refl _) rfl (fun v hv => by simp at hv; subst hv; rfl)) .nil))) rfl (fun B => from122 (l := [cells]) (by simp)) (fun v hv => by rw [hv]; exact .int _ _) ?_
 rintro _ rfl _
 rw [H2.load (k := 1) (i := 0 + 1) rfl rfl]
 simp only [sSame_refl, sLen_lst]
 refine when123 _ _ _ _ _ _ ?_
 rintro _ rfl _
 refine H2.bslice (l := [I (if [cells].any (fun x => decide (x < 1) || decide (256 < x)) then 3 else 0), I (if decide (128 < (lines.length : Int)) then 5 else 0)]) rfl fun id3 h3 nx3 H3 => ?_
 refine own_plain (l := [if [cells].any (fun x => decide (x < 1) || decide (256 < x)) then 3 else 0, if decide (128 < (lines.length : Int)) then 5 else 0]) H3 (k := 0) rfl (fun B => first121 (by simp)) (fun v hv => by rw [hv]; exact .int _ _) ?_
 rintro _ rfl
 have ret : ∀ (v : Int) h' nx' L, v = sysErr cells lines → Hp h h' nx' L → K (I v) h' nx' = .ok True := fun v h' nx' L hv H' => by rw [hv]; exact hK _ _ _ _ _ H' (frz_fixd rfl) rfl
 have ef : firstE [if [cells].any (fun x => decide (x < 1) || decide (256 < x)) then 3 else 0, if decide (128 < (lines.length : Int)) then 5 else 0] = if cells < 1 ∨ 256 < cells then 3 else if 128 < lines.length then 5 else 0 := by
  by_cases c : cells < 1 ∨ 256 < cells
  ·simp [firstE, c]
  ·by_cases c2 : 128 < lines.length
   ·have : (128 : Int) < (lines.length : Int) := by omega
    simp [firstE, c, c2, this]
   ·have : ¬ (128 : Int) < (lines.length : Int) := by omega
    simp [firstE, c, c2, this]
 rw [ef]
 simp only [sNeq]
 by_cases hc : cells < 1 ∨ 256 < cells
 ·simp only [hc, if_true]
  simp only [show ¬ (3 : Int) = 0 by omega, decide_false, Bool.not_false, sCond_t]
  exact ret 3 _ _ _ (by rw [sysErr, if_pos hc]) H3
 simp only [hc, if_false]
 by_cases hm : 128 < lines.length
 ·simp only [hm, if_true]
  simp only [show ¬ (5 : Int) = 0 by omega, decide_false, Bool.not_false, sCond_t]
  exact ret 5 _ _ _ (by rw [sysErr, if_neg hc, if_pos hm]) H3
 simp only [hm, if_false, decide_true, Bool.not_true, sCond_f]
 rw [H3.load (k := 2) (i := 0 + 1) rfl rfl]
 simp only [sLen_lst]
 have hs : sysErr cells lines = linesErr cells [] lines := by rw [sysErr, if_neg hc, if_neg hm]
 refine F18.L2 (fun m z8 h' nx' => ∃ i : Nat, z8 = I i ∧ lines.length - i = m ∧ i ≤ lines.length ∧ Hp h h' nx' [.arr bx [I cells, encT lines]] ∧ sysErr cells lines = linesErr cells (lines.take i) (lines.drop i)) (m := lines.length) (by omega) ⟨0, rfl, rfl, by omega, H3.drop.drop, by simpa using hs⟩ ?_
 rintro m z2 z4 z5 z8 z9 z10 h4 nx4 R ⟨i, rfl, rfl, hi, H4, he⟩ hR
 simp (disch := omega) only [sAdd, sSub, sMul, sEql, sNeq, sLss, sLeq, sGtr, sGeq, sPick_t, sPick_f, sCond_t, sCond_f, sG_tt, sG_ff, sG_tf, sG_ft, sNot_b, sExt0, sExt1, sExt2, sPart0, sPart1, sPart2, sLen_lst, sLen_sl, sLen_nils, sSame_refl, decide_true, decide_false, Bool.not_true, Bool.not_false, sChk_t]
 by_cases hlt : i < lines.length
 case neg =>
  simp only [show ¬ (i : Int) < (lines.length : Int) by omega, decide_false, sCond_f]
  rw [F18.k9]
  exact ret 0 _ _ _ (by rw [he, List.drop_of_length_le (by omega)]; rfl) H4
 simp only [show (i : Int) < (lines.length : Int) by omega, decide_true, sCond_t]
 obtain ⟨l, hx⟩ : ∃ l, lines[i]? = some l := ⟨_, List.getElem?_eq_getElem hlt⟩
 have hd : lines.drop i = l :: lines.drop (i + 1) := by
  rw [List.drop_eq_getElem_cons hlt]
  rw [List.getElem?_eq_getElem hlt] at hx
  rw [Option.some.inj hx]
 have htake : lines.take (i + 1) = lines.take i ++ [l] := by rw [List.take_add_one, hx]; rfl
 rw [H4.loadN (k := 0) (n := 2) rfl rfl]
 refine line124 hx (by omega) hw _ _ _ _ ?_
 rintro _ rfl _
 simp only [sNeq]
 by_cases c : lineErr cells (lines.take i) l = 0
 ·simp only [c, decide_true, Bool.not_true, sCond_f]
  refine hR _ _ _ _ _ _ _ _ _ (by omega) ⟨i + 1, rfl, rfl, by omega, H4, ?_⟩
  rw [he, hd, linesErr, if_neg (by rw [c]; simp), htake]
 ·simp only [c, decide_false, Bool.not_false, sCond_t]
  exact ret _ _ _ _ (by rw [he, hd, linesErr, if_pos c]) H4
end Go.Ev
namespace Go.Ev
def AscL (cells : Nat) (l : List Int) : Prop := l ≠ [] ∧ l.Pairwise (· < ·) ∧ ∀ c ∈ l, 0 ≤ c ∧ c < (cells : Int)
end Go.Ev
namespace Go.Ev
open Go Go.Proofs
variable {B : Nat}
theorem cells_ok {cells : Int} : ∀ {l : List Int} {p : Option Int}, cellsErr cells p l = 0 → (∀ c ∈ l, 0 ≤ c ∧ c < cells) ∧ l.Pairwise (· < ·) ∧ ∀ q, p = some q → ∀ c ∈ l, q < c
 | [], _, _ => ⟨by simp, .nil, by simp⟩
 | c :: l, p, h => by
  rw [cellsErr] at h
  by_cases c1 : c < 0 ∨ cells ≤ c
  ·rw [if_pos c1] at h; cases h
  rw [if_neg c1] at h
  cases c2 : p.any (fun q => decide (c ≤ q)) with
  | true => rw [c2, if_pos rfl] at h; cases h
  | false =>
   rw [c2, if_neg (by simp)] at h
   obtain ⟨h1, h2, h3⟩ := cells_ok h
   have h4 := h3 c rfl
   refine ⟨fun x hx => ?_, List.pairwise_cons.2 ⟨h4, h2⟩, fun q hq x hx => ?_⟩
   ·rcases List.mem_cons.1 hx with rfl | hx
    ·omega
    ·exact h1 x hx
   ·subst hq
    simp at c2
    rcases List.mem_cons.1 hx with rfl | hx
    ·exact c2
    ·have := h4 x hx; omega
theorem lines_ok {cells : Int} : ∀ {ls prev : List (List Int)}, linesErr cells prev ls = 0 → ∀ l ∈ ls, l ≠ [] ∧ cellsErr cells none l = 0
 | [], _, _, l, h => by simp at h
 | a :: ls, prev, h, l, hl => by
  rw [linesErr] at h
  by_cases c : lineErr cells prev a ≠ 0
  ·rw [if_pos c] at h; exact absurd h c
  rw [if_neg c] at h
  rcases List.mem_cons.1 hl with rfl | hl
  ·have c : lineErr cells prev l = 0 := by simpa using c
   rw [lineErr] at c
   by_cases c0 : l = []
   ·rw [if_pos c0] at c; cases c
   rw [if_neg c0] at c
   refine ⟨c0, ?_⟩
   by_cases c1 : cellsErr cells none l ≠ 0
   ·rw [if_pos c1] at c; exact c
   ·simpa using c1
  ·exact lines_ok h l hl
theorem sys_ok {cells : Int} {lines : List (List Int)} (h : sysErr cells lines = 0) : ∃ n : Nat, cells = n ∧ 1 ≤ n ∧ n ≤ 256 ∧ lines.length ≤ 128 ∧ ∀ l ∈ lines, AscL n l := by
 rw [sysErr] at h
 by_cases c1 : cells < 1 ∨ 256 < cells
 ·rw [if_pos c1] at h; cases h
 rw [if_neg c1] at h
 by_cases c2 : 128 < lines.length
 ·rw [if_pos c2] at h; cases h
 rw [if_neg c2] at h
 refine ⟨cells.toNat, by omega, by omega, by omega, by omega, fun l hl => ?_⟩
 obtain ⟨h1, h2⟩ := lines_ok h l hl
 obtain ⟨h3, h4, _⟩ := cells_ok h2
 exact ⟨h1, h4, fun c hc => by have := h3 c hc; omega⟩
end Go.Ev
namespace Go.Ev
open Go Go.Proofs
variable {B : Nat}
end Go.Ev
namespace Go.Ev
open Go Go.Proofs
variable {B : Nat}
set_option maxRecDepth 100000
theorem Hp.addGro {h0 h : T Blk} {nx : Pa} {L : List Ob} (H : Hp h0 h nx L) (e : Nat) : Hp h0 h nx (.gro none e 0 [] :: L) :=
  ⟨H.keep, fun x hx => by rcases List.mem_cons.1 hx with rfl | q; · exact ⟨rfl, rfl⟩
                          · exact H.own x q, fun n hn => H.off n (by simpa [Ob.names] using hn), by have := H.nd; simpa [Ob.names] using this, H.fr⟩
end Go.Ev
namespace Go.Ev
open Go Go.Proofs
variable {B : Nat}
end Go.Ev
namespace Go.Ev
open Go
end Go.Ev
namespace Go.Ev
open Go Go.Proofs
variable {B : Nat}
end Go.Ev
namespace Go.Ev
theorem sub_perm : ∀ (l r : List Int), l.Nodup → (∀ x ∈ l, x ∈ r) → ∃ s, r.Perm (l ++ s)
 | [], r, _, _ => ⟨r, .refl _⟩
 | a :: l, r, hn, hs => by
  obtain ⟨h1, h2⟩ := List.nodup_cons.1 hn
  have ha := hs a (by simp)
  obtain ⟨s, hp⟩ := sub_perm l (r.erase a) h2 fun x hx => (List.mem_erase_of_ne (by rintro rfl; exact h1 hx)).2 (hs x (by simp [hx]))
  exact ⟨s, (List.perm_cons_erase ha).trans (.cons a hp)⟩
def Rv (l cur : List Int) (i : Nat) : Prop := cur.length = l.length ∧ ∀ t, t < l.length → cur[t]? = if t < i ∨ l.length ≤ t + i then l[l.length - 1 - t]? else l[t]?
theorem Rv.done {l cur : List Int} {i : Nat} (h : Rv l cur i) (hi : l.length ≤ 2 * i + 1) : cur = l.reverse := by
 refine List.ext_getElem? fun t => ?_
 by_cases ht : t < l.length
 ·rw [h.2 t ht, List.getElem?_reverse ht]
  by_cases c : t < i ∨ l.length ≤ t + i
  ·rw [if_pos c]
  ·rw [if_neg c, show l.length - 1 - t = t by omega]
 ·rw [List.getElem?_eq_none (by rw [h.1]; omega), List.getElem?_eq_none (by simp; omega)]
theorem Rv.step {l cur : List Int} {i j : Nat} {a b : Int} (h : Rv l cur i) (hij : i < j) (hs : i + j + 1 = l.length) (ha : cur[i]? = some a) (hb : cur[j]? = some b) : Rv l ((cur.set i b).set j a) (i + 1) := by
 obtain ⟨hl, hg⟩ := h
 refine ⟨by simp [hl], fun t ht => ?_⟩
 have e1 := hg i (by omega)
 have e2 := hg j (by omega)
 rw [if_neg (by omega), ha] at e1
 rw [if_neg (by omega), hb] at e2
 rw [List.getElem?_set, List.getElem?_set, List.length_set]
 by_cases c1 : j = t
 ·subst c1
  rw [if_pos rfl, if_pos (by omega), if_pos (by omega), show l.length - 1 - j = i by omega]
  exact e1
 ·rw [if_neg c1]
  by_cases c2 : i = t
  ·subst c2
   rw [if_pos rfl, if_pos (by omega), if_pos (by omega), show l.length - 1 - i = j by omega]
   exact e2
  ·rw [if_neg c2, hg t ht]
   by_cases c3 : t < i ∨ l.length ≤ t + i
   ·rw [if_pos c3, if_pos (by omega)]
   ·rw [if_neg c3, if_neg (by omega)]
end Go.Ev
namespace Go.Ev
section
variable {σ α : Type}
end
end Go.Ev
namespace Go.Ev
end Go.Ev
namespace Go.Ev
def SpOK (M : Int) (q : List (Int × Int)) : Prop := q.Pairwise (fun a b => a.1 < b.1) ∧ ∀ p ∈ q, 0 ≤ p.1 ∧ p.1 ≤ M
theorem SpOK.len {q : List (Int × Int)} (h : SpOK 9000 q) : q.length ≤ 9001 := by
 obtain ⟨t, ht⟩ := sub_perm (q.map (·.1)) ((List.range 9001).map fun (i : Nat) => (i : Int)) (by
  rw [List.nodup_iff_pairwise_ne, List.pairwise_map]
  exact h.1.imp fun {a b} q e => by omega) fun x hx => by
  obtain ⟨p, hp, rfl⟩ := List.mem_map.1 hx
  have := h.2 p hp
  exact List.mem_map.2 ⟨p.1.toNat, List.mem_range.2 (by omega), by omega⟩
 have := ht.length_eq
 rw [List.length_map, List.length_range, List.length_append, List.length_map] at this
 omega
end Go.Ev
namespace Go.Ev
end Go.Ev
namespace Go.Ev
open Go Go.Proofs
variable {B : Nat}
set_option maxRecDepth 100000
end Go.Ev
namespace Go.Ev
open Go Go.Proofs
variable {B : Nat}
set_option maxRecDepth 100000
abbrev farL (x : Int) : Bool := decide (x < -999999999) || decide (999999999 < x)
theorem numbers102 {f : List Int} (hl : f.length ≤ 100000) : Pure Tryz.prog B 102 [encI f] (· = I (if f.any farL then 3 else 0)) := by
 intro p h nx K hK
 refine by_body tbl_ok dreg 10000000 fun hf => ?_
 rw [F102.go]
 refine F102.L1 (fun m z2 h' nx' => ∃ i : Nat, z2 = I i ∧ f.length - i = m ∧ i ≤ f.length ∧ h' = h ∧ nx' = nx ∧ (f.take i).any farL = false) (m := f.length) (by omega) ⟨0, rfl, rfl, by omega, rfl, rfl, rfl⟩ ?_
 rintro m z1 z2 z3 z4 h nx R ⟨i, rfl, rfl, hi, rfl, rfl, htk⟩ hR
 simp only [sLen_lst, sLss]
 by_cases hlt : i < f.length
 case neg =>
  simp only [show ¬ (i : Int) < (f.length : Int) by omega, decide_false, sCond_f]
  rw [F102.k8]
  rw [List.take_of_length_le (by omega)] at htk
  exact hK _ (by rw [htk]; rfl) hf
 simp only [show (i : Int) < (f.length : Int) by omega, decide_true, sCond_t]
 have hx : f[i]? = some f[i] := List.getElem?_eq_getElem hlt
 have hm := List.getElem_mem hlt
 have hs : (f.take (i + 1)).any farL = ((f.take i).any farL || farL f[i]) := by
  rw [List.take_add_one, hx, List.any_append]; simp
 rw [sIxL rfl hlt, ldL (getI hx)]
 simp only [sLss]
 by_cases c1 : f[i] < -999999999
 ·simp only [c1, decide_true, sG_tf, sPick_t, sCond_t]
  exact hK _ (by rw [List.any_eq_true.2 ⟨_, hm, by simp [c1]⟩]; rfl) hf
 simp only [c1, decide_false, sG_ff]
 rw [sIxL rfl hlt, ldL (getI hx)]
 simp only [sGtr, sPick_f]
 by_cases c2 : 999999999 < f[i]
 ·simp only [c2, decide_true, sCond_t]
  exact hK _ (by rw [List.any_eq_true.2 ⟨_, hm, by simp [c2]⟩]; rfl) hf
 simp only [c2, decide_false, sCond_f]
 rw [sAdd (by omega)]
 exact hR _ _ _ _ _ _ _ (by omega) ⟨i + 1, rfl, rfl, by omega, rfl, rfl, by rw [hs, htk]; simp [c1, c2]⟩
theorem numbers183 {f : List Int} (hl : f.length ≤ 100000) : Pure Tryz.prog B 183 [encI f] (· = I (if f.any farL then 3 else 0)) := by
 intro p h nx K hK
 refine by_body tbl_ok dreg 1000 fun hf => ?_
 rw [F183.go]
 refine from122 (by omega) _ _ _ _ ?_
 rintro _ rfl _
 exact hK _ rfl hf
end Go.Ev
namespace Go.Ev
open Go Go.Proofs
variable {B : Nat}
set_option maxRecDepth 100000
def lineS (l f : List Int) : Int := l.foldl (fun s c => s + f.getD c.toNat 0) 0
structure LnOk (l f : List Int) : Prop where
 len : l.length ≤ 1000
 rng : ∀ c ∈ l, 0 ≤ c ∧ c < (f.length : Int)
 bd : ∀ x ∈ f, -1000000000 ≤ x ∧ x ≤ 1000000000
theorem LnOk.get {l f : List Int} (h : LnOk l f) {c : Int} (hc : c ∈ l) : f[c.toNat]? = some (f.getD c.toNat 0) ∧ -1000000000 ≤ f.getD c.toNat 0 ∧ f.getD c.toNat 0 ≤ 1000000000 := by
 have := h.rng c hc
 have hx : f[c.toNat]? = some (f.getD c.toNat 0) := by rw [List.getD_eq_getElem?_getD, List.getElem?_eq_getElem (by omega)]; rfl
 exact ⟨hx, h.bd _ (List.mem_of_getElem? hx)⟩
theorem lineS_next {l f : List Int} {i : Nat} (h : i < l.length) : lineS (l.take (i + 1)) f = lineS (l.take i) f + f.getD l[i].toNat 0 := by
 rw [lineS, List.take_add_one, List.getElem?_eq_getElem h, List.foldl_append]; rfl
theorem lineS_bd {l f : List Int} (h : LnOk l f) : ∀ i, i ≤ l.length → -(1000000000 * (i : Int)) ≤ lineS (l.take i) f ∧ lineS (l.take i) f ≤ 1000000000 * (i : Int)
 | 0, _ => by simp [lineS]
 | i + 1, hi => by
  have ih := lineS_bd h i (by omega)
  have := (h.get (List.getElem_mem (show i < l.length by omega))).2
  rw [lineS_next (by omega)]
  omega
theorem sum219 {l f : List Int} (h0 : LnOk l f) : Pure Tryz.prog B 219 [encI l, encI f] (· = I (lineS l f)) := by
 intro p h nx K hK
 have hl := h0.len
 refine by_body tbl_ok dreg 10000 fun hf => ?_
 rw [F219.go]
 simp only [sLen_lst]
 refine F219.L1 (fun m x3 x7 h' nx' => ∃ i : Nat, x7 = I i ∧ x3 = I (lineS (l.take i) f) ∧ l.length - i = m ∧ i ≤ l.length ∧ h' = h ∧ nx' = nx) (m := l.length) (by omega) ⟨0, rfl, rfl, rfl, by omega, rfl, rfl⟩ ?_
 rintro m z3 z4 z7 z8 h nx R ⟨i, rfl, rfl, rfl, hi, rfl, rfl⟩ hR
 simp only [sLss]
 by_cases hlt : i < l.length
 case neg =>
  simp only [show ¬ (i : Int) < (l.length : Int) by omega, decide_false, sCond_f]
  rw [F219.k8, List.take_of_length_le (by omega)]
  exact hK _ rfl hf
 simp only [show (i : Int) < (l.length : Int) by omega, decide_true, sCond_t]
 have hx : l[i]? = some l[i] := List.getElem?_eq_getElem hlt
 have hr := h0.rng _ (List.getElem_mem hlt)
 obtain ⟨hg, hb⟩ := h0.get (List.getElem_mem hlt)
 have hbd := lineS_bd h0 i (by omega)
 rw [sIxL rfl hlt, ldL (getI hx), sIxL (i := l[i].toNat) (by omega) (by omega), ldL (getI hg), sAdd (by omega), sAdd (by omega)]
 exact hR _ _ _ _ _ _ _ (by omega) ⟨i + 1, rfl, by rw [lineS_next hlt], rfl, by omega, rfl, rfl⟩
theorem sumOf143 {l f : List Int} (h0 : LnOk l f) : Pure Tryz.prog B 143 [encI l, encI f] (· = I (lineS l f)) := by
 intro p h nx K hK
 have hl := h0.len
 refine by_body tbl_ok dreg 10000 fun hf => ?_
 rw [F143.go]
 refine F143.L1 (fun m x3 x4 h' nx' => ∃ i : Nat, x4 = I i ∧ x3 = I (lineS (l.take i) f) ∧ l.length - i = m ∧ i ≤ l.length ∧ h' = h ∧ nx' = nx) (m := l.length) (by omega) ⟨0, rfl, rfl, rfl, by omega, rfl, rfl⟩ ?_
 rintro m z3 z4 z5 h nx R ⟨i, rfl, rfl, rfl, hi, rfl, rfl⟩ hR
 simp only [sLen_lst, sLss]
 by_cases hlt : i < l.length
 case neg =>
  simp only [show ¬ (i : Int) < (l.length : Int) by omega, decide_false, sCond_f]
  rw [F143.k8, List.take_of_length_le (by omega)]
  exact hK _ rfl hf
 simp only [show (i : Int) < (l.length : Int) by omega, decide_true, sCond_t]
 have hx : l[i]? = some l[i] := List.getElem?_eq_getElem hlt
 have hr := h0.rng _ (List.getElem_mem hlt)
 obtain ⟨hg, hb⟩ := h0.get (List.getElem_mem hlt)
 have hbd := lineS_bd h0 i (by omega)
 rw [sIxL rfl hlt, ldL (getI hx), sIxL (i := l[i].toNat) (by omega) (by omega), ldL (getI hg), sAdd (by omega), sAdd (by omega)]
 exact hR _ _ _ _ _ _ (by omega) ⟨i + 1, rfl, by rw [lineS_next hlt], rfl, by omega, rfl, rfl⟩
def sumsL (lines : List (List Int)) (f : List Int) : List Int := lines.map fun l => lineS l f
theorem sumsL_next {lines : List (List Int)} {f : List Int} {i : Nat} (h : i < lines.length) : sumsL (lines.take (i + 1)) f = sumsL (lines.take i) f ++ [lineS lines[i] f] := by
 rw [sumsL, List.take_add_one, List.getElem?_eq_getElem h, List.map_append]; rfl
theorem sumsL_len (lines : List (List Int)) (f : List Int) : (sumsL lines f).length = lines.length := by simp [sumsL]
theorem sums139 {cells : Int} {lines : List (List Int)} {f : List Int} (hn : lines.length ≤ 1000) (h0 : ∀ l ∈ lines, LnOk l f) : Pure Tryz.prog B 139 [.agg [I cells, encT lines], encI f] (· = encI (sumsL lines f)) := by
 refine pure_hp fun h nx K H0 hK => by_body tbl_ok dreg 10000 fun hf => ?_
 rw [F139.go]
 refine H0.box (l := [I cells, encT lines]) rfl fun bx h1 nx1 H1 => ?_
 rw [sFx, H1.load (k := 0) (i := 0 + 1) rfl rfl]
 simp only [sLen_lst]
 refine F139.L1 (fun m x4 x8 h' nx' => ∃ (i : Nat) (o : Option Pa), x8 = I i ∧ x4 = rowV o 1 (sumsL (lines.take i) f).length ∧ lines.length - i = m ∧ i ≤ lines.length ∧ Hp h h' nx' [.gro o 1 (sumsL (lines.take i) f).length ((sumsL (lines.take i) f).map I), .arr bx [I cells, encT lines]]) (m := lines.length) (by omega) ⟨0, none, rfl, rfl, rfl, by omega, H1.addGro 1⟩ ?_
 rintro m z4 z5 z8 z9 h2 nx2 R ⟨i, o, rfl, rfl, rfl, hi, H2⟩ hR
 simp only [sLss]
 by_cases hlt : i < lines.length
 case neg =>
  simp only [show ¬ (i : Int) < (lines.length : Int) by omega, decide_false, sCond_f]
  rw [List.take_of_length_le (by omega)] at H2 ⊢
  rw [F139.k8]
  exact hK _ _ _ _ _ H2 (H2.frzGro (k := 0) rfl fun v hv => by obtain ⟨x, _, rfl⟩ := List.mem_map.1 hv; rfl) rfl
 simp only [show (i : Int) < (lines.length : Int) by omega, decide_true, sCond_t]
 have hx : lines[i]? = some lines[i] := List.getElem?_eq_getElem hlt
 have hlen : (sumsL (lines.take i) f).length = i := by rw [sumsL_len, List.length_take]; omega
 rw [sIxL rfl hlt, ldL (getT hx)]
 refine sum219 (h0 _ (List.getElem_mem hlt)) _ _ _ _ ?_
 rintro _ rfl _
 refine H2.bslice (l := [I (lineS lines[i] f)]) rfl fun tb h4 nx4 H4 => ?_
 refine H4.appN (k := 1) (o := o) (c := 1) (new := [I (lineS lines[i] f)]) rfl (HasArr.rd (l := [I (lineS lines[i] f)]) (n := 1) (H4.own _ (List.mem_cons_self ..)) rfl) rfl rfl (by decide) (by decide) (by omega) fun o' h5 nx5 _ H5 => ?_
 rw [sAdd (by omega)]
 refine hR _ _ _ _ _ _ _ (by omega) ⟨i + 1, o', rfl, by rw [sumsL_next hlt, List.length_append]; rfl, rfl, by omega, ?_⟩
 rw [sumsL_next hlt, List.length_append, List.map_append]
 exact H5.drop
theorem refSums59 {cells : Int} {lines : List (List Int)} {f : List Int} (hn : lines.length ≤ 1000) (h0 : ∀ l ∈ lines, LnOk l f) : Pure Tryz.prog B 59 [.agg [I cells, encT lines], encI f] (· = encI (sumsL lines f)) := by
 refine pure_hp fun h nx K H0 hK => by_body tbl_ok dreg 10000 fun hf => ?_
 rw [F59.go]
 refine H0.box (l := [I cells, encT lines]) rfl fun bx h1 nx1 H1 => ?_
 refine F59.L1 (fun m x4 x5 h' nx' => ∃ (i : Nat) (o : Option Pa), x5 = I i ∧ x4 = rowV o 1 (sumsL (lines.take i) f).length ∧ lines.length - i = m ∧ i ≤ lines.length ∧ Hp h h' nx' [.gro o 1 (sumsL (lines.take i) f).length ((sumsL (lines.take i) f).map I), .arr bx [I cells, encT lines]]) (m := lines.length) (by omega) ⟨0, none, rfl, rfl, rfl, by omega, H1.addGro 1⟩ ?_
 rintro m z4 z5 z6 h2 nx2 R ⟨i, o, rfl, rfl, rfl, hi, H2⟩ hR
 rw [sFx, H2.load (k := 1) (i := 0 + 1) rfl rfl]
 simp only [sLen_lst, sLss]
 by_cases hlt : i < lines.length
 case neg =>
  simp only [show ¬ (i : Int) < (lines.length : Int) by omega, decide_false, sCond_f]
  rw [List.take_of_length_le (by omega)] at H2 ⊢
  rw [F59.k8]
  exact hK _ _ _ _ _ H2 (H2.frzGro (k := 0) rfl fun v hv => by obtain ⟨x, _, rfl⟩ := List.mem_map.1 hv; rfl) rfl
 simp only [show (i : Int) < (lines.length : Int) by omega, decide_true, sCond_t]
 have hx : lines[i]? = some lines[i] := List.getElem?_eq_getElem hlt
 have hlen : (sumsL (lines.take i) f).length = i := by rw [sumsL_len, List.length_take]; omega
 rw [sFx, H2.load (k := 1) (i := 0 + 1) rfl rfl, sIxL rfl hlt, ldL (getT hx)]
 refine sumOf143 (h0 _ (List.getElem_mem hlt)) _ _ _ _ ?_
 rintro _ rfl _
 refine H2.bslice (l := [I (lineS lines[i] f)]) rfl fun tb h4 nx4 H4 => ?_
 refine H4.appN (k := 1) (o := o) (c := 1) (new := [I (lineS lines[i] f)]) rfl (HasArr.rd (l := [I (lineS lines[i] f)]) (n := 1) (H4.own _ (List.mem_cons_self ..)) rfl) rfl rfl (by decide) (by decide) (by omega) fun o' h5 nx5 _ H5 => ?_
 rw [sAdd (by omega)]
 refine hR _ _ _ _ _ _ (by omega) ⟨i + 1, o', rfl, by rw [sumsL_next hlt, List.length_append]; rfl, rfl, by omega, ?_⟩
 rw [sumsL_next hlt, List.length_append, List.map_append]
 exact H5.drop
end Go.Ev
namespace Go.Ev
open Go Go.Proofs
variable {B : Nat}
set_option maxRecDepth 100000
def chkErr (cells : Int) (lines : List (List Int)) (f : List Int) : Int := if sysErr cells lines ≠ 0 then sysErr cells lines else if (f.length : Int) ≠ cells then 2 else if f.any farL then 3 else 0
theorem check94 {cells : Int} {lines : List (List Int)} {f : List Int} (hw : ∀ q ∈ lines, q.length ≤ 1000000) (hl : f.length ≤ 100000) : Pure Tryz.prog B 94 [.agg [I cells, encT lines], encI f] (· = I (chkErr cells lines f)) := by
 refine pure_hp fun h nx K H0 hK => by_body tbl_ok dreg 1000 fun hf => ?_
 rw [F94.go]
 refine H0.box (l := [I cells, encT lines]) rfl fun bx h1 nx1 H1 => ?_
 rw [H1.loadN (k := 0) (n := 2) rfl rfl]
 simp only [sLen_lst]
 rw [sFx, H1.load (k := 0) (i := 0 + 0) rfl rfl]
 simp only [sNeq]
 refine sys81 hw _ _ _ _ ?_
 rintro _ rfl _
 simp only [sSame_refl]
 rw [H1.load (k := 0) (i := 0 + 0) rfl rfl]
 simp only [sSame_refl]
 rw [sFx]
 simp only [sSame_refl]
 refine when123 _ _ _ _ _ _ ?_
 rintro _ rfl _
 refine numbers183 hl _ _ _ _ ?_
 rintro _ rfl _
 refine H1.bslice (l := [I (sysErr cells lines), I (if (!decide ((f.length : Int) = cells)) = true then 2 else 0), I (if f.any farL = true then 3 else 0)]) rfl fun tb h2 nx2 H2 => ?_
 refine own_plain (l := [sysErr cells lines, if (!decide ((f.length : Int) = cells)) = true then 2 else 0, if f.any farL = true then 3 else 0]) H2 (k := 0) rfl (fun B => first121 (by simp)) (fun v hv => by rw [hv]; exact .int _ _) ?_
 rintro _ rfl
 have e : firstE [sysErr cells lines, if (!decide ((f.length : Int) = cells)) = true then 2 else 0, if f.any farL = true then 3 else 0] = chkErr cells lines f := by
  simp only [firstE, chkErr]
  by_cases c1 : sysErr cells lines = 0
  ·by_cases c2 : (f.length : Int) = cells
   ·by_cases c3 : f.any farL = true
    ·simp [c1, c2, c3]
    ·simp [c1, c2, c3]
   ·simp [c1, c2]
  ·simp [c1]
 rw [e]
 exact hK _ _ _ _ _ H2 (frz_fixd rfl) rfl
theorem chk_ok {cells : Int} {lines : List (List Int)} {f : List Int} (h : chkErr cells lines f = 0) : sysErr cells lines = 0 ∧ lines.length ≤ 128 ∧ f.length ≤ 256 ∧ ∀ l ∈ lines, l.length ≤ 1000 → LnOk l f := by
 rw [chkErr] at h
 by_cases c1 : sysErr cells lines = 0
 case neg => rw [if_pos c1] at h; exact absurd h c1
 rw [if_neg (fun q => q c1)] at h
 by_cases c2 : (f.length : Int) = cells
 case neg => rw [if_pos c2] at h; cases h
 rw [if_neg (fun q => q c2)] at h
 have c3 : f.any farL = false := by cases q : f.any farL with
  | false => rfl
  | true => rw [q] at h; cases h
 obtain ⟨n, rfl, n1, n2, n3, n4⟩ := sys_ok c1
 refine ⟨c1, n3, by omega, fun l hl hlen => ⟨hlen, fun c hc => ?_, fun x hx => ?_⟩⟩
 ·have := (n4 l hl).2.2 c hc; omega
 ·have := List.any_eq_false.1 c3 x hx
  simp at this
  omega
def difA (a : Int) : List Int → Nat → Int
 | [], _ => -1
 | x :: t, i => if x = a then difA a t (i + 1) else (i : Int)
def diffI (S : List Int) : Int := difA (S.getD 0 0) S 0
theorem difA_drop {a : Int} {S : List Int} {i k : Nat} (h : i < S.length) : difA a (S.drop i) k = if S[i] = a then difA a (S.drop (i + 1)) (k + 1) else (k : Int) := by
 rw [List.drop_eq_getElem_cons h]; rfl
theorem index184 {h0 h : T Blk} {nx p bx : Pa} {L : List Ob} {k : Nat} {S : List Int} {K : Kw Prop} {v : AV} (hl : S.length ≤ 100000) (H : Hp h0 h nx L) (hk : L[k]? = some (.arr bx [encI S]))
  (hK : K (I (diffI S)) h nx = .ok True) : (CS Tryz.prog B).fn 184 p [encI S, .fn 185 (.of 185) [.ptr bx 0]] h nx K = .ok True := by
 refine CS_fn_mono (p := .of 184) (K := K) (by_body tbl_ok dreg 1000000 fun hf => ?_) fun _ _ _ _ q => q
 rw [F184.go]
 simp only [sLen_lst]
 refine F184.L1 (fun m z5 h' nx' => ∃ i : Nat, z5 = I i ∧ S.length - i = m ∧ i ≤ S.length ∧ h' = h ∧ nx' = nx ∧ diffI S = difA (S.getD 0 0) (S.drop i) i) (m := S.length) (by omega) ⟨0, rfl, rfl, by omega, rfl, rfl, rfl⟩ ?_
 rintro m z2 z3 z5 z6 z7 h nx R ⟨i, rfl, rfl, hi, rfl, rfl, he⟩ hR
 simp only [sLss]
 by_cases hlt : i < S.length
 case neg =>
  simp only [show ¬ (i : Int) < (S.length : Int) by omega, decide_false, sCond_f]
  rw [F184.k8]
  rw [he, List.drop_of_length_le (by omega)] at hK
  exact hK
 simp only [show (i : Int) < (S.length : Int) by omega, decide_true, sCond_t]
 have hx : S[i]? = some S[i] := List.getElem?_eq_getElem hlt
 have hy : S[0]? = some (S.getD 0 0) := by rw [List.getD_eq_getElem?_getD, List.getElem?_eq_getElem (by omega)]; rfl
 rw [difA_drop hlt] at he
 rw [sIxL rfl hlt, ldL (getI hx), sCall_fn]
 refine CS_fn_mono (p := .of 185) (by_body tbl_ok dreg 9 fun _ => ?_) fun _ _ _ _ q => q
 show callFn tbl 9 _ (Pa.of 185) [I S[i], .ptr bx 0] _ _ _ = _
 rw [F185.go, H.load (k := k) (i := 0) hk rfl, sIxL (i := 0) (show (0 : Int) = ((0 : Nat) : Int) from rfl) (by omega), ldL (getI hy)]
 simp only [sNeq]
 by_cases c : S[i] = S.getD 0 0
 ·rw [if_pos c] at he
  simp only [c, decide_true, Bool.not_true, sCond_f]
  rw [sAdd (by omega)]
  exact hR _ _ _ _ _ _ _ _ (by omega) ⟨i + 1, rfl, rfl, by omega, rfl, rfl, he⟩
 ·rw [if_neg c] at he
  simp only [c, decide_false, Bool.not_false, sCond_t]
  rw [he] at hK
  exact hK
theorem differs95 {cells : Int} {lines : List (List Int)} {f : List Int} (hn : lines.length ≤ 1000) (h0 : ∀ l ∈ lines, LnOk l f) : Pure Tryz.prog B 95 [.agg [I cells, encT lines], encI f] (· = I (diffI (sumsL lines f))) := by
 refine pure_hp fun h nx K H0 hK => by_body tbl_ok dreg 1000 fun hf => ?_
 rw [F95.go]
 refine H0.box (l := [I cells, encT lines]) rfl fun bx h1 nx1 H1 => ?_
 rw [H1.loadN (k := 0) (n := 2) rfl rfl]
 refine sums139 hn h0 _ _ _ _ ?_
 rintro _ rfl _
 refine H1.alloc fun b8 h2 nx2 H2 => ?_
 refine H2.store (k := 0) rfl (by simp) rfl fun h3 H3 => ?_
 rw [H3.load (k := 0) (i := 0) rfl rfl]
 have hlen := sumsL_len lines f
 refine index184 (v := .nils) (by omega) H3 (k := 0) rfl ?_
 exact hK _ _ _ _ _ H3 (frz_fixd rfl) rfl
theorem refFirst60 {cells : Int} {lines : List (List Int)} {f : List Int} (hn : lines.length ≤ 1000) (h0 : ∀ l ∈ lines, LnOk l f) : Pure Tryz.prog B 60 [.agg [I cells, encT lines], encI f] (· = I (diffI (sumsL lines f))) := by
 refine pure_hp fun h nx K H0 hK => by_body tbl_ok dreg 10000 fun hf => ?_
 rw [F60.go]
 refine H0.box (l := [I cells, encT lines]) rfl fun bx h1 nx1 H1 => ?_
 rw [H1.loadN (k := 0) (n := 2) rfl rfl]
 refine refSums59 hn h0 _ _ _ _ ?_
 rintro _ rfl _
 have hlen := sumsL_len lines f
 generalize sumsL lines f = S at hlen hK ⊢
 have ret : ∀ v : Int, v = diffI S → K (I v) h1 nx1 = .ok True := fun v hv => by rw [hv]; exact hK _ _ _ _ _ H1 (frz_fixd rfl) rfl
 refine F60.L1 (fun m z5 h' nx' => ∃ i : Nat, z5 = I i ∧ S.length - i = m ∧ i ≤ S.length ∧ h' = h1 ∧ nx' = nx1 ∧ diffI S = difA (S.getD 0 0) (S.drop i) i) (m := S.length) (by omega) ⟨0, rfl, rfl, by omega, rfl, rfl, rfl⟩ ?_
 rintro m z3 z5 z6 z7 h2 nx2 R ⟨i, rfl, rfl, hi, rfl, rfl, he⟩ hR
 simp only [sLen_lst, sLss]
 by_cases hlt : i < S.length
 case neg =>
  simp only [show ¬ (i : Int) < (S.length : Int) by omega, decide_false, sCond_f]
  rw [F60.k8]
  exact ret _ (by rw [he, List.drop_of_length_le (by omega)]; rfl)
 simp only [show (i : Int) < (S.length : Int) by omega, decide_true, sCond_t]
 have hx : S[i]? = some S[i] := List.getElem?_eq_getElem hlt
 have hy : S[0]? = some (S.getD 0 0) := by rw [List.getD_eq_getElem?_getD, List.getElem?_eq_getElem (by omega)]; rfl
 rw [difA_drop hlt] at he
 rw [sIxL rfl hlt, ldL (getI hx), sIxL (i := 0) (show (0 : Int) = ((0 : Nat) : Int) from rfl) (by omega), ldL (getI hy)]
 simp only [sNeq]
 by_cases c : S[i] = S.getD 0 0
 ·rw [if_pos c] at he
  simp only [c, decide_true, Bool.not_true, sCond_f]
  rw [sAdd (by omega)]
  exact hR _ _ _ _ _ _ _ (by omega) ⟨i + 1, rfl, rfl, by omega, rfl, rfl, he⟩
 ·rw [if_neg c] at he
  simp only [c, decide_false, Bool.not_false, sCond_t]
  exact ret _ he.symm
theorem refMagic28 {cells : Int} {lines : List (List Int)} {f : List Int} (hn : lines.length ≤ 1000) (h0 : ∀ l ∈ lines, LnOk l f) : Pure Tryz.prog B 28 [.agg [I cells, encT lines], encI f] (· = .bool (decide (diffI (sumsL lines f) < 0))) := by
 refine pure_hp fun h nx K H0 hK => by_body tbl_ok dreg 1000 fun hf => ?_
 rw [F28.go]
 refine H0.box (l := [I cells, encT lines]) rfl fun bx h1 nx1 H1 => ?_
 rw [H1.loadN (k := 0) (n := 2) rfl rfl]
 refine refFirst60 hn h0 _ _ _ _ ?_
 rintro _ rfl _
 simp only [sLss]
 exact hK _ _ _ _ _ H1 (frz_fixd rfl) rfl
theorem refFilling27 {cells : Int} {lines : List (List Int)} {f : List Int} (hl : f.length ≤ 100000) (hs : sysErr cells lines = 0) : Pure Tryz.prog B 27 [.agg [I cells, encT lines], encI f] (· = I (chkErr cells lines f)) := by
 refine pure_hp fun h nx K H0 hK => by_body tbl_ok dreg 1000 fun hf => ?_
 rw [F27.go]
 refine H0.box (l := [I cells, encT lines]) rfl fun bx h1 nx1 H1 => ?_
 have ret : ∀ v : Int, v = chkErr cells lines f → K (I v) h1 nx1 = .ok True := fun v hv => by rw [hv]; exact hK _ _ _ _ _ H1 (frz_fixd rfl) rfl
 simp only [sLen_lst]
 rw [sFx, H1.load (k := 0) (i := 0 + 0) rfl rfl]
 simp only [sNeq]
 by_cases c : (f.length : Int) = cells
 ·simp only [c, decide_true, Bool.not_true, sCond_f]
  refine numbers102 hl _ _ _ _ ?_
  rintro _ rfl _
  exact ret _ (by unfold chkErr; rw [if_neg (show ¬ (sysErr cells lines ≠ 0) from fun q => q hs), if_neg (show ¬ ((f.length : Int) ≠ cells) from fun q => q c)])
 ·simp only [c, decide_false, Bool.not_false, sCond_t]
  exact ret _ (by rw [chkErr, if_neg (fun q => q hs), if_pos c])
section
variable {cells : Int} {lines : List (List Int)} {f : List Int}
theorem sums48 (hw : ∀ q ∈ lines, q.length ≤ 1000) (hl : f.length ≤ 100000) : Pure Tryz.prog B 48 [.agg [I cells, encT lines], encI f] (· = if chkErr cells lines f ≠ 0 then .tup [.nils, I (chkErr cells lines f)] else .tup [encI (sumsL lines f), I 0]) := by
 refine pure_hp fun h nx K H0 hK => by_body tbl_ok dreg 1000 fun hf => ?_
 rw [F48.go]
 refine H0.box (l := [I cells, encT lines]) rfl fun bx h1 nx1 H1 => ?_
 rw [H1.loadN (k := 0) (n := 2) rfl rfl]
 refine check94 (fun q hq => by have := hw q hq; omega) hl _ _ _ _ ?_
 rintro _ rfl _
 simp only [sNeq]
 by_cases c : chkErr cells lines f = 0
 ·rw [if_neg (fun q => q c)] at hK
  obtain ⟨_, n1, n2, n3⟩ := chk_ok c
  simp only [c, decide_true, Bool.not_true, sCond_f]
  rw [H1.loadN (k := 0) (n := 2) rfl rfl]
  refine sums139 (by omega) (fun l hl => n3 l hl (hw l hl)) _ _ _ _ ?_
  rintro _ rfl _
  exact hK _ _ _ _ _ H1 (frz_tup2 (frz_fixd (fixd_encI _)) (frz_fixd rfl)) rfl
 ·rw [if_pos c] at hK
  simp only [c, decide_false, Bool.not_false, sCond_t]
  exact hK _ _ _ _ _ H1 (frz_tup2 (frz_fixd rfl) (frz_fixd rfl)) rfl
theorem magic43 (hw : ∀ q ∈ lines, q.length ≤ 1000) (hl : f.length ≤ 100000) : Pure Tryz.prog B 43 [.agg [I cells, encT lines], encI f] (· = if chkErr cells lines f ≠ 0 then .tup [.bool false, I (chkErr cells lines f)] else .tup [.bool (decide (diffI (sumsL lines f) < 0)), I 0]) := by
 refine pure_hp fun h nx K H0 hK => by_body tbl_ok dreg 1000 fun hf => ?_
 rw [F43.go]
 refine H0.box (l := [I cells, encT lines]) rfl fun bx h1 nx1 H1 => ?_
 rw [H1.loadN (k := 0) (n := 2) rfl rfl]
 refine check94 (fun q hq => by have := hw q hq; omega) hl _ _ _ _ ?_
 rintro _ rfl _
 simp only [sNeq]
 by_cases c : chkErr cells lines f = 0
 ·rw [if_neg (fun q => q c)] at hK
  obtain ⟨_, n1, n2, n3⟩ := chk_ok c
  simp only [c, decide_true, Bool.not_true, sCond_f]
  rw [H1.loadN (k := 0) (n := 2) rfl rfl]
  refine differs95 (by omega) (fun l hl => n3 l hl (hw l hl)) _ _ _ _ ?_
  rintro _ rfl _
  simp only [sLss]
  exact hK _ _ _ _ _ H1 (frz_tup2 (frz_fixd rfl) (frz_fixd rfl)) rfl
 ·rw [if_pos c] at hK
  simp only [c, decide_false, Bool.not_false, sCond_t]
  exact hK _ _ _ _ _ H1 (frz_tup2 (frz_fixd rfl) (frz_fixd rfl)) rfl
theorem first58 (hw : ∀ q ∈ lines, q.length ≤ 1000) (hl : f.length ≤ 100000) : Pure Tryz.prog B 58 [.agg [I cells, encT lines], encI f] (· = if chkErr cells lines f ≠ 0 then .tup [I 0, I (chkErr cells lines f)] else if diffI (sumsL lines f) < 0 then .tup [I 0, I 7] else .tup [I (diffI (sumsL lines f)), I 0]) := by
 refine pure_hp fun h nx K H0 hK => by_body tbl_ok dreg 1000 fun hf => ?_
 rw [F58.go]
 refine H0.box (l := [I cells, encT lines]) rfl fun bx h1 nx1 H1 => ?_
 rw [H1.loadN (k := 0) (n := 2) rfl rfl]
 refine check94 (fun q hq => by have := hw q hq; omega) hl _ _ _ _ ?_
 rintro _ rfl _
 simp only [sNeq]
 by_cases c : chkErr cells lines f = 0
 ·rw [if_neg (fun q => q c)] at hK
  obtain ⟨_, n1, n2, n3⟩ := chk_ok c
  simp only [c, decide_true, Bool.not_true, sCond_f]
  rw [H1.loadN (k := 0) (n := 2) rfl rfl]
  refine differs95 (by omega) (fun l hl => n3 l hl (hw l hl)) _ _ _ _ ?_
  rintro _ rfl _
  simp only [sLss]
  by_cases d : diffI (sumsL lines f) < 0
  ·rw [if_pos d] at hK
   simp only [d, decide_true, sCond_t]
   exact hK _ _ _ _ _ H1 (frz_tup2 (frz_fixd rfl) (frz_fixd rfl)) rfl
  ·rw [if_neg d] at hK
   simp only [d, decide_false, sCond_f]
   exact hK _ _ _ _ _ H1 (frz_tup2 (frz_fixd rfl) (frz_fixd rfl)) rfl
 ·rw [if_pos c] at hK
  simp only [c, decide_false, Bool.not_false, sCond_t]
  exact hK _ _ _ _ _ H1 (frz_tup2 (frz_fixd rfl) (frz_fixd rfl)) rfl
end
end Go.Ev
namespace Go.Ev
open Go Go.Proofs
variable {B : Nat}
set_option maxRecDepth 100000
theorem sNeqBH {a b : Bool} {K : AV → OP} : sBin .neq .bool (.bool a) (.bool b) K = K (.bool (a != b)) := by cases a <;> cases b <;> exact nr rfl
theorem sGW_ttH (op : KW3 → OP) (h : T Blk) (nx : Pa) (k : KW3) : sGW (.bool true) true op h nx k = op k := nr rfl
theorem F12.c14 {N : Nat} {C : Calls Prop} {K0 : Kw Prop} {K : Ks Prop} {h : T Blk} {nx : Pa} {x0 x1 x2 x3 x4 x5 x6 x7 x8 x9 x10 x11 x12 x13 x15 : AV} : IR.run (.cond (.t (.of 14)) (.seq (.reg [.q (.of 3) (.mv (.c (.bool false)))]) .ret) .skip) C N (fnO F12.res K0) K (F12.fr x0 x1 x2 x3 x4 x5 x6 x7 x8 x9 x10 x11 x12 x13 (.bool false) x15) h nx = K (F12.fr x0 x1 x2 x3 x4 x5 x6 x7 x8 x9 x10 x11 x12 x13 (.bool false) x15) h nx := by kernel_rfl
theorem law12 {cells : Int} {lines : List (List Int)} {f : List Int} (haw : ∀ {B}, Pure Tryz.prog B 17 [] (· = .bool true)) : Pure Tryz.prog B 12 [.agg [I cells, encT lines], encI f] (· = .bool true) := by
 refine pure_hp fun h nx K H0 hK => by_body tbl_ok dreg 1000 fun hf => ?_
 rw [F12.go]
 refine H0.box (l := [I cells, encT lines]) rfl fun bx h1 nx1 H1 => ?_
 have awk : ∀ (h : T Blk) (nx : Pa) (Z : Kw Prop), Z (.bool true) h nx = .ok True → (CS Tryz.prog B).fn 17 (.of 17) [] h nx Z = .ok True := fun h nx Z hZ => haw _ _ _ _ fun v hv _ => by rw [hv]; exact hZ
 have ret : K (.bool true) h1 nx1 = .ok True := hK _ _ _ _ _ H1 (frz_fixd rfl) rfl
 rw [H1.loadN (k := 0) (n := 2) rfl rfl]
 refine short25 (by decide) _ _ _ _ ?_
 rintro _ rfl _
 by_cases hs : (lines.length : Int) ≤ 130 ∧ ∀ l ∈ lines, (l.length : Int) ≤ 40
 case neg =>
  rw [decide_eq_false hs]
  simp only [sNot_b, Bool.not_false, sG_tf, sPick_t, sCond_t]
  exact awk _ _ _ ret
 rw [decide_eq_true hs]
 obtain ⟨hs1, hs2⟩ := hs
 have hw : ∀ q ∈ lines, q.length ≤ 1000 := fun q hq => by have := hs2 q hq; omega
 simp only [sNot_b, Bool.not_true, sG_ff, sLen_lst, sGtr, sPick_f]
 by_cases c300 : 300 < f.length
 ·simp only [show (300 : Int) < (f.length : Int) by omega, decide_true, sCond_t]
  exact awk _ _ _ ret
 simp only [show ¬ (300 : Int) < (f.length : Int) by omega, decide_false, sCond_f]
 have hl : f.length ≤ 100000 := by omega
 rw [H1.loadN (k := 0) (n := 2) rfl rfl]
 refine sums48 hw hl _ _ _ _ ?_
 rintro _ rfl _
 by_cases c : chkErr cells lines f = 0
 case neg =>
  rw [if_pos c]
  simp only [sExt0, sExt1]
  rw [H1.loadN (k := 0) (n := 2) rfl rfl]
  refine magic43 hw hl _ _ _ _ ?_
  rintro _ rfl _
  rw [if_pos c]
  simp only [sExt0, sExt1]
  rw [H1.loadN (k := 0) (n := 2) rfl rfl]
  refine first58 hw hl _ _ _ _ ?_
  rintro _ rfl _
  rw [if_pos c]
  simp only [sExt0, sExt1]
  rw [H1.loadN (k := 0) (n := 2) rfl rfl]
  refine sysErr27 (fun q hq => by have := hw q hq; omega) _ _ _ _ ?_
  rintro _ rfl _
  have fin : ∀ x11 x12, IR.run F12.b2 (CS Tryz.prog B) 1000 (fnO F12.res K) (retK F12.res K) (F12.fr (.agg [I cells, encT lines]) (encI f) (.ptr bx 0) (.bool false) .nils (I (chkErr cells lines f)) (.bool false) (I (chkErr cells lines f)) (I 0) (I (chkErr cells lines f)) (I (chkErr cells lines f)) x11 x12 .undef .undef .undef) h1 nx1 = .ok True := by
   intro x11 x12
   rw [F12.k2]
   simp only [sNeq, c, decide_false, Bool.not_false, sCond_t, sLen_nils, sEql, decide_true, sG_tt, sPick_t, sNot_b, sGW_ttH]
   exact awk _ _ _ ret
  simp only [sEql]
  by_cases hse : sysErr cells lines = 0
  ·simp only [hse, decide_true, sCond_t]
   rw [H1.loadN (k := 0) (n := 2) rfl rfl]
   refine refFilling27 hl hse _ _ _ _ ?_
   rintro _ rfl _
   exact fin _ _
  ·have ec : chkErr cells lines f = sysErr cells lines := by unfold chkErr; rw [if_pos hse]
   simp only [hse, decide_false, sCond_f]
   have := fin (.bool false) (.bool false)
   rw [ec] at this ⊢
   exact this
 obtain ⟨hse, n1, n2, n3⟩ := chk_ok c
 have h0 : ∀ l ∈ lines, LnOk l f := fun l hl => n3 l hl (hw l hl)
 rw [if_neg (fun q => q c)]
 simp only [sExt0, sExt1]
 rw [H1.loadN (k := 0) (n := 2) rfl rfl]
 refine magic43 hw hl _ _ _ _ ?_
 rintro _ rfl _
 rw [if_neg (fun q => q c)]
 simp only [sExt0, sExt1]
 rw [H1.loadN (k := 0) (n := 2) rfl rfl]
 refine first58 hw hl _ _ _ _ ?_
 rintro _ rfl _
 rw [if_neg (fun q => q c)]
 have hlen := sumsL_len lines f
 have tail : ∀ a b : Int, (if diffI (sumsL lines f) < 0 then AV.tup [I 0, I 7] else AV.tup [I (diffI (sumsL lines f)), I 0]) = .tup [I a, I b] →
   ∀ x11 x12, IR.run F12.b2 (CS Tryz.prog B) 1000 (fnO F12.res K) (retK F12.res K) (F12.fr (.agg [I cells, encT lines]) (encI f) (.ptr bx 0) (.bool false) (encI (sumsL lines f)) (I 0) (.bool (decide (diffI (sumsL lines f) < 0))) (I 0) (I a) (I b) (I 0) x11 x12 .undef .undef .undef) h1 nx1 = .ok True := by
  intro a b hab x11 x12
  rw [F12.k2]
  simp only [sNeq, decide_true, Bool.not_true, sCond_f]
  rw [F12.k3]
  simp only [sNeq, decide_true, Bool.not_true]
  rw [F12.r2_f]
  simp only [sNeq, decide_true, Bool.not_true]
  rw [F12.r4_f, H1.loadN (k := 0) (n := 2) rfl rfl]
  refine refSums59 (by omega) h0 _ _ _ _ ?_
  rintro _ rfl _
  refine sameInts35 (by omega) _ _ _ _ ?_
  rintro _ rfl _
  simp only [decide_true, sNot_b, Bool.not_true]
  rw [F12.r6_f, H1.loadN (k := 0) (n := 2) rfl rfl]
  refine refMagic28 (by omega) h0 _ _ _ _ ?_
  rintro _ rfl _
  rw [sNeqBH]
  simp only [bne_self_eq_false]
  rw [F12.c14]
  rw [F12.k4]
  by_cases d : diffI (sumsL lines f) < 0
  ·rw [if_pos d] at hab
   obtain ⟨rfl, rfl⟩ : a = 0 ∧ b = 7 := by simpa [eq_comm] using hab
   rw [decide_eq_true d]
   simp only [sCond_t, sEql, decide_true, sG_tt, sPick_t, sGW_ttH]
   exact awk _ _ _ ret
  ·rw [if_neg d] at hab
   obtain ⟨rfl, rfl⟩ : a = diffI (sumsL lines f) ∧ b = 0 := by simpa [eq_comm] using hab
   rw [decide_eq_false d]
   simp only [sCond_f, sEql, decide_true, sG_tt, sGW_ttH]
   rw [H1.loadN (k := 0) (n := 2) rfl rfl]
   refine refFirst60 (by omega) h0 _ _ _ _ ?_
   rintro _ rfl _
   simp only [sEql, decide_true, sPick_t, sGW_ttH]
   exact awk _ _ _ ret
 have go : ∀ a b : Int, (if diffI (sumsL lines f) < 0 then AV.tup [I 0, I 7] else AV.tup [I (diffI (sumsL lines f)), I 0]) = .tup [I a, I b] → True := fun _ _ _ => trivial
 obtain ⟨a, b, hab⟩ : ∃ a b : Int, (if diffI (sumsL lines f) < 0 then AV.tup [I 0, I 7] else AV.tup [I (diffI (sumsL lines f)), I 0]) = .tup [I a, I b] := by
  by_cases d : diffI (sumsL lines f) < 0
  ·exact ⟨0, 7, by rw [if_pos d]⟩
  ·exact ⟨_, 0, by rw [if_neg d]⟩
 have ht := tail a b hab
 rw [hab]
 simp only [sExt0, sExt1]
 rw [H1.loadN (k := 0) (n := 2) rfl rfl]
 refine sysErr27 (fun q hq => by have := hw q hq; omega) _ _ _ _ ?_
 rintro _ rfl _
 simp only [sEql, hse, decide_true, sCond_t]
 rw [H1.loadN (k := 0) (n := 2) rfl rfl]
 refine refFilling27 hl hse _ _ _ _ ?_
 rintro _ rfl _
 rw [c]
 exact ht _ _
end Go.Ev
