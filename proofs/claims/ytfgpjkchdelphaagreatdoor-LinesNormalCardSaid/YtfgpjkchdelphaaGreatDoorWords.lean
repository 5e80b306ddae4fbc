import Derived.Test.YtfgpjkchdelphaaGreatDoorEvD
import Derived.Deep.Matrix
import Derived.Lib.SmallJoins
import Derived.Test.YtfgpjkchdelphaaGreatDoorCode
import GoSem.Core.Next
import Derived.Test.YtfgpjkchdelphaaGreatDoorLaws
import Derived.IntWalk
set_option linter.unusedSimpArgs false
set_option linter.unusedVariables false
namespace Go.Ev
open Go Go.RowKit Go.ChangeShapes Go.WideShapes Go.Deep Go.Joins
variable {H : Type} {enc : TypeId × Value → H} {P : Program}
theorem cellOf_of_cell {w : World} {a : Addr} {i : Nat} {v : Value} (h : w.cell? (a.add i) = some v) : a = ⟨a.block, a.off, a.spot⟩ ∧ (i = 0 → a.spot = none) ∧ cellOf w a.block (a.off + i) = some v := by
 unfold Addr.add at h
 by_cases hi : i = 0
 ·subst hi
  rw [if_pos rfl] at h
  unfold World.cell? at h
  split at h
  ·rename_i c ty fr hb
   split at h
   ·cases h
   ·rename_i hs
    refine ⟨rfl, fun _ => by cases e : a.spot <;> simp_all, ?_⟩
    simp [cellOf, hb, h]
  ·cases h
 ·rw [if_neg hi] at h
  unfold World.cell? at h
  split at h
  ·rename_i c ty fr hb
   refine ⟨rfl, fun q => absurd q hi, ?_⟩
   simp at h hb
   simp [cellOf, hb, h]
  ·cases h
theorem VRF_mk {E : Env} {b : Nat} : ∀ {l : List AV} {off : Nat}, (∀ i a, l[i]? = some a → ∃ v, E.fz b (off + i) = some v ∧ VR E a v) → VRF E l b off
 | [], _, _ => by simp only [VRF]
 | a :: l, off, h => by
  simp only [VRF]
  obtain ⟨v, h1, h2⟩ := h 0 a rfl
  refine ⟨v, h1, h2, VRF_mk fun i x hx => ?_⟩
  obtain ⟨v', h3, h4⟩ := h (i + 1) x (by simpa using hx)
  exact ⟨v', by rw [Nat.add_assoc, Nat.add_comm 1 i]; exact h3, h4⟩
theorem scalI2 (l : List Int) : (l.map I).all scal = true := by
 rw [List.all_eq_true]; intro v hv
 obtain ⟨x, _, rfl⟩ := List.mem_map.1 hv; rfl
theorem vr_row {w : World} {hl : LaidW w} {p : Option Addr} {L C : Nat} {Z : List Int} (hL : L ≤ C) (hZ : Z.length = C) (h0 : p = none → C = 0) (hc : ∀ a, p = some a → ∀ c, c < C → w.cell? (a.add c) = some (.int .i64 (Z.getD c 0))) :
  VR (allE w hl) (encI (Z.take L)) (.slice p L C) := by
 have hlen : (Z.take L).length = L := by rw [List.length_take]; omega
 simp only [VR]
 refine ⟨scalI2 _, by simp, p, C, by rw [hlen], ?_⟩
 rw [hlen]
 cases p with
 | none => exact .inl ⟨by have := h0 rfl; omega, fun _ => h0 rfl⟩
 | some a =>
  by_cases hL0 : L = 0
  ·exact .inl ⟨hL0, by intro q; cases q⟩
  ·obtain ⟨_, hs, _⟩ := cellOf_of_cell (hc a rfl 0 (by omega))
   obtain ⟨b, off, sp⟩ := a
   have : sp = none := hs rfl
   subst this
   refine .inr ⟨b, off, rfl, hL, VRF_mk fun i x hx => ?_⟩
   rw [List.getElem?_map] at hx
   have hi : i < L := by
    cases e : (Z.take L)[i]? with
    | none => rw [e] at hx; cases hx
    | some y => have := (List.getElem?_eq_some_iff.1 e).1; omega
   obtain ⟨_, _, h3⟩ := cellOf_of_cell (hc _ rfl i (by omega))
   refine ⟨_, h3, ?_⟩
   rw [List.getElem?_take, if_pos hi] at hx
   cases e : Z[i]? with
   | none => rw [e] at hx; cases hx
   | some y =>
    rw [e] at hx
    have hx := Option.some.inj hx
    subst hx
    rw [List.getD_eq_getElem?_getD, e]
    simp only [VR, Option.getD_some]
theorem open_listI {t e : TypeId} {w : World} {hl : LaidW w} {base : Nat} {held : Bool} {fuel : Nat} {cs : List Value} {x : DataW H × List MemPlace} (ht : P.underlying t = some (.slice e)) (he : P.underlying e = some (.int .i64)) (hc : P.cellsOf e = 1)
  (h : DataW.trod enc P w base (fun _ => true) held fuel t cs = some x) : ∃ (l : List Int) (v : Value), cs = [v] ∧ VR (allE w hl) (encI l) v ∧ l.length ≤ maxLen ∧ ∀ n ∈ l, (Lit.int .i64 n).wf = true := by
 rcases open_ints ht he hc h with ⟨rfl, _⟩ | ⟨a, len, cap, zs, rfl, hb, hl, hm, hz, _, hcell, hwz⟩
 ·exact ⟨[], _, rfl, by simp only [VR]; exact ⟨rfl, rfl, none, 0, rfl, .inl ⟨rfl, fun _ => rfl⟩⟩, by simp, by simp⟩
 ·simp only [if_true] at hz
  refine ⟨zs.take len, _, rfl, vr_row hl hz (fun q => by cases q) (fun a' q c hc => by cases q; exact hcell c (by rw [hz]; exact hc)), by rw [List.length_take]; omega, fun n hn => hwz n (List.mem_of_mem_take hn)⟩
theorem open_listV {r : Reach} {b0 : Nat} {t e : TypeId} {w : World} {hl : LaidW w} {base : Nat} {held : Bool} {v : Value} {d : DataW H} {p : List MemPlace} (ht : P.underlying t = some (.slice e)) (he : P.underlying e = some (.int .i64)) (hc : P.cellsOf e = 1)
  (hval : Value.okWide P w r b0 t v) (h : DataW.Trod enc P w base (fun _ => true) held t v d p) : ∃ l : List Int, VR (allE w hl) (encI l) v ∧ l.length ≤ maxLen ∧ ∀ n ∈ l, (Lit.int .i64 n).wf = true := by
 obtain ⟨fuel, hf⟩ := h
 obtain ⟨a, len, cap, rfl⟩ := okWide_slice ht hval
 obtain ⟨l, v', hv, h1, h2, h3⟩ := open_listI ht he hc hf
 simp only [Value.cells, List.cons.injEq, and_true] at hv
 subst hv
 exact ⟨l, h1, h2, h3⟩
end Go.Ev
namespace Go.Ev
open Go Go.Proofs
theorem dreg {B : Nat} : DregAll Tryz.prog B Prop := dreg_all mixed
variable {B : Nat}
theorem sameInts35 {a b : List Int} (ha : a.length ≤ 1000000000) : Pure Tryz.prog B 49 [encI a, encI b] (· = .bool (decide (a = b))) := by
 intro p h nx K hK
 refine by_body tbl_ok dreg (a.length + 2) fun hf => ?_
 rw [F49.go]
 simp (disch := omega) only [sAdd, sSub, sMul, sEql, sNeq, sLss, sLeq, sGtr, sGeq, sPick_t, sPick_f, sCond_t, sCond_f, sG_tt, sG_ff, sG_tf, sG_ft, sNot_b, sExt0, sExt1, sExt2, sPart0, sPart1, sPart2, sLen_lst, sLen_sl, sLen_nils, sSame_refl, decide_true, decide_false, Bool.not_true, Bool.not_false, sChk_t]
 by_cases hl : a.length = b.length
 ·simp only [hl, decide_true, Bool.not_true, sCond_f]
  refine F49.L2 (fun m z3 h' nx' => ∃ i : Nat, z3 = I i ∧ m = a.length - i ∧ i ≤ a.length ∧ h' = h ∧ nx' = nx ∧ a.take i = b.take i) (m := a.length) (by omega) ⟨0, rfl, by simp, by omega, rfl, rfl, by simp⟩ ?_
  rintro m z2 z3 z5 z6 _ _ R ⟨i, rfl, rfl, hi, rfl, rfl, htk⟩ hR
  simp (disch := omega) only [sAdd, sSub, sMul, sEql, sNeq, sLss, sLeq, sGtr, sGeq, sPick_t, sPick_f, sCond_t, sCond_f, sG_tt, sG_ff, sG_tf, sG_ft, sNot_b, sExt0, sExt1, sExt2, sPart0, sPart1, sPart2, sLen_lst, sLen_sl, sLen_nils, sSame_refl, decide_true, decide_false, Bool.not_true, Bool.not_false, sChk_t]
  by_cases hlt : i < a.length
  ·have h1 : (i : Int) < a.length := by omega
   have hb : i < b.length := by omega
   simp only [h1, decide_true, sCond_t]
   rw [sIxL rfl hlt, ldL (getI (List.getElem?_eq_getElem hlt)), sIxL rfl hb, ldL (getI (List.getElem?_eq_getElem hb))]
   simp (disch := omega) only [sAdd, sSub, sMul, sEql, sNeq, sLss, sLeq, sGtr, sGeq, sPick_t, sPick_f, sCond_t, sCond_f, sG_tt, sG_ff, sG_tf, sG_ft, sNot_b, sExt0, sExt1, sExt2, sPart0, sPart1, sPart2, sLen_lst, sLen_sl, sLen_nils, sSame_refl, decide_true, decide_false, Bool.not_true, Bool.not_false, sChk_t]
   by_cases he : a[i] = b[i]
   ·simp only [he, decide_true, Bool.not_true, sCond_f]
    refine hR (a.length - (i + 1)) _ _ _ _ _ _ (by omega) ⟨i + 1, rfl, rfl, by omega, rfl, rfl, ?_⟩
    rw [List.take_add_one, List.take_add_one, htk, List.getElem?_eq_getElem hlt, List.getElem?_eq_getElem hb, he]
   ·simp only [he, decide_false, Bool.not_false, sCond_t]
    refine hK _ ?_ hf
    rw [decide_eq_false]
    rintro rfl
    exact he rfl
  ·have h1 : ¬ (i : Int) < a.length := by omega
   simp only [h1, decide_false, sCond_f]
   rw [F49.k9]
   refine hK _ ?_ hf
   rw [List.take_of_length_le (by omega), List.take_of_length_le (by omega)] at htk
   rw [decide_eq_true htk]
 ·have h1 : ¬ (a.length : Int) = b.length := by omega
  simp only [h1, decide_false, Bool.not_false, sCond_t]
  refine hK _ ?_ hf
  rw [decide_eq_false]
  rintro rfl; exact hl rfl
end Go.Ev
namespace Go.Ev
open Go Go.Proofs
variable {B : Nat}
theorem when123 (b : Bool) (e : Int) : Pure Tryz.prog B 88 [.bool b, I e] (· = I (if b then e else 0)) := by
 intro p h nx K hK
 refine by_body tbl_ok dreg 9 fun hf => ?_
 rw [F88.go]
 cases b <;> simp (disch := omega) only [sAdd, sSub, sMul, sEql, sNeq, sLss, sLeq, sGtr, sGeq, sPick_t, sPick_f, sCond_t, sCond_f, sG_tt, sG_ff, sG_tf, sG_ft, sNot_b, sExt0, sExt1, sExt2, sPart0, sPart1, sPart2, sLen_lst, sLen_sl, sLen_nils, sSame_refl, decide_true, decide_false, Bool.not_true, Bool.not_false, sChk_t] <;> exact hK _ rfl hf
def firstE : List Int → Int
 | [] => 0
 | e :: l => if e ≠ 0 then e else firstE l
theorem firstE_skip : ∀ (l : List Int) (i : Nat), (∀ e ∈ l.take i, e = 0) → firstE l = firstE (l.drop i)
 | l, 0, _ => rfl
 | [], _ + 1, _ => rfl
 | e :: l, i + 1, h => by
  have h0 : e = 0 := h e (by simp)
  rw [firstE, if_neg (by simp [h0]), List.drop_succ_cons]
  exact firstE_skip l i fun x hx => h x (by simp [hx])
theorem first121 {l : List Int} (hl : l.length ≤ 1000000) : Pure Tryz.prog B 86 [encI l] (· = I (firstE l)) := by
 intro p h nx K hK
 refine by_body tbl_ok dreg 10000000 fun hf => ?_
 rw [F86.go]
 simp (disch := omega) only [sAdd, sSub, sMul, sEql, sNeq, sLss, sLeq, sGtr, sGeq, sPick_t, sPick_f, sCond_t, sCond_f, sG_tt, sG_ff, sG_tf, sG_ft, sNot_b, sExt0, sExt1, sExt2, sPart0, sPart1, sPart2, sLen_lst, sLen_sl, sLen_nils, sSame_refl, decide_true, decide_false, Bool.not_true, Bool.not_false, sChk_t]
 refine F86.L1 (fun m z5 h' nx' => ∃ i : Nat, z5 = I i ∧ l.length - i = m ∧ i ≤ l.length ∧ h' = h ∧ nx' = nx ∧ ∀ e ∈ l.take i, e = 0) (m := l.length) (by omega) ⟨0, rfl, rfl, by omega, rfl, rfl, by simp⟩ ?_
 rintro m z1 z2 z5 z6 z7 _ _ R ⟨i, rfl, rfl, hi, rfl, rfl, htk⟩ hR
 simp (disch := omega) only [sAdd, sSub, sMul, sEql, sNeq, sLss, sLeq, sGtr, sGeq, sPick_t, sPick_f, sCond_t, sCond_f, sG_tt, sG_ff, sG_tf, sG_ft, sNot_b, sExt0, sExt1, sExt2, sPart0, sPart1, sPart2, sLen_lst, sLen_sl, sLen_nils, sSame_refl, decide_true, decide_false, Bool.not_true, Bool.not_false, sChk_t]
 by_cases hlt : i < l.length
 ·simp only [show (i : Int) < (l.length : Int) by omega, decide_true, sCond_t]
  have hx : l[i]? = some l[i] := List.getElem?_eq_getElem hlt
  rw [sIxL rfl hlt, ldL (getI hx)]
  simp (disch := omega) only [sAdd, sSub, sMul, sEql, sNeq, sLss, sLeq, sGtr, sGeq, sPick_t, sPick_f, sCond_t, sCond_f, sG_tt, sG_ff, sG_tf, sG_ft, sNot_b, sExt0, sExt1, sExt2, sPart0, sPart1, sPart2, sLen_lst, sLen_sl, sLen_nils, sSame_refl, decide_true, decide_false, Bool.not_true, Bool.not_false, sChk_t]
  have hd : l.drop i = l[i] :: l.drop (i + 1) := List.drop_eq_getElem_cons hlt
  by_cases h0 : l[i] = 0
  ·simp only [h0, decide_true, Bool.not_true, sCond_f]
   refine hR _ _ _ _ _ _ _ _ (by omega) ⟨i + 1, rfl, rfl, by omega, rfl, rfl, fun e he => ?_⟩
   rw [List.take_add_one, hx] at he
   rcases List.mem_append.1 he with q | q
   ·exact htk e q
   ·simp at q; rw [q]; exact h0
  ·simp only [h0, decide_false, Bool.not_false, sCond_t]
   refine hK _ ?_ hf
   rw [firstE_skip l i htk, hd, firstE, if_pos h0]
 ·simp only [show ¬ (i : Int) < (l.length : Int) by omega, decide_false, sCond_f]
  rw [F86.k8]
  refine hK _ ?_ hf
  rw [firstE_skip l i htk, List.drop_of_length_le (by omega)]; rfl
end Go.Ev
namespace Go.Ev
open Go Go.Proofs
variable {B : Nat}
end Go.Ev
namespace Go.Ev
open Go Go.Proofs
variable {B : Nat}
end Go.Ev
namespace Go.Ev
open Go Go.Proofs
variable {B : Nat}
theorem own_plain {P : Program} {f : Nat} {p id : Pa} {h0 h : T Blk} {nx : Pa} {L : List Ob} {k : Nat} {l : List Int} {K : Kw Prop} {Q : AV → Prop} (H : Hp h0 h nx L) (hk : L[k]? = some (.arr id (l.map I))) (hq : ∀ B, Pure P B f [encI l] Q) (hpl : ∀ v, Q v → Plain v)
  (hK : ∀ v, Q v → K v h nx = .ok True) : (CS P B).fn f p [.sl id 0 l.length (some l.length) 1] h nx K = .ok True :=
 CS_plain (.cons (HasArr.frz (H.own _ (List.mem_of_getElem? hk)) (T.get_e _ id) (Nat.le_refl _) (by simp) fun v hv => by obtain ⟨x, _, rfl⟩ := List.mem_map.1 hv; rfl) .nil) (by
  have := fixd_encI l
  simp only [nns, fixd.nn this, Bool.and_self]) hq hpl fun v hv _ => hK v hv
theorem contF131 {h : T Blk} {nx : Pa} {l : List Int} {g : Nat} {p q : Pa} {cap : List AV} {pr : Int → Bool} {K : Kw Prop} (hl : l.length ≤ 1000000) (hcl : ∀ x ∈ l, ∀ K : Kw Prop, K (.bool (pr x)) h nx = .ok True → (CS Tryz.prog B).fn g q (I x :: cap) h nx K = .ok True)
  (hK : K (.bool (l.any pr)) h nx = .ok True) : (CS Tryz.prog B).fn 173 p [encI l, .fn g q cap] h nx K = .ok True := by
 refine CS_fn_mono (p := .of 173) (K := K) (by_body tbl_ok dreg 9 fun hf => ?_) fun _ _ _ _ q => q
 rw [F173.go]
 refine CS_fn_mono (p := .of 184) (K := fun v1 h2 n3 => sBin .geq .int v1 (I 0) fun v4 => K v4 h2 n3) (by_body tbl_ok dreg 10000000 fun hf => ?_) fun _ _ _ _ q => q
 rw [F184.go]
 simp (disch := omega) only [sAdd, sSub, sMul, sEql, sNeq, sLss, sLeq, sGtr, sGeq, sPick_t, sPick_f, sCond_t, sCond_f, sG_tt, sG_ff, sG_tf, sG_ft, sNot_b, sExt0, sExt1, sExt2, sPart0, sPart1, sPart2, sLen_lst, sLen_sl, sLen_nils, sSame_refl, decide_true, decide_false, Bool.not_true, Bool.not_false, sChk_t]
 refine F184.L1 (fun m z5 h' nx' => ∃ i : Nat, z5 = I i ∧ l.length - i = m ∧ i ≤ l.length ∧ h' = h ∧ nx' = nx ∧ (l.take i).any pr = false) (m := l.length) (by omega) ⟨0, rfl, rfl, by omega, rfl, rfl, by simp⟩ ?_
 rintro m z2 z3 z5 z6 z7 _ _ R ⟨i, rfl, rfl, hi, rfl, rfl, htk⟩ hR
 simp (disch := omega) only [sAdd, sSub, sMul, sEql, sNeq, sLss, sLeq, sGtr, sGeq, sPick_t, sPick_f, sCond_t, sCond_f, sG_tt, sG_ff, sG_tf, sG_ft, sNot_b, sExt0, sExt1, sExt2, sPart0, sPart1, sPart2, sLen_lst, sLen_sl, sLen_nils, sSame_refl, decide_true, decide_false, Bool.not_true, Bool.not_false, sChk_t]
 by_cases hlt : i < l.length
 ·simp only [show (i : Int) < (l.length : Int) by omega, decide_true, sCond_t]
  have hx : l[i]? = some l[i] := List.getElem?_eq_getElem hlt
  rw [sIxL rfl hlt, ldL (getI hx), sCall_fn]
  refine hcl _ (List.getElem_mem hlt) _ ?_
  cases he : pr l[i] with
  | true =>
   simp only [sCond_t, sGeq, show (0 : Int) ≤ (i : Int) by omega, decide_true]
   rw [List.any_eq_true.2 ⟨_, List.getElem_mem hlt, he⟩] at hK
   exact hK
  | false =>
   simp only [sCond_f]
   refine hR _ _ _ _ _ _ _ _ (by omega) ⟨i + 1, rfl, rfl, by omega, rfl, rfl, ?_⟩
   rw [List.take_add_one, hx, List.any_append, htk]
   simp [he]
 ·simp only [show ¬ (i : Int) < (l.length : Int) by omega, decide_false, sCond_f]
  rw [F184.k8]
  rw [List.take_of_length_le (by omega)] at htk
  rw [htk] at hK
  simp only [sGeq, show ¬ (0 : Int) ≤ -1 by omega, decide_false]
  exact hK
theorem from122 {a b : Int} {l : List Int} (hl : l.length ≤ 1000000) : Pure Tryz.prog B 87 [I a, I b, encI l] (· = I (if l.any (fun x => decide (x < a) || decide (b < x)) then 3 else 0)) := by
 refine pure_hp fun h nx K H0 hK => by_body tbl_ok dreg 1000 fun hf => ?_
 rw [F87.go]
 refine H0.box (l := [I a]) rfl fun x1 h1 nx1 H1 => ?_
 refine H1.box (l := [I b]) rfl fun x2 h2 nx2 H2 => ?_
 refine contF131 (pr := fun x => decide (x < a) || decide (b < x)) hl (fun x _ K hK => ?_) ?_
 ·refine CS_fn_mono (p := .of 174) (K := K) (by_body tbl_ok dreg 9 fun hf => ?_) fun _ _ _ _ q => q
  show callFn tbl 9 _ (Pa.of 174) [I x, .ptr x1 0, .ptr x2 0] _ _ _ = _
  rw [F174.go, H2.load (k := 1) (i := 0) rfl rfl]
  by_cases c : x < a
  ·simp only [sLss, c, decide_true, sG_tf, sPick_t]
   simpa [c] using hK
  ·simp only [sLss, c, decide_false, sG_ff]
   rw [H2.load (k := 0) (i := 0) rfl rfl]
   simp only [sGtr, sPick_f]
   simpa [c] using hK
 ·refine when123 _ _ _ _ _ _ ?_
  rintro _ rfl _
  exact hK _ _ _ _ _ H2 (frz_fixd rfl) rfl
end Go.Ev
namespace Go.Ev
end Go.Ev
namespace Go.Ev
open Go Go.Proofs
variable {B : Nat}
end Go.Ev
namespace Go.Ev
open Go Go.Proofs
variable {B : Nat}
end Go.Ev
namespace Go.Ev
open Go Go.Proofs
variable {B : Nat}
set_option maxRecDepth 100000
theorem sLoad_fp1 {h : T Blk} (a : AV) (l : List AV) (K : AV → OP) : sLoad (.fp (a :: l)) h K = K a := nr rfl
theorem sCall_yld {P : Program} {id : Pa} {args : List AV} {h : T Blk} {nx : Pa} {K : Kw Prop} : sCall (CS P B) (.yld id) args h nx K = (CS P B).yld id args h nx K := nr rfl
theorem iter153 {h : T Blk} {nx : Pa} {p id : Pa} {l : List Int} {K : Kw Prop} (J : Nat → T Blk → Pa → Prop) (hl : l.length ≤ 1000000) (hJ : J 0 h nx)
  (step : ∀ (i : Nat) (x : Int) (h : T Blk) (nx : Pa) (K : Kw Prop), l[i]? = some x → J i h nx → Fr h nx → (∀ h' nx', J (i + 1) h' nx' → K (.bool true) h' nx' = .ok True) → (CS Tryz.prog B).yld id [I x] h nx K = .ok True)
  (fr : ∀ i h nx, J i h nx → Fr h nx) (hK : ∀ h' nx', J l.length h' nx' → K (.tup []) h' nx' = .ok True) : (CS Tryz.prog B).fn 244 p [.yld id, .fp [encI l]] h nx K = .ok True := by
 refine CS_fn_mono (p := .of 244) (K := K) (by_body tbl_ok dreg 10000000 fun hf => ?_) fun _ _ _ _ q => q
 rw [F244.go, sLoad_fp1]
 simp only [sLen_lst]
 refine F244.L1 (fun m z5 h' nx' => ∃ i : Nat, z5 = I i ∧ l.length - i = m ∧ i ≤ l.length ∧ J i h' nx') (m := l.length) (by omega) ⟨0, rfl, rfl, by omega, hJ⟩ ?_
 rintro m z2 z5 z6 z7 h1 nx1 R ⟨i, rfl, rfl, hi, hJ1⟩ hR
 simp (disch := omega) only [sAdd, sSub, sMul, sEql, sNeq, sLss, sLeq, sGtr, sGeq, sPick_t, sPick_f, sCond_t, sCond_f, sG_tt, sG_ff, sG_tf, sG_ft, sNot_b, sExt0, sExt1, sExt2, sPart0, sPart1, sPart2, sLen_lst, sLen_sl, sLen_nils, sSame_refl, decide_true, decide_false, Bool.not_true, Bool.not_false, sChk_t]
 by_cases hlt : i < l.length
 ·simp only [show (i : Int) < (l.length : Int) by omega, decide_true, sCond_t]
  have hx : l[i]? = some l[i] := List.getElem?_eq_getElem hlt
  rw [sIxL rfl hlt, ldL (getI hx), sCall_yld]
  refine step i _ _ _ _ hx hJ1 (fr _ _ _ hJ1) fun h2 nx2 hJ2 => ?_
  simp only [sNot_b, Bool.not_true, sCond_f]
  try rw [sAdd (by omega)]
  exact hR _ _ _ _ _ _ _ (by omega) ⟨i + 1, rfl, rfl, by omega, hJ2⟩
 ·simp only [show ¬ (i : Int) < (l.length : Int) by omega, decide_false, sCond_f]
  obtain rfl : i = l.length := by omega
  exact hK _ _ hJ1
theorem Hp.addGro {h0 h : T Blk} {nx : Pa} {L : List Ob} (H : Hp h0 h nx L) (e : Nat) : Hp h0 h nx (.gro none e 0 [] :: L) :=
  ⟨H.keep, fun x hx => by rcases List.mem_cons.1 hx with rfl | q; · exact ⟨rfl, rfl⟩
                          · exact H.own x q, fun n hn => H.off n (by simpa [Ob.names] using hn), by have := H.nd; simpa [Ob.names] using this, H.fr⟩
theorem getLoop {h0 h : T Blk} {nx : Pa} {L : List Ob} {id : Pa} {b : Blk} {k : Nat} (H : Hp h0 h nx L) (hk : L[k]? = some (.raw id b)) : T.get .no id h = b := (H.own _ (List.mem_of_getElem? hk)).1
theorem Hp.setRaw {h0 h : T Blk} {nx : Pa} {L : List Ob} {id : Pa} {b b' : Blk} {k : Nat} (H : Hp h0 h nx L) (hk : L[k]? = some (.raw id b)) (hb : b' ≠ .no) : Hp h0 (T.set .no b' id h) nx (L.set k (.raw id b')) :=
 H.upd hk (by simp [Ob.names]) rfl ⟨T.get_set_same _ _ _ _, hb⟩
theorem append173 {h0 h : T Blk} {nx : Pa} {L : List Ob} {p q : Pa} {l : List Int} {K : Kw Prop} (hl : l.length ≤ 100000) (H : Hp h0 h nx L)
  (hK : ∀ o h' nx', Hp h0 h' nx' (.gro o 1 l.length (l.map I) :: L) → K (rowV o 1 l.length) h' nx' = .ok True) : (CS Tryz.prog B).fn 282 p [.nils, .fn 244 q [.fp [encI l]]] h nx K = .ok True := by
 refine CS_fn_mono (p := .of 282) (K := K) (by_body tbl_ok dreg 10000000 fun hf => ?_) fun _ _ _ _ q => q
 rw [F282.go]
 refine H.box (l := [.nils]) rfl fun bx h1 nx1 H1 => ?_
 refine H1.rf (g := 244) (p := q) (cap := [.fp [encI l]]) rfl fun id h2 nx2 H2 => ?_
 refine iter153 (fun i h' nx' => ∃ o, Hp h0 h' nx' (.raw id (.loop .ready .none (F282.fr .nils (.fn 244 q [.fp [encI l]]) (.ptr bx 0) .nils .undef (.fn 244 q [.fp [encI l]]) .undef) [.of 6] F282.b3 F282.b4) :: .arr bx [rowV o 1 i] :: .gro o 1 i ((l.take i).map I) :: L)) (by omega) ⟨none, ?_⟩ ?_ (fun _ _ _ ⟨_, q⟩ => q.fr) ?_
 ·have := H2.addGro 1
  exact this.perm ((List.Perm.swap _ _ _).trans (.cons _ (.swap _ _ _)))
 ·rintro i x h3 nx3 K3 hx ⟨o, H3⟩ _ hnext
  have hi : i < l.length := (List.getElem?_eq_some_iff.1 hx).1
  refine by_round (fns := tbl) dreg 100 fun hf => ?_
  rw [F282.y4 (getLoop H3 (k := 0) rfl) rfl]
  have H4 := H3.setRaw (k := 0) rfl (b' := .loop .busy .none (F282.fr .nils (.fn 244 q [.fp [encI l]]) (.ptr bx 0) .nils .undef (.fn 244 q [.fp [encI l]]) .undef) [.of 6] F282.b3 F282.b4) (by intro e; cases e)
  rw [H4.load (k := 1) (i := 0) rfl rfl]
  refine H4.bslice (l := [I x]) rfl fun e5 h5 nx5 H5 => ?_
  refine H5.appN (k := 3) (o := o) (c := 1) (new := [I x]) rfl (HasArr.rd (l := [I x]) (n := 1) (H5.own _ (List.mem_cons_self ..)) rfl) rfl rfl (by decide) (by decide) (by omega) fun o' h6 nx6 ho H6 => ?_
  refine H6.store (k := 2) rfl (by simp) (rowV_cells _ _ _) fun h7 H7 => ?_
  refine H7.rend (k := 1) rfl fun h8 H8 => ?_
  refine hnext _ _ ⟨o', (H8.drop).cast ?_⟩
  have e1 : (l.take (i + 1)).map I = (l.take i).map I ++ [I x] := by rw [List.take_add_one, hx]; simp
  rw [e1]; rfl
 ·rintro h3 nx3 ⟨o, H3⟩
  rw [List.take_length] at H3
  refine H3.rfEnd fun h4 H4 => ?_
  rw [rfEnd_on, F282.k6, H4.load (k := 0) (i := 0) rfl rfl]
  exact hK _ _ _ H4.drop
theorem values126 {l : List Int} : Pure Tryz.prog B 171 [encI l] (· = .fn 244 (.of 244) [.fp [encI l]]) := by
 refine pure_hp fun h nx K H0 hK => by_body tbl_ok dreg 10000000 fun hf => ?_
 rw [F171.go]
 refine H0.box (l := [encI l]) rfl fun bx h1 nx1 H1 => ?_
 obtain ⟨op, t, g1, g2⟩ : HasArr h1 bx [encI l] := H1.own _ (List.mem_cons_self ..)
 refine hK _ _ _ _ (.fn 244 (.of 244) [.fp [encI l]]) H1 (.fn _ _ _ _ rfl fun i v v' h2 h3 => ?_) rfl
 match i with
 | 0 =>
  simp only [List.getElem?_cons_zero, Option.some.injEq] at h2 h3
  subst h2 h3
  refine .ptr _ _ op _ t _ (H1.off bx (by simp [Ob.names])) g1 (by simp) (by simp [scal]) fun i v hv => ?_
  match i with
  | 0 =>
   simp only [List.getElem?_cons_zero, Option.some.injEq] at hv
   subst hv
   have := rdList_get t 0 1 0 (by omega)
   have g2 : rdList t 0 1 = [encI l] := g2
   rw [g2] at this
   simp only [List.getElem?_cons_zero, Option.some.injEq] at this
   rw [← this]
   exact frz_fixd (fixd_encI l)
  | i + 1 => simp at hv
 | i + 1 => simp at h2
end Go.Ev
namespace Go.Ev
open Go Go.Proofs
variable {B : Nat}
theorem sort152 {h0 h : T Blk} {nx p : Pa} {L : List Ob} {k n : Nat} {o : Option Pa} {l : List Int} {K : Kw Prop} (hj : ∀ B, JOk Tryz.prog B hookS) (H : Hp h0 h nx L) (hk : L[k]? = some (.gro o 1 n (l.map I))) (hn : n ≤ 1000000)
  (hK : ∀ h', Hp h0 h' nx (L.set k (.gro o 1 n ((srt l).map I))) → K (.tup []) h' nx = .ok True) : (CS Tryz.prog B).fn 243 p [rowV o 1 n] h nx K = .ok True := by
 have own := H.own _ (List.mem_of_getElem? hk)
 cases o with
 | none =>
  obtain ⟨q1, rfl⟩ := own
  obtain rfl : l = [] := by simpa using q1
  refine CS_hook (hj B) (v := .tup []) (h2 := h) rfl (hK h (H.cast ?_))
  have e : (srt ([] : List Int)).map I = [] := by simp [srt]
  rw [e, (getSplit hk).2]; exact (getSplit hk).1
 | some id =>
  obtain ⟨t, h1, h2, h3⟩ := own
  rw [Nat.mul_one] at h1 h2 h3
  have e1 : sortJ (.sl id 0 n none 1) h = some (T.set Blk.no (Blk.cells true n (wrList ((srt l).map I) t 0)) id h) := by
   show (match T.get Blk.no id h with
    | .cells op m t => bif Nat.beq 1 1 && Nat.ble (0 + n) m && Nat.ble n 1000000 then (match intsA (rdList t 0 n) with
     | some l => some (T.set Blk.no (Blk.cells op m (wrList ((srt l).map I) t 0)) id h)
     | none => none) else none
    | _ => none) = _
   rw [h1]
   show (bif Nat.beq 1 1 && Nat.ble (0 + n) n && Nat.ble n 1000000 then (match intsA (rdList t 0 n) with
     | some l => some (T.set Blk.no (Blk.cells true n (wrList ((srt l).map I) t 0)) id h)
     | none => none) else none) = _
   rw [Nat.ble_eq_true_of_le (by omega), Nat.ble_eq_true_of_le hn, h3, intsA_map]; rfl
  have e2 : hookS 243 [rowV (some id) 1 n] h = some (.tup [], T.set Blk.no (Blk.cells true n (wrList ((srt l).map I) t 0)) id h) := by
   show (match sortJ (.sl id 0 n none 1) h with
    | some h => some ((.tup [] : AV), h)
    | none => none) = _
   rw [e1]
  refine CS_hook (hj B) e2 (hK _ (H.upd hk (by simp [Ob.names]) rfl ⟨_, by rw [T.get_set_same, Nat.mul_one], by simpa using h2, ?_⟩))
  have := rdList_wr t [] ((srt l).map I) 0 rfl
  rw [Nat.zero_add, List.nil_append] at this
  have hl : ((srt l).map I).length = n := by simpa using h2
  rw [hl] at this
  rw [Nat.mul_one]; exact this
theorem sorted125 {l : List Int} (hj : ∀ B, JOk Tryz.prog B hookS) (hl : l.length ≤ 100000) : Pure Tryz.prog B 170 [.fn 244 (.of 244) [.fp [encI l]]] (· = encI (srt l)) := by
 refine pure_hp fun h nx K H0 hK => by_body tbl_ok dreg 100 fun hf => ?_
 rw [F170.go]
 refine CS_fn_mono (p := .of 242) (K := fun v1 h2 n3 => (CS Tryz.prog B).fn 243 (.of 243) [v1] h2 n3 fun v4 h5 n6 => K v1 h5 n6) (by_body tbl_ok dreg 100 fun hf => ?_) fun _ _ _ _ q => q
 rw [F242.go]
 refine append173 hl H0 fun o h1 nx1 H1 => ?_
 refine sort152 hj H1 (k := 0) rfl (by omega) fun h2 H2 => ?_
 refine hK _ _ _ _ _ H2 (H2.frzGro (k := 0) rfl (by intro v hv; obtain ⟨t, _, rfl⟩ := List.mem_map.1 hv; rfl)) ?_
 show _ = AV.lst 1 _ _
 rw [srt_length]
end Go.Ev
namespace Go.Ev
open Go
end Go.Ev
namespace Go.Ev
open Go Go.Proofs
variable {B : Nat}
end Go.Ev
namespace Go.Ev
theorem sub_perm : ∀ (l r : List Int), l.Nodup → (∀ x ∈ l, x ∈ r) → ∃ s, r.Perm (l ++ s)
 | [], r, _, _ => ⟨r, .refl _⟩
 | a :: l, r, hn, hs => by
  obtain ⟨h1, h2⟩ := List.nodup_cons.1 hn
  have ha := hs a (by simp)
  obtain ⟨s, hp⟩ := sub_perm l (r.erase a) h2 fun x hx => (List.mem_erase_of_ne (by rintro rfl; exact h1 hx)).2 (hs x (by simp [hx]))
  exact ⟨s, (List.perm_cons_erase ha).trans (.cons a hp)⟩
abbrev upTo (n : Nat) : List Int := (List.range n).map fun (i : Nat) => (i : Int) + 1
def Rv (l cur : List Int) (i : Nat) : Prop := cur.length = l.length ∧ ∀ t, t < l.length → cur[t]? = if t < i ∨ l.length ≤ t + i then l[l.length - 1 - t]? else l[t]?
theorem Rv.done {l cur : List Int} {i : Nat} (h : Rv l cur i) (hi : l.length ≤ 2 * i + 1) : cur = l.reverse := by
 refine List.ext_getElem? fun t => ?_
 by_cases ht : t < l.length
 ·rw [h.2 t ht, List.getElem?_reverse ht]
  by_cases c : t < i ∨ l.length ≤ t + i
  ·rw [if_pos c]
  ·rw [if_neg c, show l.length - 1 - t = t by omega]
 ·rw [List.getElem?_eq_none (by rw [h.1]; omega), List.getElem?_eq_none (by simp; omega)]
theorem Rv.step {l cur : List Int} {i j : Nat} {a b : Int} (h : Rv l cur i) (hij : i < j) (hs : i + j + 1 = l.length) (ha : cur[i]? = some a) (hb : cur[j]? = some b) : Rv l ((cur.set i b).set j a) (i + 1) := by
 obtain ⟨hl, hg⟩ := h
 refine ⟨by simp [hl], fun t ht => ?_⟩
 have e1 := hg i (by omega)
 have e2 := hg j (by omega)
 rw [if_neg (by omega), ha] at e1
 rw [if_neg (by omega), hb] at e2
 rw [List.getElem?_set, List.getElem?_set, List.length_set]
 by_cases c1 : j = t
 ·subst c1
  rw [if_pos rfl, if_pos (by omega), if_pos (by omega), show l.length - 1 - j = i by omega]
  exact e1
 ·rw [if_neg c1]
  by_cases c2 : i = t
  ·subst c2
   rw [if_pos rfl, if_pos (by omega), if_pos (by omega), show l.length - 1 - i = j by omega]
   exact e2
  ·rw [if_neg c2, hg t ht]
   by_cases c3 : t < i ∨ l.length ≤ t + i
   ·rw [if_pos c3, if_pos (by omega)]
   ·rw [if_neg c3, if_neg (by omega)]
end Go.Ev
namespace Go.Ev
section
variable {σ α : Type}
end
end Go.Ev
namespace Go.Ev
end Go.Ev
namespace Go.Ev
def SpOK (M : Int) (q : List (Int × Int)) : Prop := q.Pairwise (fun a b => a.1 < b.1) ∧ ∀ p ∈ q, 0 ≤ p.1 ∧ p.1 ≤ M
theorem SpOK.len {q : List (Int × Int)} (h : SpOK 9000 q) : q.length ≤ 9001 := by
 obtain ⟨t, ht⟩ := sub_perm (q.map (·.1)) ((List.range 9001).map fun (i : Nat) => (i : Int)) (by
  rw [List.nodup_iff_pairwise_ne, List.pairwise_map]
  exact h.1.imp fun {a b} q e => by omega) fun x hx => by
  obtain ⟨p, hp, rfl⟩ := List.mem_map.1 hx
  have := h.2 p hp
  exact List.mem_map.2 ⟨p.1.toNat, List.mem_range.2 (by omega), by omega⟩
 have := ht.length_eq
 rw [List.length_map, List.length_range, List.length_append, List.length_map] at this
 omega
end Go.Ev
namespace Go.Ev
end Go.Ev
namespace Go.Ev
open Go Go.Proofs
variable {B : Nat}
set_option maxRecDepth 100000
theorem sub_permG {α : Type} [DecidableEq α] : ∀ (l r : List α), l.Nodup → (∀ x ∈ l, x ∈ r) → ∃ s, r.Perm (l ++ s)
 | [], r, _, _ => ⟨r, .refl _⟩
 | a :: l, r, hn, hs => by
  obtain ⟨h1, h2⟩ := List.nodup_cons.1 hn
  have ha := hs a (by simp)
  obtain ⟨s, hp⟩ := sub_permG l (r.erase a) h2 fun x hx => (List.mem_erase_of_ne (by rintro rfl; exact h1 hx)).2 (hs x (by simp [hx]))
  exact ⟨s, (List.perm_cons_erase ha).trans (.cons a hp)⟩
theorem perm_of_sub {α : Type} [DecidableEq α] {l r : List α} (h1 : l.Nodup) (h2 : ∀ x ∈ l, x ∈ r) (h3 : r.length ≤ l.length) : r.Perm l := by
 obtain ⟨s, hs⟩ := sub_permG l r h1 h2
 have hl := hs.length_eq
 obtain rfl : s = [] := List.eq_nil_of_length_eq_zero (by rw [List.length_append] at hl; omega)
 simpa using hs
theorem srt_lengthL (l : List Int) : (srt l).length = l.length := (srt_perm l).length_eq
theorem mem_upTo {n : Nat} {x : Int} : x ∈ upTo n ↔ 1 ≤ x ∧ x ≤ (n : Int) := by
 rw [List.mem_map]
 constructor
 ·rintro ⟨i, hi, rfl⟩; have := List.mem_range.1 hi; omega
 ·rintro ⟨h1, h2⟩; exact ⟨(x - 1).toNat, List.mem_range.2 (by omega), by omega⟩
theorem nrm_iffL {f : List Int} : srt f = upTo f.length ↔ ∀ j, j < f.length → ((j : Int) + 1) ∈ f := by
 constructor
 ·intro h j hj
  rw [← (srt_perm f).mem_iff, h, mem_upTo]; omega
 ·intro h
  have hnd : (upTo f.length).Nodup := by
   refine List.pairwise_map.2 (List.nodup_range.imp fun hne e => hne (by omega))
  have hp : (upTo f.length).Perm f := List.Perm.symm <| perm_of_sub hnd (fun x hx => by
   rw [mem_upTo] at hx
   have := h (x - 1).toNat (by omega)
   rwa [show (((x - 1).toNat : Nat) : Int) + 1 = x by omega] at this) (by simp)
  refine (srt_unique hp ?_).symm
  exact List.pairwise_map.2 (List.pairwise_lt_range.imp fun h => by omega)
theorem isNormal136 {f : List Int} (hj : ∀ B, JOk Tryz.prog B hookS) (hl : f.length ≤ 100000) : Pure Tryz.prog B 136 [encI f] (· = .bool (decide (srt f = upTo f.length))) := by
 intro p h nx K hK
 refine by_body tbl_ok dreg 10000000 fun hf => ?_
 rw [F136.go]
 refine values126 _ _ _ _ ?_
 rintro _ rfl _
 refine sorted125 hj hl _ _ _ _ ?_
 rintro _ rfl _
 have hlen := srt_lengthL f
 simp only [sLen_lst]
 refine F136.L1 (fun m z6 h' nx' => ∃ i : Nat, z6 = I i ∧ f.length - i = m ∧ i ≤ f.length ∧ h' = h ∧ nx' = nx ∧ (srt f).take i = (upTo f.length).take i) (m := f.length) (by omega) ⟨0, rfl, rfl, by omega, rfl, rfl, rfl⟩ ?_
 rintro m z1 z2 z3 z6 z7 z8 _ _ R ⟨i, rfl, rfl, hi, rfl, rfl, htk⟩ hR
 simp only [sLss]
 by_cases hlt : i < f.length
 ·simp only [show (i : Int) < ((srt f).length : Int) by omega, decide_true, sCond_t]
  have hx : (srt f)[i]? = some (srt f)[i] := List.getElem?_eq_getElem (by omega)
  have hu : (upTo f.length)[i]? = some ((i : Int) + 1) := by simp [List.getElem?_map, hlt]
  rw [sIxL rfl (by omega), ldL (getI hx), sAdd (by omega)]
  simp only [sNeq]
  by_cases c : (srt f)[i] = (i : Int) + 1
  ·simp only [c, decide_true, Bool.not_true, sCond_f]
   rw [sAdd (by omega)]
   refine hR _ _ _ _ _ _ _ _ _ (by omega) ⟨i + 1, rfl, rfl, by omega, rfl, rfl, ?_⟩
   rw [List.take_add_one, List.take_add_one, htk, hx, hu, c]
  ·simp only [c, decide_false, Bool.not_false, sCond_t]
   refine hK _ ?_ hf
   rw [decide_eq_false]
   intro q
   have h9 : (srt f)[i]? = some ((i : Int) + 1) := by rw [q]; exact hu
   rw [hx] at h9
   exact c (Option.some.inj h9)
 ·simp only [show ¬ (i : Int) < ((srt f).length : Int) by omega, decide_false, sCond_f]
  rw [F136.k8]
  rw [List.take_of_length_le (by omega), List.take_of_length_le (by simp; omega)] at htk
  exact hK _ (by rw [decide_eq_true htk]) hf
theorem refNormal46 {f : List Int} (hl : f.length ≤ 100000) : Pure Tryz.prog B 46 [encI f] (· = .bool (decide (srt f = upTo f.length))) := by
 intro p h nx K hK
 refine by_body tbl_ok dreg 10000000 fun hf => ?_
 rw [F46.go]
 refine F46.L1 (fun m z2 h' nx' => ∃ k : Nat, z2 = I ((k : Int) + 1) ∧ f.length - k = m ∧ k ≤ f.length ∧ h' = h ∧ nx' = nx ∧ ∀ j, j < k → ((j : Int) + 1) ∈ f) (m := f.length) (by omega) ⟨0, rfl, rfl, by omega, rfl, rfl, fun j hj => by omega⟩ ?_
 rintro m z1 z2 z3 z4 z5 z6 z7 h nx R ⟨k, rfl, rfl, hk, rfl, rfl, hin⟩ hR
 simp only [sLen_lst, sLeq]
 by_cases hlt : k < f.length
 case neg =>
  simp only [show ¬ (k : Int) + 1 ≤ (f.length : Int) by omega, decide_false, sCond_f]
  rw [F46.k16]
  exact hK _ (by rw [decide_eq_true (nrm_iffL.2 fun j hj => hin j (by omega))]) hf
 simp only [show (k : Int) + 1 ≤ (f.length : Int) by omega, decide_true, sCond_t]
 refine F46.L7 (fun m z3 z4 h' nx' => ∃ i : Nat, z4 = I i ∧ z3 = .bool (decide (((k : Int) + 1) ∈ f.take i)) ∧ f.length - i = m ∧ i ≤ f.length ∧ h' = h ∧ nx' = nx) (m := f.length) (by omega) ⟨0, rfl, by simp, rfl, by omega, rfl, rfl⟩ ?_
 rintro m z3 z4 z6 _ _ R2 ⟨i, rfl, rfl, rfl, hi, rfl, rfl⟩ hR2
 simp only [sLen_lst, sLss]
 by_cases hlt2 : i < f.length
 case neg =>
  simp only [show ¬ (i : Int) < (f.length : Int) by omega, decide_false, sCond_f]
  rw [List.take_of_length_le (by omega), F46.k14]
  simp only [sNot_b]
  by_cases c : ((k : Int) + 1) ∈ f
  ·rw [decide_eq_true c]
   simp only [Bool.not_true, sCond_f]
   rw [F46.k15, sAdd (by omega)]
   refine hR _ _ _ _ _ _ _ _ _ _ (by omega) ⟨k + 1, by push_cast; rfl, rfl, by omega, rfl, rfl, fun j hj => ?_⟩
   by_cases e : j = k
   ·rw [e]; exact c
   ·exact hin j (by omega)
  ·rw [decide_eq_false c]
   simp only [Bool.not_false, sCond_t]
   exact hK _ (by rw [decide_eq_false fun q => c (nrm_iffL.1 q k hlt)]) hf
 simp only [show (i : Int) < (f.length : Int) by omega, decide_true, sCond_t]
 have hx : f[i]? = some f[i] := List.getElem?_eq_getElem hlt2
 have hs : f.take (i + 1) = f.take i ++ [f[i]] := by rw [List.take_add_one, hx]; rfl
 by_cases c : ((k : Int) + 1) ∈ f.take i
 ·rw [decide_eq_true c]
  simp only [sG_tf, sPick_t]
  rw [sAdd (by omega)]
  exact hR2 _ _ _ _ _ _ (by omega) ⟨i + 1, rfl, by rw [hs, decide_eq_true (List.mem_append_left _ c)], rfl, by omega, rfl, rfl⟩
 ·rw [decide_eq_false c]
  simp only [sG_ff]
  rw [sIxL rfl hlt2, ldL (getI hx)]
  simp only [sEql, sPick_f]
  rw [sAdd (by omega)]
  refine hR2 _ _ _ _ _ _ (by omega) ⟨i + 1, rfl, ?_, rfl, by omega, rfl, rfl⟩
  rw [hs]
  congr 1
  rw [decide_eq_decide, List.mem_append, List.mem_singleton]
  exact ⟨fun e => .inr e.symm, fun e => (e.resolve_left c).symm⟩
end Go.Ev
namespace Go.Ev
open Go Go.Proofs
variable {B : Nat}
set_option maxRecDepth 100000
abbrev farL (x : Int) : Bool := decide (x < -999999999) || decide (999999999 < x)
def aloneErr (f : List Int) : Int := if f.length = 0 then 12 else if 256 < f.length then 5 else if f.any farL then 3 else 0
theorem numbers102 {f : List Int} (hl : f.length ≤ 100000) : Pure Tryz.prog B 102 [encI f] (· = I (if f.any farL then 3 else 0)) := by
 intro p h nx K hK
 refine by_body tbl_ok dreg 10000000 fun hf => ?_
 rw [F102.go]
 refine F102.L1 (fun m z2 h' nx' => ∃ i : Nat, z2 = I i ∧ f.length - i = m ∧ i ≤ f.length ∧ h' = h ∧ nx' = nx ∧ (f.take i).any farL = false) (m := f.length) (by omega) ⟨0, rfl, rfl, by omega, rfl, rfl, rfl⟩ ?_
 rintro m z1 z2 z3 z4 h nx R ⟨i, rfl, rfl, hi, rfl, rfl, htk⟩ hR
 simp only [sLen_lst, sLss]
 by_cases hlt : i < f.length
 case neg =>
  simp only [show ¬ (i : Int) < (f.length : Int) by omega, decide_false, sCond_f]
  rw [F102.k8]
  rw [List.take_of_length_le (by omega)] at htk
  exact hK _ (by rw [htk]; rfl) hf
 simp only [show (i : Int) < (f.length : Int) by omega, decide_true, sCond_t]
 have hx : f[i]? = some f[i] := List.getElem?_eq_getElem hlt
 have hm := List.getElem_mem hlt
 have hs : (f.take (i + 1)).any farL = ((f.take i).any farL || farL f[i]) := by
  rw [List.take_add_one, hx, List.any_append]; simp
 rw [sIxL rfl hlt, ldL (getI hx)]
 simp only [sLss]
 by_cases c1 : f[i] < -999999999
 ·simp only [c1, decide_true, sG_tf, sPick_t, sCond_t]
  exact hK _ (by rw [List.any_eq_true.2 ⟨_, hm, by simp [c1]⟩]; rfl) hf
 simp only [c1, decide_false, sG_ff]
 rw [sIxL rfl hlt, ldL (getI hx)]
 simp only [sGtr, sPick_f]
 by_cases c2 : 999999999 < f[i]
 ·simp only [c2, decide_true, sCond_t]
  exact hK _ (by rw [List.any_eq_true.2 ⟨_, hm, by simp [c2]⟩]; rfl) hf
 simp only [c2, decide_false, sCond_f]
 rw [sAdd (by omega)]
 exact hR _ _ _ _ _ _ _ (by omega) ⟨i + 1, rfl, rfl, by omega, rfl, rfl, by rw [hs, htk]; simp [c1, c2]⟩
theorem alone56 {f : List Int} (hl : f.length ≤ 100000) : Pure Tryz.prog B 56 [encI f] (· = I (aloneErr f)) := by
 intro p h nx K hK
 refine by_body tbl_ok dreg 1000 fun hf => ?_
 rw [F56.go]
 simp only [sLen_lst, sEql, sGtr]
 by_cases c1 : f.length = 0
 ·simp only [show (f.length : Int) = 0 by omega, decide_true, sCond_t]
  exact hK _ (by rw [aloneErr, if_pos c1]) hf
 simp only [show ¬ (f.length : Int) = 0 by omega, decide_false, sCond_f]
 by_cases c2 : 256 < f.length
 ·simp only [show (256 : Int) < (f.length : Int) by omega, decide_true, sCond_t]
  exact hK _ (by rw [aloneErr, if_neg c1, if_pos c2]) hf
 simp only [show ¬ (256 : Int) < (f.length : Int) by omega, decide_false, sCond_f]
 refine numbers102 hl _ _ _ _ ?_
 rintro _ rfl _
 exact hK _ (by rw [aloneErr, if_neg c1, if_neg c2]) hf
theorem numbers183 {f : List Int} (hl : f.length ≤ 100000) : Pure Tryz.prog B 183 [encI f] (· = I (if f.any farL then 3 else 0)) := by
 intro p h nx K hK
 refine by_body tbl_ok dreg 1000 fun hf => ?_
 rw [F183.go]
 refine from122 (by omega) _ _ _ _ ?_
 rintro _ rfl _
 exact hK _ rfl hf
theorem filling135 {f : List Int} (hl : f.length ≤ 100000) : Pure Tryz.prog B 135 [encI f] (· = I (aloneErr f)) := by
 refine pure_hp fun h nx K H0 hK => by_body tbl_ok dreg 1000 fun hf => ?_
 rw [F135.go]
 simp only [sLen_lst, sEql]
 refine when123 _ _ _ _ _ _ ?_
 rintro _ rfl _
 simp only [sGtr]
 refine when123 _ _ _ _ _ _ ?_
 rintro _ rfl _
 refine numbers183 hl _ _ _ _ ?_
 rintro _ rfl _
 refine H0.bslice (l := [I (if decide ((f.length : Int) = 0) = true then 12 else 0), I (if decide ((256 : Int) < (f.length : Int)) = true then 5 else 0), I (if f.any farL = true then 3 else 0)]) rfl fun tb h1 nx1 H1 => ?_
 refine own_plain (l := [if decide ((f.length : Int) = 0) = true then 12 else 0, if decide ((256 : Int) < (f.length : Int)) = true then 5 else 0, if f.any farL = true then 3 else 0]) H1 (k := 0) rfl (fun B => first121 (by simp)) (fun v hv => by rw [hv]; exact .int _ _) ?_
 rintro _ rfl
 have e : firstE [if decide ((f.length : Int) = 0) = true then 12 else 0, if decide ((256 : Int) < (f.length : Int)) = true then 5 else 0, if f.any farL = true then 3 else 0] = aloneErr f := by
  simp only [firstE, aloneErr, decide_eq_true_eq]
  by_cases c1 : f.length = 0
  ·simp [c1]
  ·by_cases c2 : 256 < f.length
   ·simp [c1, c2, show (256 : Int) < (f.length : Int) by omega]
   ·by_cases c3 : f.any farL = true
    ·simp [c1, c2, c3, show ¬ (256 : Int) < (f.length : Int) by omega]
    ·simp [c1, c2, c3, show ¬ (256 : Int) < (f.length : Int) by omega]
 rw [e]
 exact hK _ _ _ _ _ H1 (frz_fixd rfl) rfl
theorem isNormal55 {f : List Int} (hj : ∀ B, JOk Tryz.prog B hookS) (hl : f.length ≤ 100000) : Pure Tryz.prog B 55 [encI f] (· = if aloneErr f ≠ 0 then .tup [.bool false, I (aloneErr f)] else .tup [.bool (decide (srt f = upTo f.length)), I 0]) := by
 intro p h nx K hK
 refine by_body tbl_ok dreg 1000 fun hf => ?_
 rw [F55.go]
 refine filling135 hl _ _ _ _ ?_
 rintro _ rfl _
 simp only [sNeq]
 by_cases c : aloneErr f = 0
 ·rw [if_neg (fun q => q c)] at hK
  simp only [c, decide_true, Bool.not_true, sCond_f]
  refine isNormal136 hj hl _ _ _ _ ?_
  rintro _ rfl _
  exact hK _ rfl hf
 ·rw [if_pos c] at hK
  simp only [c, decide_false, Bool.not_false, sCond_t]
  exact hK _ rfl hf
end Go.Ev
namespace Go.Ev
open Go Go.Proofs
variable {B : Nat}
set_option maxRecDepth 100000
theorem fixdIL {l : List Int} : ∀ v ∈ l.map I, fixd v = true := fun v hv => by obtain ⟨x, _, rfl⟩ := List.mem_map.1 hv; rfl
def compL (f : List Int) : List Int := f.map fun x => (f.length : Int) + 1 - x
theorem compL_len (f : List Int) : (compL f).length = f.length := by simp [compL]
def compP (f : List Int) (i : Nat) : List Int := (compL f).take i ++ List.replicate (f.length - i) 0
theorem compP_len {f : List Int} {i : Nat} (h : i ≤ f.length) : (compP f i).length = f.length := by simp [compP, compL_len]; omega
theorem compP_next {f : List Int} {i : Nat} (h : i < f.length) : (compP f i).set i ((f.length : Int) + 1 - f[i]) = compP f (i + 1) := by
 have hx : (compL f)[i]? = some ((f.length : Int) + 1 - f[i]) := by rw [compL, List.getElem?_map, List.getElem?_eq_getElem h]; rfl
 have ht : ((compL f).take i).length = i := by rw [List.length_take, compL_len]; omega
 rw [compP, compP, List.set_append_right _ _ (by omega), ht, Nat.sub_self, List.take_add_one, hx, show f.length - i = (f.length - (i + 1)) + 1 by omega, List.replicate_succ]
 simp
theorem comp57 {f : List Int} (hl : f.length ≤ 1000) (hf : ∀ x ∈ f, -1000000000 ≤ x ∧ x ≤ 1000000000) : Pure Tryz.prog B 57 [encI f] (· = encI (compL f)) := by
 refine pure_hp fun h nx K H0 hK => by_body tbl_ok dreg 10000 fun hf' => ?_
 rw [F57.go]
 refine F57.L1 (fun m x2 x3 h' nx' => ∃ (i : Nat) (o : Option Pa), x3 = I i ∧ x2 = rowV o 1 i ∧ m = f.length - i ∧ i ≤ f.length ∧ Hp h h' nx' [.gro o 1 i (((f.take i).map fun x => (f.length : Int) + 1 - x).map I)]) (m := f.length) (by omega)
  ⟨0, none, rfl, rfl, by omega, by omega, by simpa using H0.addGro 1⟩ ?_
 rintro m x2 x3 x4 h3 nx3 R ⟨i, o, rfl, rfl, rfl, hi, H3⟩ hR
 simp only [sLen_lst, sLss]
 by_cases hlt : i < f.length
 case neg =>
  simp only [show ¬ (i : Int) < (f.length : Int) by omega, decide_false, sCond_f]
  rw [F57.k8]
  obtain rfl : i = f.length := by omega
  refine hK _ _ _ _ _ H3 (H3.frzGro (k := 0) rfl fixdIL) ?_
  show _ = AV.lst 1 _ _
  simp [compL]
 simp only [show (i : Int) < (f.length : Int) by omega, decide_true, sCond_t]
 have hx : f[i]? = some f[i] := List.getElem?_eq_getElem hlt
 have hfb := hf _ (List.getElem_mem hlt)
 rw [sAdd (by omega), sIxL rfl hlt, ldL (getI hx), sSub (by omega)]
 refine H3.bslice (l := [I ((f.length : Int) + 1 - f[i])]) rfl fun b h4 nx4 H4 => ?_
 refine H4.appN (k := 1) (c := 1) (new := [I ((f.length : Int) + 1 - f[i])]) rfl (HasArr.rd (H4.own _ (List.mem_cons_self ..)) rfl) rfl rfl (by omega) (by decide) (by omega) fun o' h5 nx5 _ H5 => ?_
 rw [sAdd (by omega)]
 refine hR _ _ _ _ _ _ (by omega) ⟨i + 1, o', rfl, rfl, rfl, by omega, (Hp.drop H5).cast ?_⟩
 have htk : f.take (i + 1) = f.take i ++ [f[i]] := by rw [List.take_add_one, hx]; rfl
 rw [htk, List.map_append, List.map_append]
 rfl
theorem cells137 {h0 h : T Blk} {nx p bx : Pa} {L : List Ob} {k : Nat} {f : List Int} {K : Kw Prop} (hl : f.length ≤ 1000) (hf : ∀ x ∈ f, -1000000000 ≤ x ∧ x ≤ 1000000000) (H : Hp h0 h nx L) (hk : L[k]? = some (.arr bx [encI f]))
  (hK : ∀ tb h' nx', Hp h0 h' nx' (.arr tb ((compL f).map I) :: L) → K (.sl tb 0 f.length (some f.length) 1) h' nx' = .ok True) : (CS Tryz.prog B).fn 137 p [I f.length, .fn 138 (.of 138) [.ptr bx 0]] h nx K = .ok True := by
 refine CS_fn_mono (p := .of 137) (K := K) (by_body tbl_ok dreg 100000 fun _ => ?_) fun _ _ _ _ q => q
 rw [F137.go]
 refine H.mk1 f.length rfl rfl (by omega) (by decide) fun tb h1 nx1 H1 => ?_
 simp only [sLen_sl]
 have e0 : List.replicate f.length (I 0) = (compP f 0).map I := by simp [compP]
 rw [e0] at H1
 refine F137.L1 (fun m z6 h' nx' => ∃ i : Nat, z6 = I i ∧ f.length - i = m ∧ i ≤ f.length ∧ Hp h0 h' nx' (.arr tb ((compP f i).map I) :: L)) (m := f.length) (by omega) ⟨0, rfl, rfl, by omega, H1⟩ ?_
 rintro m z4 z6 z7 h2 nx2 R ⟨i, rfl, rfl, hi, H2⟩ hR
 simp only [sLss]
 by_cases hlt : i < f.length
 case neg =>
  simp only [show ¬ (i : Int) < (f.length : Int) by omega, decide_false, sCond_f]
  obtain rfl : i = f.length := by omega
  rw [F137.k8]
  refine hK tb _ _ (H2.cast ?_)
  have : compP f f.length = compL f := by rw [compP, List.take_of_length_le (by rw [compL_len]; omega)]; simp
  rw [this]
 simp only [show (i : Int) < (f.length : Int) by omega, decide_true, sCond_t]
 have hx : f[i]? = some f[i] := List.getElem?_eq_getElem hlt
 have hfb := hf _ (List.getElem_mem hlt)
 have hk2 : (Ob.arr tb ((compP f i).map I) :: L)[k + 1]? = some (.arr bx [encI f]) := by simpa using hk
 rw [sCall_fn]
 refine CS_fn_mono (p := .of 138) (by_body tbl_ok dreg 9 fun _ => ?_) fun _ _ _ _ q => q
 show callFn tbl 9 _ (Pa.of 138) [I (i : Int), .ptr bx 0] _ _ _ = _
 rw [F138.go, H2.load (k := k + 1) (i := 0) hk2 rfl]
 simp only [sLen_lst]
 rw [sAdd (by omega), H2.load (k := k + 1) (i := 0) hk2 rfl, sIxL rfl hlt, ldL (getI hx), sSub (by omega), sIx (i := i) rfl hlt]
 refine H2.store (k := 0) rfl (by rw [List.length_map, compP_len hi]; exact hlt) rfl fun h3 H3 => ?_
 rw [sAdd (by omega)]
 refine hR _ _ _ _ _ _ (by omega) ⟨i + 1, rfl, rfl, by omega, H3.cast ?_⟩
 rw [← compP_next hlt, List.map_set]; rfl
def compE (f : List Int) : Int := if aloneErr f ≠ 0 then aloneErr f else if srt f = upTo f.length then 0 else 14
theorem complement47 {f : List Int} (hj : ∀ B, JOk Tryz.prog B hookS) (hl : f.length ≤ 100000) : Pure Tryz.prog B 47 [encI f] (· = if compE f ≠ 0 then .tup [.nils, I (compE f)] else .tup [encI (compL f), I 0]) := by
 refine pure_hp fun h nx K H0 hK => by_body tbl_ok dreg 1000 fun hf => ?_
 rw [F47.go]
 refine H0.box (l := [encI f]) rfl fun bx h1 nx1 H1 => ?_
 rw [H1.load (k := 0) (i := 0) rfl rfl, H1.load (k := 0) (i := 0) rfl rfl]
 refine filling135 hl _ _ _ _ ?_
 rintro _ rfl _
 rw [H1.load (k := 0) (i := 0) rfl rfl]
 simp only [sSame_refl]
 refine isNormal136 hj hl _ _ _ _ ?_
 rintro _ rfl _
 simp only [sNot_b]
 refine when123 _ _ _ _ _ _ ?_
 rintro _ rfl _
 refine H1.bslice (l := [I (aloneErr f), I (if (!decide (srt f = upTo f.length)) = true then 14 else 0)]) rfl fun tb h2 nx2 H2 => ?_
 refine own_plain (l := [aloneErr f, if (!decide (srt f = upTo f.length)) = true then 14 else 0]) H2 (k := 0) rfl (fun B => first121 (by simp)) (fun v hv => by rw [hv]; exact .int _ _) ?_
 rintro _ rfl
 have e : firstE [aloneErr f, if (!decide (srt f = upTo f.length)) = true then 14 else 0] = compE f := by
  simp only [firstE, compE]
  by_cases c1 : aloneErr f = 0
  ·by_cases c2 : srt f = upTo f.length <;> simp [c1, c2]
  ·simp [c1]
 rw [e]
 simp only [sNeq]
 by_cases c : compE f = 0
 case neg =>
  rw [if_pos c] at hK
  simp only [c, decide_false, Bool.not_false, sCond_t]
  exact hK _ _ _ _ _ H2 (frz_tup2 (frz_fixd rfl) (frz_fixd rfl)) rfl
 rw [if_neg (fun q => q c)] at hK
 simp only [c, decide_true, Bool.not_true, sCond_f]
 rw [H2.load (k := 1) (i := 0) rfl rfl]
 simp only [sLen_lst]
 have ha : aloneErr f = 0 := by
  by_cases q : aloneErr f = 0
  ·exact q
  ·rw [compE, if_pos q] at c; exact absurd c q
 have hl2 : f.length ≤ 256 := by
  rw [aloneErr] at ha
  by_cases q1 : f.length = 0
  ·omega
  ·rw [if_neg q1] at ha
   by_cases q2 : 256 < f.length
   ·rw [if_pos q2] at ha; cases ha
   ·omega
 have hn : srt f = upTo f.length := by
  rw [compE, if_neg (fun q => q ha)] at c
  by_cases q : srt f = upTo f.length
  ·exact q
  ·rw [if_neg q] at c; cases c
 have hfb : ∀ x ∈ f, -1000000000 ≤ x ∧ x ≤ 1000000000 := fun x hx => by
  rw [← (srt_perm f).mem_iff, hn, mem_upTo] at hx; omega
 refine cells137 (by omega) hfb H2 (k := 1) rfl fun tc h3 nx3 H3 => ?_
 refine hK _ _ _ _ _ H3 (frz_tup2 (H3.frzArr (k := 0) (cap := some f.length) (e := 1) (n := f.length) rfl (Nat.le_refl _) (by rw [List.length_map, compL_len]; omega) fixdIL) (frz_fixd rfl)) ?_
 rw [encI, compL_len]
end Go.Ev
namespace Go.Ev
open Go Go.Proofs
variable {B : Nat}
set_option maxRecDepth 100000
theorem sGW_ttM (op : KW3 → OP) (h : T Blk) (nx : Pa) (k : KW3) : sGW (.bool true) true op h nx k = op k := nr rfl
theorem sGW_ffM (op : KW3 → OP) (h : T Blk) (nx : Pa) (k : KW3) : sGW (.bool false) false op h nx k = op k := nr rfl
theorem sNeqB {a b : Bool} {K : AV → OP} : sBin .neq .bool (.bool a) (.bool b) K = K (.bool (a != b)) := by cases a <;> cases b <;> exact nr rfl
theorem law11 {f : List Int} (hj : ∀ B, JOk Tryz.prog B hookS) (haw : ∀ {B}, Pure Tryz.prog B 17 [] (· = .bool true)) : Pure Tryz.prog B 11 [encI f] (· = .bool true) := by
 intro p h nx K hK
 refine by_body tbl_ok dreg 1000 fun hf => ?_
 rw [F11.go]
 have ret : K (.bool true) h nx = .ok True := hK _ rfl hf
 have awk : ∀ (h' : T Blk) (nx' : Pa) (Z : Kw Prop), Z (.bool true) h' nx' = .ok True → (CS Tryz.prog B).fn 17 (.of 17) [] h' nx' Z = .ok True := fun _ _ Z hZ => haw _ _ _ _ fun v hv _ => by rw [hv]; exact hZ
 simp only [sLen_lst, sGtr]
 by_cases c1 : 300 < f.length
 ·simp only [show (300 : Int) < (f.length : Int) by omega, decide_true, sCond_t]
  exact awk _ _ _ ret
 simp only [show ¬ (300 : Int) < (f.length : Int) by omega, decide_false, sCond_f]
 have hl : f.length ≤ 100000 := by omega
 refine isNormal55 hj hl _ _ _ _ ?_
 rintro _ rfl _
 by_cases c2 : aloneErr f = 0
 case neg =>
  have ce : compE f = aloneErr f := by rw [compE, if_pos c2]
  rw [if_pos c2]
  simp only [sExt0, sExt1]
  refine complement47 hj hl _ _ _ _ ?_
  rintro _ rfl _
  rw [ce, if_pos c2]
  simp only [sExt0, sExt1]
  refine alone56 hl _ _ _ _ ?_
  rintro _ rfl _
  simp only [sNeq, c2, decide_false, Bool.not_false, sCond_t, sNot_b, sG_tt, sEql, decide_true, sPick_t, sLen_nils, sGW_ttM]
  exact awk _ _ _ ret
 have hfb : ∀ x ∈ f, -1000000000 ≤ x ∧ x ≤ 1000000000 := fun x hx => by
  rw [aloneErr] at c2
  by_cases q1 : f.length = 0
  ·rw [if_pos q1] at c2; cases c2
  rw [if_neg q1] at c2
  by_cases q2 : 256 < f.length
  ·rw [if_pos q2] at c2; cases c2
  rw [if_neg q2] at c2
  cases q3 : f.any farL with
  | true => rw [q3] at c2; cases c2
  | false =>
   have := List.any_eq_false.1 q3 x hx
   simp at this
   omega
 rw [if_neg (fun q => q c2)]
 simp only [sExt0, sExt1]
 refine complement47 hj hl _ _ _ _ ?_
 rintro _ rfl _
 by_cases c3 : srt f = upTo f.length
 ·have ce : compE f = 0 := by rw [compE, if_neg (fun q => q c2), if_pos c3]
  rw [if_neg (fun q => q ce)]
  simp only [sExt0, sExt1]
  refine alone56 hl _ _ _ _ ?_
  rintro _ rfl _
  simp only [sNeq, c2, decide_true, Bool.not_true, sCond_f]
  rw [F11.k2]
  simp only [sNeq, decide_true, Bool.not_true, sG_ff, sGW_ffM]
  refine refNormal46 hl _ _ _ _ ?_
  rintro _ rfl _
  rw [sNeqB, sPick_f]
  simp only [bne_self_eq_false, sCond_f]
  rw [F11.k3, decide_eq_true c3]
  simp only [sNot_b, Bool.not_true, sCond_f, sEql, decide_true, sG_tt, sGW_ttM]
  refine comp57 (by omega) hfb _ _ _ _ ?_
  rintro _ rfl _
  refine sameInts35 (by rw [compL_len]; omega) _ _ _ _ ?_
  rintro _ rfl _
  simp only [decide_true, sPick_t, sGW_ttM]
  exact awk _ _ _ ret
 ·have ce : compE f = 14 := by rw [compE, if_neg (fun q => q c2), if_neg c3]
  rw [if_pos (by rw [ce]; decide), ce]
  simp only [sExt0, sExt1]
  refine alone56 hl _ _ _ _ ?_
  rintro _ rfl _
  simp only [sNeq, c2, decide_true, Bool.not_true, sCond_f]
  rw [F11.k2]
  simp only [sNeq, decide_true, Bool.not_true, sG_ff, sGW_ffM]
  refine refNormal46 hl _ _ _ _ ?_
  rintro _ rfl _
  rw [sNeqB, sPick_f]
  simp only [bne_self_eq_false, sCond_f]
  rw [F11.k3, decide_eq_false c3]
  simp only [sNot_b, Bool.not_false, sCond_t, sLen_nils, sEql, decide_true, sG_tt, sPick_t, sGW_ttM]
  exact awk _ _ _ ret
end Go.Ev
