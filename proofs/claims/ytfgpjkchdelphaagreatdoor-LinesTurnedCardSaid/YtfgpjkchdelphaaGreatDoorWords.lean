import Derived.Test.YtfgpjkchdelphaaGreatDoorEvD
import Derived.Deep.Matrix
import Derived.Lib.SmallJoins
import Derived.Test.YtfgpjkchdelphaaGreatDoorCode
import GoSem.Core.Next
import Derived.Test.YtfgpjkchdelphaaGreatDoorLaws
import Derived.Test.YtfgpjkchdelphaaGreatDoorIrT
import Derived.KernelRfl
import Derived.IntWalk
set_option linter.unusedSimpArgs false
set_option linter.unusedVariables false
namespace Go.Ev
open Go Go.RowKit Go.ChangeShapes Go.WideShapes Go.Deep Go.Joins
variable {H : Type} {enc : TypeId × Value → H} {P : Program}
theorem cellOf_of_cell {w : World} {a : Addr} {i : Nat} {v : Value} (h : w.cell? (a.add i) = some v) : a = ⟨a.block, a.off, a.spot⟩ ∧ (i = 0 → a.spot = none) ∧ cellOf w a.block (a.off + i) = some v := by
 unfold Addr.add at h
 by_cases hi : i = 0
 ·subst hi
  rw [if_pos rfl] at h
  unfold World.cell? at h
  split at h
  ·rename_i c ty fr hb
   split at h
   ·cases h
   ·rename_i hs
    refine ⟨rfl, fun _ => by cases e : a.spot <;> simp_all, ?_⟩
    simp [cellOf, hb, h]
  ·cases h
 ·rw [if_neg hi] at h
  unfold World.cell? at h
  split at h
  ·rename_i c ty fr hb
   refine ⟨rfl, fun q => absurd q hi, ?_⟩
   simp at h hb
   simp [cellOf, hb, h]
  ·cases h
theorem VRF_mk {E : Env} {b : Nat} : ∀ {l : List AV} {off : Nat}, (∀ i a, l[i]? = some a → ∃ v, E.fz b (off + i) = some v ∧ VR E a v) → VRF E l b off
 | [], _, _ => by simp only [VRF]
 | a :: l, off, h => by
  simp only [VRF]
  obtain ⟨v, h1, h2⟩ := h 0 a rfl
  refine ⟨v, h1, h2, VRF_mk fun i x hx => ?_⟩
  obtain ⟨v', h3, h4⟩ := h (i + 1) x (by simpa using hx)
  exact ⟨v', by rw [Nat.add_assoc, Nat.add_comm 1 i]; exact h3, h4⟩
theorem scalI2 (l : List Int) : (l.map I).all scal = true := by
 rw [List.all_eq_true]; intro v hv
 obtain ⟨x, _, rfl⟩ := List.mem_map.1 hv; rfl
theorem vr_row {w : World} {hl : LaidW w} {p : Option Addr} {L C : Nat} {Z : List Int} (hL : L ≤ C) (hZ : Z.length = C) (h0 : p = none → C = 0) (hc : ∀ a, p = some a → ∀ c, c < C → w.cell? (a.add c) = some (.int .i64 (Z.getD c 0))) :
  VR (allE w hl) (encI (Z.take L)) (.slice p L C) := by
 have hlen : (Z.take L).length = L := by rw [List.length_take]; omega
 simp only [VR]
 refine ⟨scalI2 _, by simp, p, C, by rw [hlen], ?_⟩
 rw [hlen]
 cases p with
 | none => exact .inl ⟨by have := h0 rfl; omega, fun _ => h0 rfl⟩
 | some a =>
  by_cases hL0 : L = 0
  ·exact .inl ⟨hL0, by intro q; cases q⟩
  ·obtain ⟨_, hs, _⟩ := cellOf_of_cell (hc a rfl 0 (by omega))
   obtain ⟨b, off, sp⟩ := a
   have : sp = none := hs rfl
   subst this
   refine .inr ⟨b, off, rfl, hL, VRF_mk fun i x hx => ?_⟩
   rw [List.getElem?_map] at hx
   have hi : i < L := by
    cases e : (Z.take L)[i]? with
    | none => rw [e] at hx; cases hx
    | some y => have := (List.getElem?_eq_some_iff.1 e).1; omega
   obtain ⟨_, _, h3⟩ := cellOf_of_cell (hc _ rfl i (by omega))
   refine ⟨_, h3, ?_⟩
   rw [List.getElem?_take, if_pos hi] at hx
   cases e : Z[i]? with
   | none => rw [e] at hx; cases hx
   | some y =>
    rw [e] at hx
    have hx := Option.some.inj hx
    subst hx
    rw [List.getD_eq_getElem?_getD, e]
    simp only [VR, Option.getD_some]
theorem open_listI {t e : TypeId} {w : World} {hl : LaidW w} {base : Nat} {held : Bool} {fuel : Nat} {cs : List Value} {x : DataW H × List MemPlace} (ht : P.underlying t = some (.slice e)) (he : P.underlying e = some (.int .i64)) (hc : P.cellsOf e = 1)
  (h : DataW.trod enc P w base (fun _ => true) held fuel t cs = some x) : ∃ (l : List Int) (v : Value), cs = [v] ∧ VR (allE w hl) (encI l) v ∧ l.length ≤ maxLen ∧ ∀ n ∈ l, (Lit.int .i64 n).wf = true := by
 rcases open_ints ht he hc h with ⟨rfl, _⟩ | ⟨a, len, cap, zs, rfl, hb, hl, hm, hz, _, hcell, hwz⟩
 ·exact ⟨[], _, rfl, by simp only [VR]; exact ⟨rfl, rfl, none, 0, rfl, .inl ⟨rfl, fun _ => rfl⟩⟩, by simp, by simp⟩
 ·simp only [if_true] at hz
  refine ⟨zs.take len, _, rfl, vr_row hl hz (fun q => by cases q) (fun a' q c hc => by cases q; exact hcell c (by rw [hz]; exact hc)), by rw [List.length_take]; omega, fun n hn => hwz n (List.mem_of_mem_take hn)⟩
end Go.Ev
namespace Go.Ev
open Go Go.RowKit Go.ChangeShapes Go.WideShapes Go.Deep Go.Joins
variable {H : Type} {enc : TypeId × Value → H} {P : Program}
theorem open_grid {r : Reach} {b0 base : Nat} {held : Bool} {w : World} {hl : LaidW w} {t ti tl : TypeId} {f0 f1 f2 : Field} {v : Value} {d : DataW H} {p : List MemPlace} (hs : P.underlying t = some (.struct #[f0, f1, f2])) (hone : oneCellFields P #[f0, f1, f2] = true) (hC : P.cellsOf t = 3)
  (e0 : f0.type = ti) (e1 : f1.type = ti) (e2 : f2.type = tl) (u0 : P.underlying ti = some (.int .i64)) (u1 : P.underlying tl = some (.slice ti)) (c2 : P.cellsOf ti = 1)
  (hv : Value.okWide P w r b0 t v) (h : DataW.Trod enc P w base (fun _ => true) held t v d p) :
  ∃ (a b : Int) (l : List Int), VR (allE w hl) (.agg [I a, I b, encI l]) v ∧ (Lit.int .i64 a).wf = true ∧ (Lit.int .i64 b).wf = true ∧ l.length ≤ maxLen ∧ ∀ n ∈ l, (Lit.int .i64 n).wf = true := by
 obtain ⟨v0, v1, v2, y0, y1, y2, n, rfl, _, _, h0, h1, h2⟩ := open_agg3 hs hone hC hv h
 rw [e0] at h0
 rw [e1] at h1
 rw [e2] at h2
 obtain ⟨x, hx, _, hw⟩ := DataW.trod_int u0 h0
 simp only [List.cons.injEq, and_true] at hx
 subst hx
 obtain ⟨z, hz, _, hw2⟩ := DataW.trod_int u0 h1
 simp only [List.cons.injEq, and_true] at hz
 subst hz
 obtain ⟨l, v', hv', g1, g2, g3⟩ := open_listI (hl := hl) u1 u0 c2 h2
 simp only [List.cons.injEq, and_true] at hv'
 subst hv'
 refine ⟨x, z, l, ?_, hw, hw2, g2, g3⟩
 simp only [VR]
 exact ⟨rfl, _, rfl, VRL.cons (by simp only [VR]) (VRL.cons (by simp only [VR]) (VRL.cons g1 VRL.nil))⟩
end Go.Ev
namespace Go.Ev
open Go Go.Proofs
theorem dreg {B : Nat} : DregAll Tryz.prog B Prop := dreg_all mixed
variable {B : Nat}
end Go.Ev
namespace Go.Ev
open Go Go.Proofs
variable {B : Nat}
theorem when123 (b : Bool) (e : Int) : Pure Tryz.prog B 88 [.bool b, I e] (· = I (if b then e else 0)) := by
 intro p h nx K hK
 refine by_body tbl_ok dreg 9 fun hf => ?_
 rw [F88.go]
 cases b <;> simp (disch := omega) only [sAdd, sSub, sMul, sEql, sNeq, sLss, sLeq, sGtr, sGeq, sPick_t, sPick_f, sCond_t, sCond_f, sG_tt, sG_ff, sG_tf, sG_ft, sNot_b, sExt0, sExt1, sExt2, sPart0, sPart1, sPart2, sLen_lst, sLen_sl, sLen_nils, sSame_refl, decide_true, decide_false, Bool.not_true, Bool.not_false, sChk_t] <;> exact hK _ rfl hf
def firstE : List Int → Int
 | [] => 0
 | e :: l => if e ≠ 0 then e else firstE l
theorem firstE_skip : ∀ (l : List Int) (i : Nat), (∀ e ∈ l.take i, e = 0) → firstE l = firstE (l.drop i)
 | l, 0, _ => rfl
 | [], _ + 1, _ => rfl
 | e :: l, i + 1, h => by
  have h0 : e = 0 := h e (by simp)
  rw [firstE, if_neg (by simp [h0]), List.drop_succ_cons]
  exact firstE_skip l i fun x hx => h x (by simp [hx])
theorem first121 {l : List Int} (hl : l.length ≤ 1000000) : Pure Tryz.prog B 86 [encI l] (· = I (firstE l)) := by
 intro p h nx K hK
 refine by_body tbl_ok dreg 10000000 fun hf => ?_
 rw [F86.go]
 simp (disch := omega) only [sAdd, sSub, sMul, sEql, sNeq, sLss, sLeq, sGtr, sGeq, sPick_t, sPick_f, sCond_t, sCond_f, sG_tt, sG_ff, sG_tf, sG_ft, sNot_b, sExt0, sExt1, sExt2, sPart0, sPart1, sPart2, sLen_lst, sLen_sl, sLen_nils, sSame_refl, decide_true, decide_false, Bool.not_true, Bool.not_false, sChk_t]
 refine F86.L1 (fun m z5 h' nx' => ∃ i : Nat, z5 = I i ∧ l.length - i = m ∧ i ≤ l.length ∧ h' = h ∧ nx' = nx ∧ ∀ e ∈ l.take i, e = 0) (m := l.length) (by omega) ⟨0, rfl, rfl, by omega, rfl, rfl, by simp⟩ ?_
 rintro m z1 z2 z5 z6 z7 _ _ R ⟨i, rfl, rfl, hi, rfl, rfl, htk⟩ hR
 simp (disch := omega) only [sAdd, sSub, sMul, sEql, sNeq, sLss, sLeq, sGtr, sGeq, sPick_t, sPick_f, sCond_t, sCond_f, sG_tt, sG_ff, sG_tf, sG_ft, sNot_b, sExt0, sExt1, sExt2, sPart0, sPart1, sPart2, sLen_lst, sLen_sl, sLen_nils, sSame_refl, decide_true, decide_false, Bool.not_true, Bool.not_false, sChk_t]
 by_cases hlt : i < l.length
 ·simp only [show (i : Int) < (l.length : Int) by omega, decide_true, sCond_t]
  have hx : l[i]? = some l[i] := List.getElem?_eq_getElem hlt
  rw [sIxL rfl hlt, ldL (getI hx)]
  simp (disch := omega) only [sAdd, sSub, sMul, sEql, sNeq, sLss, sLeq, sGtr, sGeq, sPick_t, sPick_f, sCond_t, sCond_f, sG_tt, sG_ff, sG_tf, sG_ft, sNot_b, sExt0, sExt1, sExt2, sPart0, sPart1, sPart2, sLen_lst, sLen_sl, sLen_nils, sSame_refl, decide_true, decide_false, Bool.not_true, Bool.not_false, sChk_t]
  have hd : l.drop i = l[i] :: l.drop (i + 1) := List.drop_eq_getElem_cons hlt
  by_cases h0 : l[i] = 0
  ·simp only [h0, decide_true, Bool.not_true, sCond_f]
   refine hR _ _ _ _ _ _ _ _ (by omega) ⟨i + 1, rfl, rfl, by omega, rfl, rfl, fun e he => ?_⟩
   rw [List.take_add_one, hx] at he
   rcases List.mem_append.1 he with q | q
   ·exact htk e q
   ·simp at q; rw [q]; exact h0
  ·simp only [h0, decide_false, Bool.not_false, sCond_t]
   refine hK _ ?_ hf
   rw [firstE_skip l i htk, hd, firstE, if_pos h0]
 ·simp only [show ¬ (i : Int) < (l.length : Int) by omega, decide_false, sCond_f]
  rw [F86.k8]
  refine hK _ ?_ hf
  rw [firstE_skip l i htk, List.drop_of_length_le (by omega)]; rfl
end Go.Ev
namespace Go.Ev
open Go Go.Proofs
variable {B : Nat}
end Go.Ev
namespace Go.Ev
open Go Go.Proofs
variable {B : Nat}
end Go.Ev
namespace Go.Ev
open Go Go.Proofs
variable {B : Nat}
theorem own_plain {P : Program} {f : Nat} {p id : Pa} {h0 h : T Blk} {nx : Pa} {L : List Ob} {k : Nat} {l : List Int} {K : Kw Prop} {Q : AV → Prop} (H : Hp h0 h nx L) (hk : L[k]? = some (.arr id (l.map I))) (hq : ∀ B, Pure P B f [encI l] Q) (hpl : ∀ v, Q v → Plain v)
  (hK : ∀ v, Q v → K v h nx = .ok True) : (CS P B).fn f p [.sl id 0 l.length (some l.length) 1] h nx K = .ok True :=
 CS_plain (.cons (HasArr.frz (H.own _ (List.mem_of_getElem? hk)) (T.get_e _ id) (Nat.le_refl _) (by simp) fun v hv => by obtain ⟨x, _, rfl⟩ := List.mem_map.1 hv; rfl) .nil) (by
  have := fixd_encI l
  simp only [nns, fixd.nn this, Bool.and_self]) hq hpl fun v hv _ => hK v hv
theorem contF131 {h : T Blk} {nx : Pa} {l : List Int} {g : Nat} {p q : Pa} {cap : List AV} {pr : Int → Bool} {K : Kw Prop} (hl : l.length ≤ 1000000) (hcl : ∀ x ∈ l, ∀ K : Kw Prop, K (.bool (pr x)) h nx = .ok True → (CS Tryz.prog B).fn g q (I x :: cap) h nx K = .ok True)
  (hK : K (.bool (l.any pr)) h nx = .ok True) : (CS Tryz.prog B).fn 173 p [encI l, .fn g q cap] h nx K = .ok True := by
 refine CS_fn_mono (p := .of 173) (K := K) (by_body tbl_ok dreg 9 fun hf => ?_) fun _ _ _ _ q => q
 rw [F173.go]
 refine CS_fn_mono (p := .of 184) (K := fun v1 h2 n3 => sBin .geq .int v1 (I 0) fun v4 => K v4 h2 n3) (by_body tbl_ok dreg 10000000 fun hf => ?_) fun _ _ _ _ q => q
 rw [F184.go]
 simp (disch := omega) only [sAdd, sSub, sMul, sEql, sNeq, sLss, sLeq, sGtr, sGeq, sPick_t, sPick_f, sCond_t, sCond_f, sG_tt, sG_ff, sG_tf, sG_ft, sNot_b, sExt0, sExt1, sExt2, sPart0, sPart1, sPart2, sLen_lst, sLen_sl, sLen_nils, sSame_refl, decide_true, decide_false, Bool.not_true, Bool.not_false, sChk_t]
 refine F184.L1 (fun m z5 h' nx' => ∃ i : Nat, z5 = I i ∧ l.length - i = m ∧ i ≤ l.length ∧ h' = h ∧ nx' = nx ∧ (l.take i).any pr = false) (m := l.length) (by omega) ⟨0, rfl, rfl, by omega, rfl, rfl, by simp⟩ ?_
 rintro m z2 z3 z5 z6 z7 _ _ R ⟨i, rfl, rfl, hi, rfl, rfl, htk⟩ hR
 simp (disch := omega) only [sAdd, sSub, sMul, sEql, sNeq, sLss, sLeq, sGtr, sGeq, sPick_t, sPick_f, sCond_t, sCond_f, sG_tt, sG_ff, sG_tf, sG_ft, sNot_b, sExt0, sExt1, sExt2, sPart0, sPart1, sPart2, sLen_lst, sLen_sl, sLen_nils, sSame_refl, decide_true, decide_false, Bool.not_true, Bool.not_false, sChk_t]
 by_cases hlt : i < l.length
 ·simp only [show (i : Int) < (l.length : Int) by omega, decide_true, sCond_t]
  have hx : l[i]? = some l[i] := List.getElem?_eq_getElem hlt
  rw [sIxL rfl hlt, ldL (getI hx), sCall_fn]
  refine hcl _ (List.getElem_mem hlt) _ ?_
  cases he : pr l[i] with
  | true =>
   simp only [sCond_t, sGeq, show (0 : Int) ≤ (i : Int) by omega, decide_true]
   rw [List.any_eq_true.2 ⟨_, List.getElem_mem hlt, he⟩] at hK
   exact hK
  | false =>
   simp only [sCond_f]
   refine hR _ _ _ _ _ _ _ _ (by omega) ⟨i + 1, rfl, rfl, by omega, rfl, rfl, ?_⟩
   rw [List.take_add_one, hx, List.any_append, htk]
   simp [he]
 ·simp only [show ¬ (i : Int) < (l.length : Int) by omega, decide_false, sCond_f]
  rw [F184.k8]
  rw [List.take_of_length_le (by omega)] at htk
  rw [htk] at hK
  simp only [sGeq, show ¬ (0 : Int) ≤ -1 by omega, decide_false]
  exact hK
theorem from122 {a b : Int} {l : List Int} (hl : l.length ≤ 1000000) : Pure Tryz.prog B 87 [I a, I b, encI l] (· = I (if l.any (fun x => decide (x < a) || decide (b < x)) then 3 else 0)) := by
 refine pure_hp fun h nx K H0 hK => by_body tbl_ok dreg 1000 fun hf => ?_
 rw [F87.go]
 refine H0.box (l := [I a]) rfl fun x1 h1 nx1 H1 => ?_
 refine H1.box (l := [I b]) rfl fun x2 h2 nx2 H2 => ?_
 refine contF131 (pr := fun x => decide (x < a) || decide (b < x)) hl (fun x _ K hK => ?_) ?_
 ·refine CS_fn_mono (p := .of 174) (K := K) (by_body tbl_ok dreg 9 fun hf => ?_) fun _ _ _ _ q => q
  show callFn tbl 9 _ (Pa.of 174) [I x, .ptr x1 0, .ptr x2 0] _ _ _ = _
  rw [F174.go, H2.load (k := 1) (i := 0) rfl rfl]
  by_cases c : x < a
  ·simp only [sLss, c, decide_true, sG_tf, sPick_t]
   simpa [c] using hK
  ·simp only [sLss, c, decide_false, sG_ff]
   rw [H2.load (k := 0) (i := 0) rfl rfl]
   simp only [sGtr, sPick_f]
   simpa [c] using hK
 ·refine when123 _ _ _ _ _ _ ?_
  rintro _ rfl _
  exact hK _ _ _ _ _ H2 (frz_fixd rfl) rfl
end Go.Ev
namespace Go.Ev
end Go.Ev
namespace Go.Ev
open Go Go.Proofs
variable {B : Nat}
end Go.Ev
namespace Go.Ev
open Go Go.Proofs
variable {B : Nat}
end Go.Ev
namespace Go.Ev
open Go Go.Proofs
variable {B : Nat}
set_option maxRecDepth 100000
theorem sLoad_fp1 {h : T Blk} (a : AV) (l : List AV) (K : AV → OP) : sLoad (.fp (a :: l)) h K = K a := nr rfl
theorem sCall_yld {P : Program} {id : Pa} {args : List AV} {h : T Blk} {nx : Pa} {K : Kw Prop} : sCall (CS P B) (.yld id) args h nx K = (CS P B).yld id args h nx K := nr rfl
theorem iter153 {h : T Blk} {nx : Pa} {p id : Pa} {l : List Int} {K : Kw Prop} (J : Nat → T Blk → Pa → Prop) (hl : l.length ≤ 1000000) (hJ : J 0 h nx)
  (step : ∀ (i : Nat) (x : Int) (h : T Blk) (nx : Pa) (K : Kw Prop), l[i]? = some x → J i h nx → Fr h nx → (∀ h' nx', J (i + 1) h' nx' → K (.bool true) h' nx' = .ok True) → (CS Tryz.prog B).yld id [I x] h nx K = .ok True)
  (fr : ∀ i h nx, J i h nx → Fr h nx) (hK : ∀ h' nx', J l.length h' nx' → K (.tup []) h' nx' = .ok True) : (CS Tryz.prog B).fn 244 p [.yld id, .fp [encI l]] h nx K = .ok True := by
 refine CS_fn_mono (p := .of 244) (K := K) (by_body tbl_ok dreg 10000000 fun hf => ?_) fun _ _ _ _ q => q
 rw [F244.go, sLoad_fp1]
 simp only [sLen_lst]
 refine F244.L1 (fun m z5 h' nx' => ∃ i : Nat, z5 = I i ∧ l.length - i = m ∧ i ≤ l.length ∧ J i h' nx') (m := l.length) (by omega) ⟨0, rfl, rfl, by omega, hJ⟩ ?_
 rintro m z2 z5 z6 z7 h1 nx1 R ⟨i, rfl, rfl, hi, hJ1⟩ hR
 simp (disch := omega) only [sAdd, sSub, sMul, sEql, sNeq, sLss, sLeq, sGtr, sGeq, sPick_t, sPick_f, sCond_t, sCond_f, sG_tt, sG_ff, sG_tf, sG_ft, sNot_b, sExt0, sExt1, sExt2, sPart0, sPart1, sPart2, sLen_lst, sLen_sl, sLen_nils, sSame_refl, decide_true, decide_false, Bool.not_true, Bool.not_false, sChk_t]
 by_cases hlt : i < l.length
 ·simp only [show (i : Int) < (l.length : Int) by omega, decide_true, sCond_t]
  have hx : l[i]? = some l[i] := List.getElem?_eq_getElem hlt
  rw [sIxL rfl hlt, ldL (getI hx), sCall_yld]
  refine step i _ _ _ _ hx hJ1 (fr _ _ _ hJ1) fun h2 nx2 hJ2 => ?_
  simp only [sNot_b, Bool.not_true, sCond_f]
  try rw [sAdd (by omega)]
  exact hR _ _ _ _ _ _ _ (by omega) ⟨i + 1, rfl, rfl, by omega, hJ2⟩
 ·simp only [show ¬ (i : Int) < (l.length : Int) by omega, decide_false, sCond_f]
  obtain rfl : i = l.length := by omega
  exact hK _ _ hJ1
theorem Hp.addGro {h0 h : T Blk} {nx : Pa} {L : List Ob} (H : Hp h0 h nx L) (e : Nat) : Hp h0 h nx (.gro none e 0 [] :: L) :=
  ⟨H.keep, fun x hx => by rcases List.mem_cons.1 hx with rfl | q; · exact ⟨rfl, rfl⟩
                          · exact H.own x q, fun n hn => H.off n (by simpa [Ob.names] using hn), by have := H.nd; simpa [Ob.names] using this, H.fr⟩
theorem getLoop {h0 h : T Blk} {nx : Pa} {L : List Ob} {id : Pa} {b : Blk} {k : Nat} (H : Hp h0 h nx L) (hk : L[k]? = some (.raw id b)) : T.get .no id h = b := (H.own _ (List.mem_of_getElem? hk)).1
theorem Hp.setRaw {h0 h : T Blk} {nx : Pa} {L : List Ob} {id : Pa} {b b' : Blk} {k : Nat} (H : Hp h0 h nx L) (hk : L[k]? = some (.raw id b)) (hb : b' ≠ .no) : Hp h0 (T.set .no b' id h) nx (L.set k (.raw id b')) :=
 H.upd hk (by simp [Ob.names]) rfl ⟨T.get_set_same _ _ _ _, hb⟩
theorem append173 {h0 h : T Blk} {nx : Pa} {L : List Ob} {p q : Pa} {l : List Int} {K : Kw Prop} (hl : l.length ≤ 100000) (H : Hp h0 h nx L)
  (hK : ∀ o h' nx', Hp h0 h' nx' (.gro o 1 l.length (l.map I) :: L) → K (rowV o 1 l.length) h' nx' = .ok True) : (CS Tryz.prog B).fn 282 p [.nils, .fn 244 q [.fp [encI l]]] h nx K = .ok True := by
 refine CS_fn_mono (p := .of 282) (K := K) (by_body tbl_ok dreg 10000000 fun hf => ?_) fun _ _ _ _ q => q
 rw [F282.go]
 refine H.box (l := [.nils]) rfl fun bx h1 nx1 H1 => ?_
 refine H1.rf (g := 244) (p := q) (cap := [.fp [encI l]]) rfl fun id h2 nx2 H2 => ?_
 refine iter153 (fun i h' nx' => ∃ o, Hp h0 h' nx' (.raw id (.loop .ready .none (F282.fr .nils (.fn 244 q [.fp [encI l]]) (.ptr bx 0) .nils .undef (.fn 244 q [.fp [encI l]]) .undef) [.of 6] F282.b3 F282.b4) :: .arr bx [rowV o 1 i] :: .gro o 1 i ((l.take i).map I) :: L)) (by omega) ⟨none, ?_⟩ ?_ (fun _ _ _ ⟨_, q⟩ => q.fr) ?_
 ·have := H2.addGro 1
  exact this.perm ((List.Perm.swap _ _ _).trans (.cons _ (.swap _ _ _)))
 ·rintro i x h3 nx3 K3 hx ⟨o, H3⟩ _ hnext
  have hi : i < l.length := (List.getElem?_eq_some_iff.1 hx).1
  refine by_round (fns := tbl) dreg 100 fun hf => ?_
  rw [F282.y4 (getLoop H3 (k := 0) rfl) rfl]
  have H4 := H3.setRaw (k := 0) rfl (b' := .loop .busy .none (F282.fr .nils (.fn 244 q [.fp [encI l]]) (.ptr bx 0) .nils .undef (.fn 244 q [.fp [encI l]]) .undef) [.of 6] F282.b3 F282.b4) (by intro e; cases e)
  rw [H4.load (k := 1) (i := 0) rfl rfl]
  refine H4.bslice (l := [I x]) rfl fun e5 h5 nx5 H5 => ?_
  refine H5.appN (k := 3) (o := o) (c := 1) (new := [I x]) rfl (HasArr.rd (l := [I x]) (n := 1) (H5.own _ (List.mem_cons_self ..)) rfl) rfl rfl (by decide) (by decide) (by omega) fun o' h6 nx6 ho H6 => ?_
  refine H6.store (k := 2) rfl (by simp) (rowV_cells _ _ _) fun h7 H7 => ?_
  refine H7.rend (k := 1) rfl fun h8 H8 => ?_
  refine hnext _ _ ⟨o', (H8.drop).cast ?_⟩
  have e1 : (l.take (i + 1)).map I = (l.take i).map I ++ [I x] := by rw [List.take_add_one, hx]; simp
  rw [e1]; rfl
 ·rintro h3 nx3 ⟨o, H3⟩
  rw [List.take_length] at H3
  refine H3.rfEnd fun h4 H4 => ?_
  rw [rfEnd_on, F282.k6, H4.load (k := 0) (i := 0) rfl rfl]
  exact hK _ _ _ H4.drop
theorem values126 {l : List Int} : Pure Tryz.prog B 171 [encI l] (· = .fn 244 (.of 244) [.fp [encI l]]) := by
 refine pure_hp fun h nx K H0 hK => by_body tbl_ok dreg 10000000 fun hf => ?_
 rw [F171.go]
 refine H0.box (l := [encI l]) rfl fun bx h1 nx1 H1 => ?_
 obtain ⟨op, t, g1, g2⟩ : HasArr h1 bx [encI l] := H1.own _ (List.mem_cons_self ..)
 refine hK _ _ _ _ (.fn 244 (.of 244) [.fp [encI l]]) H1 (.fn _ _ _ _ rfl fun i v v' h2 h3 => ?_) rfl
 match i with
 | 0 =>
  simp only [List.getElem?_cons_zero, Option.some.injEq] at h2 h3
  subst h2 h3
  refine .ptr _ _ op _ t _ (H1.off bx (by simp [Ob.names])) g1 (by simp) (by simp [scal]) fun i v hv => ?_
  match i with
  | 0 =>
   simp only [List.getElem?_cons_zero, Option.some.injEq] at hv
   subst hv
   have := rdList_get t 0 1 0 (by omega)
   have g2 : rdList t 0 1 = [encI l] := g2
   rw [g2] at this
   simp only [List.getElem?_cons_zero, Option.some.injEq] at this
   rw [← this]
   exact frz_fixd (fixd_encI l)
  | i + 1 => simp at hv
 | i + 1 => simp at h2
end Go.Ev
namespace Go.Ev
open Go Go.Proofs
variable {B : Nat}
theorem sort152 {h0 h : T Blk} {nx p : Pa} {L : List Ob} {k n : Nat} {o : Option Pa} {l : List Int} {K : Kw Prop} (hj : ∀ B, JOk Tryz.prog B hookS) (H : Hp h0 h nx L) (hk : L[k]? = some (.gro o 1 n (l.map I))) (hn : n ≤ 1000000)
  (hK : ∀ h', Hp h0 h' nx (L.set k (.gro o 1 n ((srt l).map I))) → K (.tup []) h' nx = .ok True) : (CS Tryz.prog B).fn 243 p [rowV o 1 n] h nx K = .ok True := by
 have own := H.own _ (List.mem_of_getElem? hk)
 cases o with
 | none =>
  obtain ⟨q1, rfl⟩ := own
  obtain rfl : l = [] := by simpa using q1
  refine CS_hook (hj B) (v := .tup []) (h2 := h) rfl (hK h (H.cast ?_))
  have e : (srt ([] : List Int)).map I = [] := by simp [srt]
  rw [e, (getSplit hk).2]; exact (getSplit hk).1
 | some id =>
  obtain ⟨t, h1, h2, h3⟩ := own
  rw [Nat.mul_one] at h1 h2 h3
  have e1 : sortJ (.sl id 0 n none 1) h = some (T.set Blk.no (Blk.cells true n (wrList ((srt l).map I) t 0)) id h) := by
   show (match T.get Blk.no id h with
    | .cells op m t => bif Nat.beq 1 1 && Nat.ble (0 + n) m && Nat.ble n 1000000 then (match intsA (rdList t 0 n) with
     | some l => some (T.set Blk.no (Blk.cells op m (wrList ((srt l).map I) t 0)) id h)
     | none => none) else none
    | _ => none) = _
   rw [h1]
   show (bif Nat.beq 1 1 && Nat.ble (0 + n) n && Nat.ble n 1000000 then (match intsA (rdList t 0 n) with
     | some l => some (T.set Blk.no (Blk.cells true n (wrList ((srt l).map I) t 0)) id h)
     | none => none) else none) = _
   rw [Nat.ble_eq_true_of_le (by omega), Nat.ble_eq_true_of_le hn, h3, intsA_map]; rfl
  have e2 : hookS 243 [rowV (some id) 1 n] h = some (.tup [], T.set Blk.no (Blk.cells true n (wrList ((srt l).map I) t 0)) id h) := by
   show (match sortJ (.sl id 0 n none 1) h with
    | some h => some ((.tup [] : AV), h)
    | none => none) = _
   rw [e1]
  refine CS_hook (hj B) e2 (hK _ (H.upd hk (by simp [Ob.names]) rfl ⟨_, by rw [T.get_set_same, Nat.mul_one], by simpa using h2, ?_⟩))
  have := rdList_wr t [] ((srt l).map I) 0 rfl
  rw [Nat.zero_add, List.nil_append] at this
  have hl : ((srt l).map I).length = n := by simpa using h2
  rw [hl] at this
  rw [Nat.mul_one]; exact this
theorem sorted125 {l : List Int} (hj : ∀ B, JOk Tryz.prog B hookS) (hl : l.length ≤ 100000) : Pure Tryz.prog B 170 [.fn 244 (.of 244) [.fp [encI l]]] (· = encI (srt l)) := by
 refine pure_hp fun h nx K H0 hK => by_body tbl_ok dreg 100 fun hf => ?_
 rw [F170.go]
 refine CS_fn_mono (p := .of 242) (K := fun v1 h2 n3 => (CS Tryz.prog B).fn 243 (.of 243) [v1] h2 n3 fun v4 h5 n6 => K v1 h5 n6) (by_body tbl_ok dreg 100 fun hf => ?_) fun _ _ _ _ q => q
 rw [F242.go]
 refine append173 hl H0 fun o h1 nx1 H1 => ?_
 refine sort152 hj H1 (k := 0) rfl (by omega) fun h2 H2 => ?_
 refine hK _ _ _ _ _ H2 (H2.frzGro (k := 0) rfl (by intro v hv; obtain ⟨t, _, rfl⟩ := List.mem_map.1 hv; rfl)) ?_
 show _ = AV.lst 1 _ _
 rw [srt_length]
theorem quo_bd {a : Int} {n : Nat} (h : 0 ≤ a) (hn : 0 < n) : 0 ≤ a.tdiv n ∧ a.tdiv n ≤ a := by
 rw [Int.tdiv_eq_ediv_of_nonneg h]
 exact ⟨Int.ediv_nonneg h (by omega), Int.ediv_le_self _ h⟩
theorem sQuoN {a : Int} {n : Nat} {K : AV → OP} (h : 0 ≤ a) (h2 : a ≤ 9223372036854775807) (hn : 0 < n) : sBin .quo .int (I a) (I (n : Int)) K = K (I (a.tdiv n)) := by
 obtain ⟨q1, q2⟩ := quo_bd h hn
 have e : sBin .quo .int (I a) (I (n : Int)) K = (bif ieq (n : Int) 0 then Out.no 5 else intK (IntKind.wrap .i64 (a.tdiv n)) fun z => K (.int .i64 z)) := rfl
 rw [e, ieq_eq]
 have hb : ((n : Int) == 0) = false := by simp; omega
 rw [hb, cond_false, intK_eq, wrap64_in (by omega)]
end Go.Ev
namespace Go.Ev
open Go Go.Proofs
variable {B : Nat}
theorem frz_agg {N : Pa → Prop} {O : AV → Prop} {hh : T Blk} {l : List AV} (h : ∀ v ∈ l, fixd v = true) : Frz True N O hh (.agg l) (.agg l) :=
 .agg _ _ rfl (List.all_eq_true.2 fun v hv => fixd.scal (h v hv)) fun i v v' h1 h2 => by rw [h1] at h2; cases h2; exact frz_fixd (h v (List.mem_of_getElem? h1))
theorem sBuildS {n : Int} {K : AV → OP} : sBuild [(I 0), .nils] [(0, 1, I n)] K = K (.agg [I n, .nils]) := nr rfl
theorem rowV_scal (o : Option Pa) (e n : Nat) : scal (rowV o e n) = true := by cases o <;> rfl
end Go.Ev
namespace Go.Ev
def addVx (s : List Int) (v x : Int) : List Int := s.set v.toNat (s.getD v.toNat 0 + x)
def Sm (s : List Int) (M : Nat) : Prop := ∀ v ∈ s, 0 ≤ v ∧ v ≤ (M : Int)
theorem Sm.get {s : List Int} {M : Nat} (h : Sm s M) (i : Nat) : 0 ≤ s.getD i 0 ∧ s.getD i 0 ≤ (M : Int) := by
 rw [List.getD_eq_getElem?_getD]
 cases e : s[i]? with
 | none => simp
 | some v => exact h v (List.mem_of_getElem? e)
theorem Sm.mono {s : List Int} {M N : Nat} (h : Sm s M) (hm : M ≤ N) : Sm s N := fun v hv => by have := h v hv; omega
theorem Sm.add {s : List Int} {M X : Nat} {v x : Int} (h : Sm s M) (hx : 0 ≤ x ∧ x ≤ (X : Int)) : Sm (addVx s v x) (M + X) := by
 intro u hu
 have g := h.get v.toNat
 rcases List.mem_or_eq_of_mem_set hu with q | rfl
 ·have := h u q; omega
 ·omega
end Go.Ev
namespace Go.Ev
open Go Go.Proofs
set_option maxRecDepth 100000
variable {N : Nat} {C : Calls Prop} {K0 : Kw Prop} {K R : Ks Prop} {h : T Blk} {nx : Pa} {x0 x1 x2 x3 x4 x5 x6 x7 x8 x9 x10 a0 a1 a2 a3 : AV}
end Go.Ev
namespace Go.Ev
open Go Go.Proofs
variable {B : Nat}
end Go.Ev
namespace Go.Ev
open Go Go.Proofs
variable {B : Nat}
end Go.Ev
namespace Go.Ev
open Go
end Go.Ev
namespace Go.Ev
open Go Go.Proofs
variable {B : Nat}
end Go.Ev
namespace Go.Ev
theorem sub_perm : ∀ (l r : List Int), l.Nodup → (∀ x ∈ l, x ∈ r) → ∃ s, r.Perm (l ++ s)
 | [], r, _, _ => ⟨r, .refl _⟩
 | a :: l, r, hn, hs => by
  obtain ⟨h1, h2⟩ := List.nodup_cons.1 hn
  have ha := hs a (by simp)
  obtain ⟨s, hp⟩ := sub_perm l (r.erase a) h2 fun x hx => (List.mem_erase_of_ne (by rintro rfl; exact h1 hx)).2 (hs x (by simp [hx]))
  exact ⟨s, (List.perm_cons_erase ha).trans (.cons a hp)⟩
abbrev upTo (n : Nat) : List Int := (List.range n).map fun (i : Nat) => (i : Int) + 1
def Rv (l cur : List Int) (i : Nat) : Prop := cur.length = l.length ∧ ∀ t, t < l.length → cur[t]? = if t < i ∨ l.length ≤ t + i then l[l.length - 1 - t]? else l[t]?
theorem Rv.done {l cur : List Int} {i : Nat} (h : Rv l cur i) (hi : l.length ≤ 2 * i + 1) : cur = l.reverse := by
 refine List.ext_getElem? fun t => ?_
 by_cases ht : t < l.length
 ·rw [h.2 t ht, List.getElem?_reverse ht]
  by_cases c : t < i ∨ l.length ≤ t + i
  ·rw [if_pos c]
  ·rw [if_neg c, show l.length - 1 - t = t by omega]
 ·rw [List.getElem?_eq_none (by rw [h.1]; omega), List.getElem?_eq_none (by simp; omega)]
theorem Rv.step {l cur : List Int} {i j : Nat} {a b : Int} (h : Rv l cur i) (hij : i < j) (hs : i + j + 1 = l.length) (ha : cur[i]? = some a) (hb : cur[j]? = some b) : Rv l ((cur.set i b).set j a) (i + 1) := by
 obtain ⟨hl, hg⟩ := h
 refine ⟨by simp [hl], fun t ht => ?_⟩
 have e1 := hg i (by omega)
 have e2 := hg j (by omega)
 rw [if_neg (by omega), ha] at e1
 rw [if_neg (by omega), hb] at e2
 rw [List.getElem?_set, List.getElem?_set, List.length_set]
 by_cases c1 : j = t
 ·subst c1
  rw [if_pos rfl, if_pos (by omega), if_pos (by omega), show l.length - 1 - j = i by omega]
  exact e1
 ·rw [if_neg c1]
  by_cases c2 : i = t
  ·subst c2
   rw [if_pos rfl, if_pos (by omega), if_pos (by omega), show l.length - 1 - i = j by omega]
   exact e2
  ·rw [if_neg c2, hg t ht]
   by_cases c3 : t < i ∨ l.length ≤ t + i
   ·rw [if_pos c3, if_pos (by omega)]
   ·rw [if_neg c3, if_neg (by omega)]
end Go.Ev
namespace Go.Ev
section
variable {σ α : Type}
end
end Go.Ev
namespace Go.Ev
end Go.Ev
namespace Go.Ev
def SpOK (M : Int) (q : List (Int × Int)) : Prop := q.Pairwise (fun a b => a.1 < b.1) ∧ ∀ p ∈ q, 0 ≤ p.1 ∧ p.1 ≤ M
theorem SpOK.len {q : List (Int × Int)} (h : SpOK 9000 q) : q.length ≤ 9001 := by
 obtain ⟨t, ht⟩ := sub_perm (q.map (·.1)) ((List.range 9001).map fun (i : Nat) => (i : Int)) (by
  rw [List.nodup_iff_pairwise_ne, List.pairwise_map]
  exact h.1.imp fun {a b} q e => by omega) fun x hx => by
  obtain ⟨p, hp, rfl⟩ := List.mem_map.1 hx
  have := h.2 p hp
  exact List.mem_map.2 ⟨p.1.toNat, List.mem_range.2 (by omega), by omega⟩
 have := ht.length_eq
 rw [List.length_map, List.length_range, List.length_append, List.length_map] at this
 omega
end Go.Ev
namespace Go.Ev
end Go.Ev
namespace Go.Ev
open Go Go.Proofs
variable {B : Nat}
set_option maxRecDepth 100000
theorem srt_lengthL (l : List Int) : (srt l).length = l.length := (srt_perm l).length_eq
theorem isNormal136 {f : List Int} (hj : ∀ B, JOk Tryz.prog B hookS) (hl : f.length ≤ 100000) : Pure Tryz.prog B 136 [encI f] (· = .bool (decide (srt f = upTo f.length))) := by
 intro p h nx K hK
 refine by_body tbl_ok dreg 10000000 fun hf => ?_
 rw [F136.go]
 refine values126 _ _ _ _ ?_
 rintro _ rfl _
 refine sorted125 hj hl _ _ _ _ ?_
 rintro _ rfl _
 have hlen := srt_lengthL f
 simp only [sLen_lst]
 refine F136.L1 (fun m z6 h' nx' => ∃ i : Nat, z6 = I i ∧ f.length - i = m ∧ i ≤ f.length ∧ h' = h ∧ nx' = nx ∧ (srt f).take i = (upTo f.length).take i) (m := f.length) (by omega) ⟨0, rfl, rfl, by omega, rfl, rfl, rfl⟩ ?_
 rintro m z1 z2 z3 z6 z7 z8 _ _ R ⟨i, rfl, rfl, hi, rfl, rfl, htk⟩ hR
 simp only [sLss]
 by_cases hlt : i < f.length
 ·simp only [show (i : Int) < ((srt f).length : Int) by omega, decide_true, sCond_t]
  have hx : (srt f)[i]? = some (srt f)[i] := List.getElem?_eq_getElem (by omega)
  have hu : (upTo f.length)[i]? = some ((i : Int) + 1) := by simp [List.getElem?_map, hlt]
  rw [sIxL rfl (by omega), ldL (getI hx), sAdd (by omega)]
  simp only [sNeq]
  by_cases c : (srt f)[i] = (i : Int) + 1
  ·simp only [c, decide_true, Bool.not_true, sCond_f]
   rw [sAdd (by omega)]
   refine hR _ _ _ _ _ _ _ _ _ (by omega) ⟨i + 1, rfl, rfl, by omega, rfl, rfl, ?_⟩
   rw [List.take_add_one, List.take_add_one, htk, hx, hu, c]
  ·simp only [c, decide_false, Bool.not_false, sCond_t]
   refine hK _ ?_ hf
   rw [decide_eq_false]
   intro q
   have h9 : (srt f)[i]? = some ((i : Int) + 1) := by rw [q]; exact hu
   rw [hx] at h9
   exact c (Option.some.inj h9)
 ·simp only [show ¬ (i : Int) < ((srt f).length : Int) by omega, decide_false, sCond_f]
  rw [F136.k8]
  rw [List.take_of_length_le (by omega), List.take_of_length_le (by simp; omega)] at htk
  exact hK _ (by rw [decide_eq_true htk]) hf
end Go.Ev
namespace Go.Ev
open Go Go.Proofs
set_option maxRecDepth 100000
variable {N : Nat} {C : Calls Prop} {K0 : Kw Prop} {K R : Ks Prop} {h : T Blk} {nx : Pa} {x0 x1 x2 x3 x4 x5 x6 x7 x8 x9 x10 x11 x12 x13 x14 x15 x16 x17 x18 a0 a1 : AV}
end Go.Ev
namespace Go.Ev
open Go Go.Proofs
variable {B : Nat}
end Go.Ev
namespace Go.Ev
open Go Go.Proofs
variable {B : Nat}
noncomputable def killN (ns : List Pa) (h : T Blk) : T Blk := ns.foldl (fun h n => T.set .no .no n h) h
theorem killN_in : ∀ (ns : List Pa) (h : T Blk) (j : Pa), (j ∈ ns ∨ T.get .no j h = .no) → T.get .no j (killN ns h) = .no
  | [], h, j, q => by rcases q with q | q; · simp at q
                      · exact q
  | n :: ns, h, j, q => by
    show T.get .no j (killN ns (T.set .no .no n h)) = _
    refine killN_in ns _ j ?_
    by_cases e : j = n
    · subst e; exact .inr (T.get_set_same _ _ _ _)
    · rcases q with q | q
      · rcases List.mem_cons.1 q with q | q
        · exact absurd q e
        · exact .inl q
      · exact .inr (by rw [T.get_set_ne _ _ _ _ _ e]; exact q)
theorem killN_out : ∀ (ns : List Pa) (h : T Blk) (j : Pa), j ∉ ns → T.get .no j (killN ns h) = T.get .no j h
 | [], _, _, _ => rfl
 | n :: ns, h, j, q => by
  show T.get .no j (killN ns (T.set .no .no n h)) = _
  rw [killN_out ns _ j fun r => q (List.mem_cons_of_mem _ r), T.get_set_ne _ _ _ _ _ fun e => q (by rw [e]; exact List.mem_cons_self ..)]
theorem Hp.letAll {h0 h : T Blk} {nx : Pa} {A L : List Ob} (H : Hp h0 h nx (A ++ L)) : ∃ h', Keeps h' h ∧ Hp h0 h' nx L ∧ Hp h' h nx A := by
 have hnd := H.nd
 rw [List.flatMap_append] at hnd
 obtain ⟨n1, n2, n3⟩ := List.nodup_append.1 hnd
 have hoff : ∀ j, T.get .no j h0 ≠ .no → j ∉ A.flatMap Ob.names := fun j hj q => hj (H.off j (by rw [List.flatMap_append]; exact List.mem_append_left _ q))
 have hkp : Keeps (killN (A.flatMap Ob.names) h) h := fun j hj => by
  by_cases q : j ∈ A.flatMap Ob.names
  ·exact absurd (killN_in _ h j (.inl q)) hj
  ·exact (killN_out _ h j q).symm
 refine ⟨killN (A.flatMap Ob.names) h, hkp, ⟨fun j hj => ?_, fun y hy => ?_, fun n hn => ?_, n2, fun j hj => ?_⟩, ⟨hkp, fun y hy => H.own y (List.mem_append_left _ hy), fun n hn => killN_in _ h n (.inl hn), n1, H.fr⟩⟩
 ·rw [killN_out _ h j (hoff j hj)]; exact H.keep j hj
 ·refine (H.own y (List.mem_append_right _ hy)).congr fun m hm => killN_out _ h m fun q => ?_
  exact n3 m q m (List.mem_flatMap.2 ⟨y, hy, hm⟩) rfl
 ·exact H.off n (by rw [List.flatMap_append]; exact List.mem_append_right _ hn)
 ·exact killN_in _ h j (.inr (H.fr j hj))
theorem Hp.base {h0 h : T Blk} {nx : Pa} {L : List Ob} (H : Hp h0 h nx L) : Hp .e h nx L :=
 ⟨fun j hj => absurd (T.get_e _ j) hj, H.own, fun n _ => T.get_e _ n, H.nd, H.fr⟩
abbrev TRow := AV × Ob × List Int
def RowOk (t : TRow) : Prop := (∃ p cap, capLe t.2.2.length cap ∧ t.2.1 = .arr p (t.2.2.map I) ∧ t.1 = .sl p 0 t.2.2.length cap 1) ∨ ∃ o, t.2.1 = .gro o 1 t.2.2.length (t.2.2.map I) ∧ t.1 = rowV o 1 t.2.2.length
theorem RowOk.scal {t : TRow} (h : RowOk t) : scal t.1 = true := by
 rcases h with ⟨p, cap, _, _, e⟩ | ⟨o, _, e⟩
 ·rw [e]; rfl
 ·rw [e]; exact rowV_scal _ _ _
theorem RowOk.cells {t : TRow} (h : RowOk t) : t.1.cells = some [t.1] := by
 rcases h with ⟨p, cap, _, _, e⟩ | ⟨o, _, e⟩
 ·rw [e]; rfl
 ·rw [e]; exact rowV_cells _ _ _
theorem fixd_Is (l : List Int) : ∀ v ∈ l.map I, fixd v = true := fun v hv => by obtain ⟨x, _, rfl⟩ := List.mem_map.1 hv; rfl
theorem RowOk.frz {h0 h : T Blk} {nx : Pa} {L : List Ob} {t : TRow} (hr : RowOk t) (H : Hp h0 h nx L) (hm : t.2.1 ∈ L) : FrzN h0 h t.1 (encI t.2.2) := by
 obtain ⟨k, hk⟩ := List.mem_iff_getElem?.1 hm
 rcases hr with ⟨p, cap, hc, e1, e2⟩ | ⟨o, e1, e2⟩
 ·rw [e1] at hk; rw [e2]
  exact H.frzArr hk hc (by simp) (fixd_Is _)
 ·rw [e1] at hk; rw [e2]
  exact H.frzGro hk (fixd_Is _)
theorem RowOk.len {h0 h : T Blk} {nx : Pa} {L : List Ob} {t : TRow} (hr : RowOk t) (H : Hp h0 h nx L) (hm : t.2.1 ∈ L) (op : AV → OP) : sLen t.1 op = op (I t.2.2.length) := by
 obtain ⟨k, hk⟩ := List.mem_iff_getElem?.1 hm
 rcases hr with ⟨p, cap, hc, e1, e2⟩ | ⟨o, e1, e2⟩
 ·rw [e2]; rfl
 ·rw [e1] at hk; rw [e2]; exact H.groLen hk
theorem RowOk.rd {h0 h : T Blk} {nx : Pa} {L : List Ob} {t : TRow} (hr : RowOk t) (H : Hp h0 h nx L) (hm : t.2.1 ∈ L) (no : OP) (K' : List AV → Nat → OP) : readSl t.1 h no K' = K' (t.2.2.map I) t.2.2.length := by
 obtain ⟨k, hk⟩ := List.mem_iff_getElem?.1 hm
 rcases hr with ⟨p, cap, hc, e1, e2⟩ | ⟨o, e1, e2⟩
 ·rw [e1] at hk hm; rw [e2]
  exact HasArr.rd (H.own _ hm) (by simp) no K'
 ·rw [e1] at hk; rw [e2]
  rw [H.groRdHi hk (Nat.le_refl _), List.take_of_length_le (by simp)]
end Go.Ev
namespace Go.Ev
open Go Go.Proofs
variable {B : Nat}
end Go.Ev
namespace Go.Ev
open Go Go.Proofs
set_option maxRecDepth 100000
variable {N : Nat} {C : Calls Prop} {K0 : Kw Prop} {K R : Ks Prop} {h : T Blk} {nx : Pa} {x0 x1 x2 x3 x4 x5 x6 x7 x8 x9 a0 : AV}
end Go.Ev
namespace Go.Ev
open Go Go.Proofs
variable {B : Nat}
def StarSt (x : AV) (X : Ob) (l : List Int) (v : Int) : Prop := (l = [v] ∧ ∃ p, x = .sl p 0 1 (some 1) 1 ∧ X = .arr p [I v]) ∨ ∃ o, x = rowV (some o) 1 l.length ∧ X = .gro (some o) 1 l.length (l.map I)
theorem StarSt.ok {x : AV} {X : Ob} {l : List Int} {v : Int} (h : StarSt x X l v) : RowOk (x, X, l) := by
 rcases h with ⟨rfl, p, rfl, rfl⟩ | ⟨o, rfl, rfl⟩
 ·exact .inl ⟨p, some 1, Nat.le_refl _, rfl, rfl⟩
 ·exact .inr ⟨some o, rfl, rfl⟩
theorem sBuild2s {x : Int} {v : AV} {K : AV → OP} (h : v.cells = some [v]) : sBuild [(I 0), .nils] [(0, 1, I x), (1, 1, v)] K = K (.agg [I x, v]) := by
 have e : fillA [(I 0), AV.nils] [(0, 1, I x), (1, 1, v)] = some [I x, v] := by simp only [fillA, h]; rfl
 show (match fillA [(I 0), AV.nils] [(0, 1, I x), (1, 1, v)] with
  | some l => K (.agg l)
  | none => Out.no 2) = _
 rw [e]
end Go.Ev
namespace Go.Ev
open Go Go.Proofs
variable {B : Nat}
end Go.Ev
namespace Go.Ev
open Go Go.Proofs
variable {B : Nat}
set_option maxRecDepth 100000
end Go.Ev
namespace Go.Ev
open Go Go.Proofs
set_option maxRecDepth 100000
variable {N : Nat} {C : Calls Prop} {K0 : Kw Prop} {K R : Ks Prop} {h : T Blk} {nx : Pa} {x0 x1 x2 x3 x4 x5 x6 x7 x8 x9 x10 x11 x12 x13 x14 x15 x16 x17 x18 x19 a0 a1 : AV}
end Go.Ev
namespace Go.Ev
open Go Go.Proofs
variable {B : Nat}
set_option maxRecDepth 100000
theorem sGW_ff (op : KW3 → OP) (h : T Blk) (nx : Pa) (k : KW3) : sGW (.bool false) false op h nx k = op k := nr rfl
theorem sGW_tf (op : KW3 → OP) (h : T Blk) (nx : Pa) (k : KW3) : sGW (.bool true) false op h nx k = k .undef h nx := nr rfl
theorem sEqlBo {a b : Bool} {K : AV → OP} : sBin .eql .bool (.bool a) (.bool b) K = K (.bool (a == b)) := by cases a <;> cases b <;> exact nr rfl
end Go.Ev
namespace Go.Ev
open Go Go.Proofs
set_option maxRecDepth 100000
variable {N : Nat} {C : Calls Prop} {K0 : Kw Prop} {K R : Ks Prop} {h : T Blk} {nx : Pa} {x0 x1 x2 x3 x4 x5 x6 x7 x8 x9 x10 x11 x12 x13 x14 x15 x16 x17 x18 a0 a1 : AV}
theorem F145.g7_eq (X8 : IR) (O : Outs Prop) (t : T AV) : IR.run (F145.g7 X8) C N O K t h nx = IR.run X8 C N (O.blk 2 K) K t h nx := by kernel_rfl
theorem F145.g1_eq (X2 : IR) (O : Outs Prop) (t : T AV) : IR.run (F145.g1 X2) C N O K t h nx = IR.run X2 C N (O.blk 0 K) K t h nx := by kernel_rfl
theorem F145.tab : T.get none (.of 145) tbl = some F145 := by kernel_rfl
theorem F145.go : callFn tbl N C (.of 145) [a0, a1] h nx K0 =
 sBox a0 h nx fun v1 h2 n3 =>
 sAlloc [(I 0), .nils] h2 n3 fun v4 h5 n6 =>
 sFaddr 0 v1 fun v7 =>
 sLoad v7 h5 fun v8 =>
 C.fn 152 (.of 152) [(.str [109, 97, 103, 105, 99]), v8] h5 n6 fun v9 h10 n11 =>
 sPart 1 none v9 fun v12 =>
 sLen v12 fun v13 =>
 IR.run F145.b1 C N (fnO F145.res K0) (IR.run F145.b17 C N (fnO F145.res K0) (retK F145.res K0)) (F145.fr a0 a1 v1 (.bool false) v4 .undef .undef .undef .undef v12 v13 (I 0) .undef .undef .undef .undef .undef .undef .undef) h10 n11 := by
 rw [callFn_of F145.tab]; kernel_rfl
theorem F145.L1 (Inv : Nat → AV → T Blk → Pa → Prop) {m : Nat} (hm : m < N) (hi : Inv m x11 h nx)
  (step : ∀ (m : Nat) (z3 z5 z6 z7 z8 z11 z12 z13 z14 z15 z16 z17 z18 : AV) (h : T Blk) (nx : Pa) (R : Ks Prop), Inv m z11 h nx → (∀ (m' : Nat) (w3 w5 w6 w7 w8 w11 w12 w13 w14 w15 w16 w17 w18 : AV) (h' : T Blk) (nx' : Pa), m' < m → Inv m' w11 h' nx' → R (F145.fr x0 x1 x2 w3 x4 w5 w6 w7 w8 x9 x10 w11 w12 w13 w14 w15 w16 w17 w18) h' nx' = .ok True) →
   (sBin .lss .int z11 x10 fun v1 =>
 sCond v1 (sIaddr 1 x9 z11 fun v2 =>
 sLoad v2 h fun v3 =>
 C.fn 187 (.of 187) [(I 0)] h nx fun v4 h5 n6 =>
 sAlloc [(I 0), .nils] h5 n6 fun v7 h8 n9 =>
 sStore 2 v7 v4 h8 n9 fun v10 h11 n12 =>
 sLen v3 fun v13 =>
 IR.run F145.b7 C N (((fnO F145.res K0).blk 0 K).blk 1 (IR.run F145.b16 C N ((fnO F145.res K0).blk 0 K) R)) (IR.run F145.b14 C N (((fnO F145.res K0).blk 0 K).blk 1 (IR.run F145.b16 C N ((fnO F145.res K0).blk 0 K) R)) (IR.run F145.b16 C N ((fnO F145.res K0).blk 0 K) R)) (F145.fr x0 x1 x2 z3 x4 z11 v3 v7 z8 x9 x10 z11 v1 v3 v13 (I 0) z16 z17 z18) h11 n12) (K (F145.fr x0 x1 x2 z3 x4 z5 z6 z7 z8 x9 x10 z11 v1 z13 z14 z15 z16 z17 z18) h nx)) = .ok True) :
  IR.run F145.b1 C N (fnO F145.res K0) K (F145.fr x0 x1 x2 x3 x4 x5 x6 x7 x8 x9 x10 x11 x12 x13 x14 x15 x16 x17 x18) h nx = .ok True := by
 rw [F145.b1, F145.g1_eq, F145.b2]
 refine loop_ok (fun m tm h nx => ∃ z3 z5 z6 z7 z8 z11 z12 z13 z14 z15 z16 z17 z18, tm = (F145.fr x0 x1 x2 z3 x4 z5 z6 z7 z8 x9 x10 z11 z12 z13 z14 z15 z16 z17 z18) ∧ Inv m z11 h nx) ?_ hm ⟨_, _, _, _, _, _, _, _, _, _, _, _, _, rfl, hi⟩
 rintro m tm h nx R ⟨z3, z5, z6, z7, z8, z11, z12, z13, z14, z15, z16, z17, z18, rfl, hi⟩ hR
 refine Eq.trans ?_ (step m z3 z5 z6 z7 z8 z11 z12 z13 z14 z15 z16 z17 z18 h nx R hi fun m' w3 w5 w6 w7 w8 w11 w12 w13 w14 w15 w16 w17 w18 h' nx' hlt hi' => hR m' _ h' nx' hlt ⟨_, _, _, _, _, _, _, _, _, _, _, _, _, rfl, hi'⟩)
 kernel_rfl
theorem F145.k17 : IR.run F145.b17 C N (fnO F145.res K0) K (F145.fr x0 x1 x2 x3 x4 x5 x6 x7 x8 x9 x10 x11 x12 x13 x14 x15 x16 x17 x18) h nx =
 K0 (.bool true) h nx := by kernel_rfl
theorem F145.k16 {E0 : Ks Prop} : IR.run F145.b16 C N ((fnO F145.res K0).blk 0 E0) K (F145.fr x0 x1 x2 x3 x4 x5 x6 x7 x8 x9 x10 x11 x12 x13 x14 x15 x16 x17 x18) h nx =
 sBin .add .int x11 (I 1) fun v1 =>
 K (F145.fr x0 x1 x2 x3 x4 x5 x6 x7 x8 x9 x10 v1 x12 x13 x14 x15 x16 x17 x18) h nx := by kernel_rfl
theorem F145.L7 {E0 E1 : Ks Prop} (Inv : Nat → AV → T Blk → Pa → Prop) {m : Nat} (hm : m < N) (hi : Inv m x15 h nx)
  (step : ∀ (m : Nat) (z8 z15 z16 : AV) (h : T Blk) (nx : Pa) (R : Ks Prop), Inv m z15 h nx → (∀ (m' : Nat) (w8 w15 w16 : AV) (h' : T Blk) (nx' : Pa), m' < m → Inv m' w15 h' nx' → R (F145.fr x0 x1 x2 x3 x4 x5 x6 x7 w8 x9 x10 x11 x12 x13 x14 w15 w16 x17 x18) h' nx' = .ok True) →
   (sBin .lss .int z15 x14 fun v1 =>
 sCond v1 (sIaddr 1 x13 z15 fun v2 =>
 sLoad v2 h fun v3 =>
 sLoadN 2 x7 h fun v4 =>
 sFaddr 1 x2 fun v5 =>
 sLoad v5 h fun v6 =>
 sIaddr 1 v6 v3 fun v7 =>
 sLoad v7 h fun v8 =>
 C.fn 187 (.of 187) [v8] h nx fun v9 h10 n11 =>
 sSame x1 x1 ((sLoadN 2 x7 h10 fun v23 => sSame v23 v4 (C.fn 228 (.of 228) [v9, x1] h10 n11 fun v12 h13 n14 =>
 (sLoadN 2 x7 h13 fun v22 => sSame v22 v4 (C.fn 197 (.of 197) [v4, v12] h13 n14 fun v15 h16 n17 =>
 sStore 2 x7 v15 h16 n17 fun v18 h19 n20 =>
 sBin .add .int z15 (I 1) fun v21 =>
 R (F145.fr x0 x1 x2 x3 x4 x5 x6 x7 v3 x9 x10 x11 x12 x13 x14 v21 v1 x17 x18) h19 n20)))))) (K (F145.fr x0 x1 x2 x3 x4 x5 x6 x7 z8 x9 x10 x11 x12 x13 x14 z15 v1 x17 x18) h nx)) = .ok True) :
  IR.run F145.b7 C N (((fnO F145.res K0).blk 0 E0).blk 1 E1) K (F145.fr x0 x1 x2 x3 x4 x5 x6 x7 x8 x9 x10 x11 x12 x13 x14 x15 x16 x17 x18) h nx = .ok True := by
 rw [F145.b7, F145.g7_eq, F145.b8]
 refine loop_ok (fun m tm h nx => ∃ z8 z15 z16, tm = (F145.fr x0 x1 x2 x3 x4 x5 x6 x7 z8 x9 x10 x11 x12 x13 x14 z15 z16 x17 x18) ∧ Inv m z15 h nx) ?_ hm ⟨_, _, _, rfl, hi⟩
 rintro m tm h nx R ⟨z8, z15, z16, rfl, hi⟩ hR
 refine Eq.trans ?_ (step m z8 z15 z16 h nx R hi fun m' w8 w15 w16 h' nx' hlt hi' => hR m' _ h' nx' hlt ⟨_, _, _, rfl, hi'⟩)
 kernel_rfl
theorem F145.k14 {E0 E1 : Ks Prop} : IR.run F145.b14 C N (((fnO F145.res K0).blk 0 E0).blk 1 E1) K (F145.fr x0 x1 x2 x3 x4 x5 x6 x7 x8 x9 x10 x11 x12 x13 x14 x15 x16 x17 x18) h nx =
 sBin .eql .int x5 (I 0) fun v1 =>
 sCond v1 (sLoadN 2 x7 h fun v2 =>
 sStore 2 x4 v2 h nx fun v3 h4 n5 =>
 (IR.run F145.b15 C N (((fnO F145.res K0).blk 0 E0).blk 1 E1) K) (F145.fr x0 x1 x2 x3 x4 x5 x6 x7 x8 x9 x10 x11 x12 x13 x14 x15 x16 v1 x18) h4 n5) ((IR.run F145.b15 C N (((fnO F145.res K0).blk 0 E0).blk 1 E1) K) (F145.fr x0 x1 x2 x3 x4 x5 x6 x7 x8 x9 x10 x11 x12 x13 x14 x15 x16 v1 x18) h nx) := by kernel_rfl
theorem F145.k15 {E0 E1 : Ks Prop} : IR.run F145.b15 C N (((fnO F145.res K0).blk 0 E0).blk 1 E1) K (F145.fr x0 x1 x2 x3 x4 x5 x6 x7 x8 x9 x10 x11 x12 x13 x14 x15 x16 x17 x18) h nx =
 sLoadN 2 x7 h fun v1 =>
 sLoadN 2 x4 h fun v2 =>
 C.fn 229 (.of 229) [v1, v2] h nx fun v3 h4 n5 =>
 sBin .neq .int v3 (I 0) fun v6 =>
 sCond v6 (K0 (.bool false) h4 n5) (K (F145.fr x0 x1 x2 x3 x4 x5 x6 x7 x8 x9 x10 x11 x12 x13 x14 x15 x16 x17 v6) h4 n5) := by kernel_rfl
theorem F187.tab : T.get none (.of 187) tbl = some F187 := by kernel_rfl
theorem F187.go : callFn tbl N C (.of 187) [a0] h nx K0 =
 sAlloc [(I 0), .nils] h nx fun v1 h2 n3 =>
 sBuild [(I 0), .nils] [(0, 1, a0)] fun v4 =>
 sStore 2 v1 v4 h2 n3 fun v5 h6 n7 =>
 sLoadN 2 v1 h6 fun v8 => K0 v8 h6 n7 := by
 rw [callFn_of F187.tab]; kernel_rfl
theorem F197.tab : T.get none (.of 197) tbl = some F197 := by kernel_rfl
theorem F197.go : callFn tbl N C (.of 197) [a0, a1] h nx K0 =
 sBox a0 h nx fun v1 h2 n3 =>
 sBox a1 h2 n3 fun v4 h5 n6 =>
 sAlloc [(I 0), .nils] h5 n6 fun v7 h8 n9 =>
 sFaddr 1 v1 fun v10 =>
 sLoad v10 h8 fun v11 =>
 sBin .eql (.nil .sl) v11 .nils fun v12 =>
 sG v12 true (fun k => sFaddr 1 v4 k) fun v13 =>
 sG v12 true (fun k => sLoad v13 h8 k) fun v14 =>
 sG v12 true (fun k => sBin .eql (.nil .sl) v14 .nils k) fun v15 =>
 sPick v12 v15 (.bool false) fun v16 =>
 sCond v16 (sFaddr 0 v1 fun v17 =>
 sLoad v17 h8 fun v18 =>
 sFaddr 0 v4 fun v19 =>
 sLoad v19 h8 fun v20 =>
 sBin .add .int v18 v20 fun v21 =>
 sFaddr 0 v1 fun v22 =>
 sLoad v22 h8 fun v23 =>
 sBin .gtr .int v21 v23 fun v24 =>
 sFaddr 0 v4 fun v25 =>
 sLoad v25 h8 fun v26 =>
 sBin .gtr .int v26 (I 0) fun v27 =>
 sBin .eql .bool v24 v27 fun v28 =>
 sCond v28 (sBuild [(I 0), .nils] [(0, 1, v21)] fun v29 =>
 sStore 2 v7 v29 h8 n9 fun v30 h31 n32 =>
 sLoadN 2 v7 h31 fun v33 => K0 v33 h31 n32) ((IR.run F197.b1 C N (fnO F197.res K0) (retK F197.res K0)) (F197.fr a0 a1 v1 v4 v7 v21 .undef .undef .undef .undef v16 v28 .undef .undef) h8 n9)) ((IR.run F197.b1 C N (fnO F197.res K0) (retK F197.res K0)) (F197.fr a0 a1 v1 v4 v7 .undef .undef .undef .undef .undef v16 .undef .undef .undef) h8 n9) := by
 rw [callFn_of F197.tab]; kernel_rfl
theorem F228.g1_eq (X2 : IR) (O : Outs Prop) (t : T AV) : IR.run (F228.g1 X2) C N O K t h nx = IR.run X2 C N (O.blk 0 K) K t h nx := by kernel_rfl
theorem F228.tab : T.get none (.of 228) tbl = some F228 := by kernel_rfl
theorem F228.go : callFn tbl N C (.of 228) [a0, a1] h nx K0 =
 sBox a0 h nx fun v1 h2 n3 =>
 sAlloc [(I 0), .nils] h2 n3 fun v4 h5 n6 =>
 C.fn 187 (.of 187) [(I 1)] h5 n6 fun v7 h8 n9 =>
 sAlloc [(I 0), .nils] h8 n9 fun v10 h11 n12 =>
 sStore 2 v10 v7 h11 n12 fun v13 h14 n15 =>
 IR.run F228.b1 C N (fnO F228.res K0) (IR.run F228.b9 C N (fnO F228.res K0) (retK F228.res K0)) (F228.fr a0 a1 v1 v4 v10 .undef .undef .undef) h14 n15 := by
 rw [callFn_of F228.tab]; kernel_rfl
theorem F228.L1 (Inv : Nat → AV → T Blk → Pa → Prop) {m : Nat} (hm : m < N) (hi : Inv m x1 h nx)
  (step : ∀ (m : Nat) (z1 z5 z6 z7 : AV) (h : T Blk) (nx : Pa) (R : Ks Prop), Inv m z1 h nx → (∀ (m' : Nat) (w1 w5 w6 w7 : AV) (h' : T Blk) (nx' : Pa), m' < m → Inv m' w1 h' nx' → R (F228.fr x0 w1 x2 x3 x4 w5 w6 w7) h' nx' = .ok True) →
   (sBin .gtr .int z1 (I 0) fun v1 =>
 sCond v1 (sBin .and .int z1 (I 1) fun v2 =>
 sBin .eql .int v2 (I 1) fun v3 =>
 sCond v3 (sLoadN 2 x4 h fun v4 =>
 sLoadN 2 x2 h fun v5 =>
 C.fn 198 (.of 198) [v4, v5] h nx fun v6 h7 n8 =>
 sStore 2 x4 v6 h7 n8 fun v9 h10 n11 =>
 (IR.run F228.b7 C N (((fnO F228.res K0).blk 0 K).blk 1 (IR.run F228.b8 C N ((fnO F228.res K0).blk 0 K) R)) (IR.run F228.b8 C N ((fnO F228.res K0).blk 0 K) R)) (F228.fr x0 z1 x2 x3 x4 v1 v3 z7) h10 n11) ((IR.run F228.b7 C N (((fnO F228.res K0).blk 0 K).blk 1 (IR.run F228.b8 C N ((fnO F228.res K0).blk 0 K) R)) (IR.run F228.b8 C N ((fnO F228.res K0).blk 0 K) R)) (F228.fr x0 z1 x2 x3 x4 v1 v3 z7) h nx)) (K (F228.fr x0 z1 x2 x3 x4 v1 z6 z7) h nx)) = .ok True) :
  IR.run F228.b1 C N (fnO F228.res K0) K (F228.fr x0 x1 x2 x3 x4 x5 x6 x7) h nx = .ok True := by
 rw [F228.b1, F228.g1_eq, F228.b2]
 refine loop_ok (fun m tm h nx => ∃ z1 z5 z6 z7, tm = (F228.fr x0 z1 x2 x3 x4 z5 z6 z7) ∧ Inv m z1 h nx) ?_ hm ⟨_, _, _, _, rfl, hi⟩
 rintro m tm h nx R ⟨z1, z5, z6, z7, rfl, hi⟩ hR
 refine Eq.trans ?_ (step m z1 z5 z6 z7 h nx R hi fun m' w1 w5 w6 w7 h' nx' hlt hi' => hR m' _ h' nx' hlt ⟨_, _, _, _, rfl, hi'⟩)
 kernel_rfl
theorem F228.k9 : IR.run F228.b9 C N (fnO F228.res K0) K (F228.fr x0 x1 x2 x3 x4 x5 x6 x7) h nx =
 sLoadN 2 x4 h fun v1 =>
 sStore 2 x3 v1 h nx fun v2 h3 n4 =>
 sLoadN 2 x3 h3 fun v5 => K0 v5 h3 n4 := by kernel_rfl
theorem F228.k8 {E0 : Ks Prop} : IR.run F228.b8 C N ((fnO F228.res K0).blk 0 E0) K (F228.fr x0 x1 x2 x3 x4 x5 x6 x7) h nx =
 sBin .shr .int x1 (.int .u64 1) fun v1 =>
 K (F228.fr x0 v1 x2 x3 x4 x5 x6 x7) h nx := by kernel_rfl
theorem F228.k7 {E0 E1 : Ks Prop} : IR.run F228.b7 C N (((fnO F228.res K0).blk 0 E0).blk 1 E1) K (F228.fr x0 x1 x2 x3 x4 x5 x6 x7) h nx =
 sBin .gtr .int x1 (I 1) fun v1 =>
 sCond v1 (sLoadN 2 x2 h fun v2 =>
 sLoadN 2 x2 h fun v3 =>
 C.fn 198 (.of 198) [v2, v3] h nx fun v4 h5 n6 =>
 sStore 2 x2 v4 h5 n6 fun v7 h8 n9 =>
 K (F228.fr x0 x1 x2 x3 x4 x5 x6 v1) h8 n9) (K (F228.fr x0 x1 x2 x3 x4 x5 x6 v1) h nx) := by kernel_rfl
theorem F229.tab : T.get none (.of 229) tbl = some F229 := by kernel_rfl
theorem F229.go : callFn tbl N C (.of 229) [a0, a1] h nx K0 =
 sBox a0 h nx fun v1 h2 n3 =>
 sBox a1 h2 n3 fun v4 h5 n6 =>
 sFaddr 1 v1 fun v7 =>
 sLoad v7 h5 fun v8 =>
 sBin .eql (.nil .sl) v8 .nils fun v9 =>
 sG v9 true (fun k => sFaddr 1 v4 k) fun v10 =>
 sG v9 true (fun k => sLoad v10 h5 k) fun v11 =>
 sG v9 true (fun k => sBin .eql (.nil .sl) v11 .nils k) fun v12 =>
 sPick v9 v12 (.bool false) fun v13 =>
 sCond v13 (sFaddr 0 v1 fun v14 =>
 sLoad v14 h5 fun v15 =>
 sFaddr 0 v4 fun v16 =>
 sLoad v16 h5 fun v17 =>
 sBin .lss .int v15 v17 fun v18 =>
 sCond v18 (K0 (I (-1)) h5 n6) (sFaddr 0 v1 fun v19 =>
 sLoad v19 h5 fun v20 =>
 sFaddr 0 v4 fun v21 =>
 sLoad v21 h5 fun v22 =>
 sBin .gtr .int v20 v22 fun v23 =>
 sCond v23 (K0 (I 1) h5 n6) (K0 (I 0) h5 n6))) (sLoadN 2 v1 h5 fun v24 =>
 sLoadN 2 v4 h5 fun v25 =>
 C.fn 266 (.of 266) [v24, v25] h5 n6 fun v26 h27 n28 =>
 C.fn 194 (.of 194) [v26] h27 n28 fun v29 h30 n31 =>
 K0 v29 h30 n31) := by
 rw [callFn_of F229.tab]; kernel_rfl
theorem F198.tab : T.get none (.of 198) tbl = some F198 := by kernel_rfl
theorem F198.go : callFn tbl N C (.of 198) [a0, a1] h nx K0 =
 sBox a0 h nx fun v1 h2 n3 =>
 sBox a1 h2 n3 fun v4 h5 n6 =>
 sAlloc [(I 0), .nils] h5 n6 fun v7 h8 n9 =>
 sFaddr 1 v1 fun v10 =>
 sLoad v10 h8 fun v11 =>
 sBin .eql (.nil .sl) v11 .nils fun v12 =>
 sG v12 true (fun k => sFaddr 1 v4 k) fun v13 =>
 sG v12 true (fun k => sLoad v13 h8 k) fun v14 =>
 sG v12 true (fun k => sBin .eql (.nil .sl) v14 .nils k) fun v15 =>
 sPick v12 v15 (.bool false) fun v16 =>
 sCond v16 (sFaddr 0 v1 fun v17 =>
 sLoad v17 h8 fun v18 =>
 sFaddr 0 v4 fun v19 =>
 sLoad v19 h8 fun v20 =>
 C.fn 264 (.of 264) [v18] h8 n9 fun v21 h22 n23 =>
 (sLoad v19 h22 fun v51 => sSame v51 v20 ((sFaddr 0 v4 fun v50 => sSame v50 v19 (C.fn 264 (.of 264) [v20] h22 n23 fun v24 h25 n26 =>
 C.fn 263 (.of 263) [v21, v24] h25 n26 fun v27 h28 n29 =>
 sExt 0 v27 fun v30 =>
 sExt 1 v27 fun v31 =>
 sBin .eql .int v30 (.int .u64 0) fun v32 =>
 sG v32 true (fun k => k v31) fun v33 =>
 sG v32 true (fun k => sBin .leq .int v33 (.int .u64 9223372036854775807) k) fun v34 =>
 sPick v32 v34 (.bool false) fun v35 =>
 sCond v35 (sFaddr 0 v1 fun v36 =>
 sLoad v36 h28 fun v37 =>
 sBin .lss .int v37 (I 0) fun v38 =>
 sFaddr 0 v4 fun v39 =>
 sLoad v39 h28 fun v40 =>
 sBin .lss .int v40 (I 0) fun v41 =>
 sBin .neq .bool v38 v41 fun v42 =>
 sCond v42 (sConv .i64 v31 fun v43 =>
 sNeg v43 fun v44 =>
 sBuild [(I 0), .nils] [(0, 1, v44)] fun v45 =>
 sStore 2 v7 v45 h28 n29 fun v46 h47 n48 =>
 sLoadN 2 v7 h47 fun v49 => K0 v49 h47 n48) ((IR.run F198.b1 C N (fnO F198.res K0) (IR.run F198.b2 C N (fnO F198.res K0) (retK F198.res K0))) (F198.fr a0 a1 v1 v4 v7 v30 v31 .undef .undef .undef .undef v16 v35 v42) h28 n29)) ((IR.run F198.b2 C N (fnO F198.res K0) (retK F198.res K0)) (F198.fr a0 a1 v1 v4 v7 v30 v31 .undef .undef .undef .undef v16 v35 .undef) h28 n29)))))) ((IR.run F198.b2 C N (fnO F198.res K0) (retK F198.res K0)) (F198.fr a0 a1 v1 v4 v7 .undef .undef .undef .undef .undef .undef v16 .undef .undef) h8 n9) := by
 rw [callFn_of F198.tab]; kernel_rfl
theorem F198.k1 : IR.run F198.b1 C N (fnO F198.res K0) K (F198.fr x0 x1 x2 x3 x4 x5 x6 x7 x8 x9 x10 x11 x12 x13) h nx =
 sConv .i64 x6 fun v1 =>
 sBuild [(I 0), .nils] [(0, 1, v1)] fun v2 =>
 sStore 2 x4 v2 h nx fun v3 h4 n5 =>
 sLoadN 2 x4 h4 fun v6 => K0 v6 h4 n5 := by kernel_rfl
end Go.Ev
namespace Go.Ev
open Go Go.Proofs
set_option maxRecDepth 100000
variable {N : Nat} {C : Calls Prop} {K0 : Kw Prop} {K R : Ks Prop} {h : T Blk} {nx : Pa} {x0 x1 x2 x3 x4 x5 x6 x7 x8 x9 x10 x11 a0 a1 : AV}
theorem F263.tab : T.get none (.of 263) tbl = some F263 := by kernel_rfl
theorem F263.go : callFn tbl N C (.of 263) [a0, a1] h nx K0 =
 sBin .and .int a0 (.int .u64 4294967295) fun v1 =>
 sBin .shr .int a0 (.int .u64 32) fun v2 =>
 sBin .and .int a1 (.int .u64 4294967295) fun v3 =>
 sBin .shr .int a1 (.int .u64 32) fun v4 =>
 sBin .mul .int v1 v3 fun v5 =>
 sBin .mul .int v2 v3 fun v6 =>
 sBin .shr .int v5 (.int .u64 32) fun v7 =>
 sBin .add .int v6 v7 fun v8 =>
 sBin .and .int v8 (.int .u64 4294967295) fun v9 =>
 sBin .shr .int v8 (.int .u64 32) fun v10 =>
 sBin .mul .int v1 v4 fun v11 =>
 sBin .add .int v9 v11 fun v12 =>
 sBin .mul .int v2 v4 fun v13 =>
 sBin .add .int v13 v10 fun v14 =>
 sBin .shr .int v12 (.int .u64 32) fun v15 =>
 sBin .add .int v14 v15 fun v16 =>
 sBin .mul .int a0 a1 fun v17 =>
 K0 (.tup [v16, v17]) h nx := by
 rw [callFn_of F263.tab]; kernel_rfl
theorem F264.tab : T.get none (.of 264) tbl = some F264 := by kernel_rfl
theorem F264.go : callFn tbl N C (.of 264) [a0] h nx K0 =
 sBin .lss .int a0 (I 0) fun v1 =>
 sCond v1 (sNeg a0 fun v2 =>
 sConv .u64 v2 fun v3 =>
 K0 v3 h nx) (sConv .u64 a0 fun v4 =>
 K0 v4 h nx) := by
 rw [callFn_of F264.tab]; kernel_rfl
end Go.Ev
namespace Go.Ev
open Go Go.Proofs
variable {B : Nat}
set_option maxRecDepth 100000
abbrev Wd (m : Nat) : AV := .int .u64 (m : Int)
theorem wrapU {z : Int} (h : 0 ≤ z ∧ z < 18446744073709551616) : IntKind.wrap .u64 z = z := by
 have e : IntKind.wrap .u64 z = z % 18446744073709551616 := by
  unfold IntKind.wrap; first | rfl | simp [IntKind.bits, IntKind.signed] | skip
 rw [e]; omega
theorem wrapUm {m : Nat} : IntKind.wrap .u64 (m : Int) = ((m % 18446744073709551616 : Nat) : Int) := by
 have e : IntKind.wrap .u64 (m : Int) = (m : Int) % 18446744073709551616 := by
  unfold IntKind.wrap; first | rfl | simp [IntKind.bits, IntKind.signed] | skip
 rw [e]; omega
theorem sAddU {a b : Nat} {K : AV → OP} : sBin .add .int (Wd a) (Wd b) K = K (Wd ((a + b) % 18446744073709551616)) := by
 rw [sAddW, show (a : Int) + (b : Int) = ((a + b : Nat) : Int) by omega, wrapUm]
theorem sMulU {a b : Nat} {K : AV → OP} : sBin .mul .int (Wd a) (Wd b) K = K (Wd ((a * b) % 18446744073709551616)) := by
 rw [sMulW, show (a : Int) * (b : Int) = ((a * b : Nat) : Int) by simp, wrapUm]
theorem sShrU {m n : Nat} {k : IntKind} {K : AV → OP} (hn : n ≤ 64) : sBin .shr .int (Wd m) (.int k (n : Int)) K = K (Wd (m / 2 ^ n)) := by
 have e : sBin .shr .int (Wd m) (.int k (n : Int)) K = (bif ilt (n : Int) 0 then Out.no 5 else intK ((m : Int).fdiv (2 ^ (min (n : Int).toNat IntKind.u64.bits))) fun z => K (.int .u64 z)) := by cases k <;> rfl
 have h0 : ilt (n : Int) 0 = false := rfl
 rw [e, h0, cond_false, intK_eq]
 have hb : IntKind.u64.bits = 64 := rfl
 rw [hb, Int.toNat_natCast, Nat.min_eq_left hn, Int.fdiv_eq_ediv_of_nonneg _ (Int.pow_nonneg (by omega))]
 congr 2
theorem sAndLow {m : Nat} {K : AV → OP} (hm : m < 18446744073709551616) : sBin .and .int (Wd m) (.int .u64 4294967295) K = K (Wd (m % 4294967296)) := by
 have e : sBin .and .int (Wd m) (Wd 4294967295) K = intK (IntKind.u64.wrap ((BitVec.ofInt 64 (m : Int) &&& BitVec.ofInt 64 ((4294967295 : Nat) : Int)).toNat : Int)) fun z => K (.int .u64 z) := rfl
 have h1 : (BitVec.ofInt 64 (m : Int) &&& BitVec.ofInt 64 ((4294967295 : Nat) : Int)).toNat = m % 4294967296 := by
  rw [BitVec.ofInt_natCast, BitVec.ofInt_natCast, BitVec.toNat_and, BitVec.toNat_ofNat, BitVec.toNat_ofNat, Nat.mod_eq_of_lt hm]
  exact Nat.and_two_pow_sub_one_eq_mod m 32
 have e2 : sBin .and .int (Wd m) (.int .u64 4294967295) K = sBin .and .int (Wd m) (Wd 4294967295) K := rfl
 rw [e2, e, intK_eq, h1, wrapU (by omega)]
theorem sAndBit {m : Nat} {K : AV → OP} (hm : m ≤ 9223372036854775807) : sBin .and .int (I (m : Int)) (I 1) K = K (I ((m % 2 : Nat) : Int)) := by
 have e : sBin .and .int (I (m : Int)) (I 1) K = intK (IntKind.i64.wrap ((BitVec.ofInt 64 (m : Int) &&& BitVec.ofInt 64 1).toNat : Int)) fun z => K (.int .i64 z) := rfl
 have h1 : (BitVec.ofInt 64 (m : Int) &&& BitVec.ofInt 64 1).toNat = m % 2 := by
  rw [BitVec.ofInt_natCast, BitVec.toNat_and, BitVec.toNat_ofNat, Nat.mod_eq_of_lt (by omega)]
  show m &&& 1 = m % 2
  exact Nat.and_one_is_mod m
 rw [e, intK_eq, h1, wrap64_in (by omega)]
theorem sShrI {m n : Nat} {k : IntKind} {K : AV → OP} (hn : n ≤ 64) : sBin .shr .int (I (m : Int)) (.int k (n : Int)) K = K (I ((m / 2 ^ n : Nat) : Int)) := by
 have e : sBin .shr .int (I (m : Int)) (.int k (n : Int)) K = (bif ilt (n : Int) 0 then Out.no 5 else intK ((m : Int).fdiv (2 ^ (min (n : Int).toNat IntKind.i64.bits))) fun z => K (.int .i64 z)) := by cases k <;> rfl
 have h0 : ilt (n : Int) 0 = false := rfl
 rw [e, h0, cond_false, intK_eq]
 have hb : IntKind.i64.bits = 64 := rfl
 rw [hb, Int.toNat_natCast, Nat.min_eq_left hn, Int.fdiv_eq_ediv_of_nonneg _ (Int.pow_nonneg (by omega))]
 congr 2
theorem sConvU {k : IntKind} {z : Int} {K : AV → OP} (h : 0 ≤ z ∧ z < 18446744073709551616) : sConv .u64 (.int k z) K = K (.int .u64 z) := by
 show intK (wrapF .u64 z) (fun z => K (.int .u64 z)) = _
 rw [intK_eq, wrapF_eq, wrapU h]
theorem sConvI {k : IntKind} {z : Int} {K : AV → OP} (h : -9223372036854775808 ≤ z ∧ z ≤ 9223372036854775807) : sConv .i64 (.int k z) K = K (I z) := by
 show intK (wrapF .i64 z) (fun z => K (.int .i64 z)) = _
 rw [intK_eq, wrapF_eq, wrap64_in h]
theorem sNegI {z : Int} {K : AV → OP} (h : -9223372036854775807 ≤ z ∧ z ≤ 9223372036854775807) : sNeg (I z) K = K (I (-z)) := by
 show intK (wrapF .i64 (0 - z)) (fun z => K (.int .i64 z)) = _
 rw [intK_eq, wrapF_eq, wrap64_in (by omega), Int.zero_sub]
theorem sNilEq0 {K : AV → OP} : sBin .eql (.nil .sl) .nils .nils K = K (.bool true) := nr rfl
theorem mul263 {a b : Nat} (ha : a < 18446744073709551616) (hb : b < 18446744073709551616) : Pure Tryz.prog B 263 [Wd a, Wd b] (· = .tup [Wd (a * b / 18446744073709551616), Wd (a * b % 18446744073709551616)]) := by
 intro p h nx K hK
 refine by_body tbl_ok dreg 10 fun hf => ?_
 rw [F263.go, sAndLow ha]
 have sh : ∀ (m : Nat) (K : AV → OP), sBin .shr .int (Wd m) (.int .u64 32) K = K (Wd (m / 4294967296)) := fun m K => sShrU (n := 32) (by omega)
 rw [sh, sAndLow hb, sh]
 have ha0 : a % 4294967296 < 4294967296 := by omega
 have ha1 : a / 4294967296 < 4294967296 := by omega
 have hb0 : b % 4294967296 < 4294967296 := by omega
 have hb1 : b / 4294967296 < 4294967296 := by omega
 have ea : a = a / 4294967296 * 4294967296 + a % 4294967296 := by omega
 have eb : b = b / 4294967296 * 4294967296 + b % 4294967296 := by omega
 generalize a / 4294967296 = a1 at *
 generalize a % 4294967296 = a0 at *
 generalize b / 4294967296 = b1 at *
 generalize b % 4294967296 = b0 at *
 have m00 : a0 * b0 ≤ 4294967295 * 4294967295 := Nat.mul_le_mul (by omega) (by omega)
 have m10 : a1 * b0 ≤ 4294967295 * 4294967295 := Nat.mul_le_mul (by omega) (by omega)
 have m01 : a0 * b1 ≤ 4294967295 * 4294967295 := Nat.mul_le_mul (by omega) (by omega)
 have m11 : a1 * b1 ≤ 4294967295 * 4294967295 := Nat.mul_le_mul (by omega) (by omega)
 have hp : a * b = a1 * b1 * 18446744073709551616 + (a1 * b0 + a0 * b1) * 4294967296 + a0 * b0 := by
  rw [ea, eb]
  simp only [Nat.add_mul, Nat.mul_add]
  have e1 : a1 * 4294967296 * (b1 * 4294967296) = a1 * b1 * 18446744073709551616 := by
   rw [Nat.mul_mul_mul_comm]
  have e2 : a1 * 4294967296 * b0 = a1 * b0 * 4294967296 := by rw [Nat.mul_right_comm]
  have e3 : a0 * (b1 * 4294967296) = a0 * b1 * 4294967296 := by rw [Nat.mul_assoc]
  rw [e1, e2, e3]; omega
 rw [sMulU, sMulU, Nat.mod_eq_of_lt (show a0 * b0 < 18446744073709551616 by omega), Nat.mod_eq_of_lt (show a1 * b0 < 18446744073709551616 by omega), sh, sAddU, Nat.mod_eq_of_lt (show a1 * b0 + a0 * b0 / 4294967296 < 18446744073709551616 by omega), sAndLow (by omega), sh, sMulU, Nat.mod_eq_of_lt (show a0 * b1 < 18446744073709551616 by omega), sAddU, sMulU, Nat.mod_eq_of_lt (show a1 * b1 < 18446744073709551616 by omega), sAddU, sh, sAddU, sMulU]
 refine hK _ ?_ hf
 rw [hp]
 generalize a0 * b0 = p00 at *
 generalize a1 * b0 = p10 at *
 generalize a0 * b1 = p01 at *
 generalize a1 * b1 = p11 at *
 congr 3
 congr 1
 omega
end Go.Ev
namespace Go.Ev
open Go Go.Proofs
variable {B : Nat}
set_option maxRecDepth 100000
abbrev sm (x : Int) : AV := .agg [I x, .nils]
theorem ret_sm {h0 h : T Blk} {nx p : Pa} {L : List Ob} {k : Nat} {x : Int} {l : List AV} {K : Kw Prop} (H : Hp h0 h nx L) (hk : L[k]? = some (.arr p l)) (hl : l.length = 2)
  (hK : ∀ h' nx' L', Hp h0 h' nx' L' → K (sm x) h' nx' = .ok True) : (sBuild [(I 0), .nils] [(0, 1, I x)] fun v11 => sStore 2 (.ptr p 0) v11 h nx fun v12 h13 n14 => sLoadN 2 (.ptr p 0) h13 fun v15 => K v15 h13 n14) = .ok True := by
 rw [sBuildS]
 refine H.storeN (l2 := [I x, .nils]) (k := k) hk hl rfl fun h4 H4 => ?_
 rw [H4.loadN (k := k) (n := 2) (List.getElem?_set_self (List.getElem?_eq_some_iff.1 hk).1) rfl]
 exact hK _ _ _ H4
theorem frz_sm {N : Pa → Prop} {O : AV → Prop} {hh : T Blk} {x : Int} : Frz True N O hh (sm x) (sm x) := frz_agg (by simp [fixd])
theorem of187 {x : Int} : Pure Tryz.prog B 187 [I x] (· = sm x) := by
 refine pure_hp fun h nx K H0 hK => by_body tbl_ok dreg 100 fun hf => ?_
 rw [F187.go]
 refine H0.alloc fun p h1 nx1 H1 => ?_
 exact ret_sm H1 (k := 0) rfl rfl fun _ _ _ H => hK _ _ _ _ _ H frz_sm rfl
theorem sEqlBb {a b : Bool} {K : AV → OP} : sBin .eql .bool (.bool a) (.bool b) K = K (.bool (a == b)) := sEqlBo
theorem add197s {a b : Int} (ha : -9223372036854775808 ≤ a ∧ a ≤ 9223372036854775807) (hab : -9223372036854775808 ≤ a + b ∧ a + b ≤ 9223372036854775807) : Pure Tryz.prog B 197 [sm a, sm b] (· = sm (a + b)) := by
 refine pure_hp fun h nx K H0 hK => by_body tbl_ok dreg 100 fun hf => ?_
 rw [F197.go]
 refine H0.box (l := [I a, .nils]) rfl fun pa h1 nx1 H1 => ?_
 refine H1.box (l := [I b, .nils]) rfl fun pb h2 nx2 H2 => ?_
 refine H2.alloc fun p h3 nx3 H3 => ?_
 simp only [sFx]
 rw [H3.load (k := 2) (i := 0 + 1) rfl rfl, sNilEq0]
 simp only [sG_tt, sFx]
 rw [H3.load (k := 1) (i := 0 + 1) rfl rfl, sNilEq0, sPick_t, sCond_t]
 rw [H3.load (k := 2) (i := 0) rfl rfl, H3.load (k := 1) (i := 0) rfl rfl, sAdd hab, H3.load (k := 2) (i := 0) rfl rfl]
 simp only [sGtr]
 rw [H3.load (k := 1) (i := 0) rfl rfl]
 simp only [sGtr]
 have e : (decide (a < a + b) == decide (0 < b)) = true := by
  have : decide (a < a + b) = decide (0 < b) := decide_eq_decide.2 (by omega)
  rw [this]; simp
 rw [sEqlBb, e, sCond_t]
 exact ret_sm H3 (k := 0) rfl rfl fun _ _ _ H => hK _ _ _ _ _ H frz_sm rfl
def cmpI (a b : Int) : Int := if a < b then -1 else if b < a then 1 else 0
theorem cmp229s {a b : Int} : Pure Tryz.prog B 229 [sm a, sm b] (· = I (cmpI a b)) := by
 refine pure_hp fun h nx K H0 hK => by_body tbl_ok dreg 100 fun hf => ?_
 rw [F229.go]
 refine H0.box (l := [I a, .nils]) rfl fun pa h1 nx1 H1 => ?_
 refine H1.box (l := [I b, .nils]) rfl fun pb h2 nx2 H2 => ?_
 simp only [sFx]
 rw [H2.load (k := 1) (i := 0 + 1) rfl rfl, sNilEq0]
 simp only [sG_tt, sFx]
 rw [H2.load (k := 0) (i := 0 + 1) rfl rfl, sNilEq0, sPick_t, sCond_t]
 rw [H2.load (k := 1) (i := 0) rfl rfl, H2.load (k := 0) (i := 0) rfl rfl]
 simp only [sLss]
 by_cases c1 : a < b
 ·simp only [c1, decide_true, sCond_t]
  exact hK _ _ _ _ _ H2 (frz_fixd rfl) (by rw [cmpI, if_pos c1])
 simp only [c1, decide_false, sCond_f]
 rw [H2.load (k := 1) (i := 0) rfl rfl, H2.load (k := 0) (i := 0) rfl rfl]
 simp only [sGtr]
 by_cases c2 : b < a
 ·simp only [c2, decide_true, sCond_t]
  exact hK _ _ _ _ _ H2 (frz_fixd rfl) (by rw [cmpI, if_neg c1, if_pos c2])
 ·simp only [c2, decide_false, sCond_f]
  exact hK _ _ _ _ _ H2 (frz_fixd rfl) (by rw [cmpI, if_neg c1, if_neg c2])
theorem size264 {a : Int} (ha : -9223372036854775807 ≤ a ∧ a ≤ 9223372036854775807) : Pure Tryz.prog B 264 [I a] (· = Wd a.natAbs) := by
 intro p h nx K hK
 refine by_body tbl_ok dreg 10 fun hf => ?_
 rw [F264.go]
 simp only [sLss]
 by_cases c : a < 0
 ·simp only [c, decide_true, sCond_t]
  rw [sNegI ha, sConvU (by omega)]
  exact hK _ (by congr 1; omega) hf
 ·simp only [c, decide_false, sCond_f]
  rw [sConvU (by omega)]
  exact hK _ (by congr 1; omega) hf
theorem sNeqBb {a b : Bool} {K : AV → OP} : sBin .neq .bool (.bool a) (.bool b) K = K (.bool (a != b)) := by cases a <;> cases b <;> exact nr rfl
theorem mul198s {a b : Int} (ha : -9223372036854775807 ≤ a ∧ a ≤ 9223372036854775807) (hb : -9223372036854775807 ≤ b ∧ b ≤ 9223372036854775807) (hab : (a * b).natAbs ≤ 9223372036854775807) : Pure Tryz.prog B 198 [sm a, sm b] (· = sm (a * b)) := by
 refine pure_hp fun h nx K H0 hK => by_body tbl_ok dreg 100 fun hf => ?_
 rw [F198.go]
 refine H0.box (l := [I a, .nils]) rfl fun pa h1 nx1 H1 => ?_
 refine H1.box (l := [I b, .nils]) rfl fun pb h2 nx2 H2 => ?_
 refine H2.alloc fun p h3 nx3 H3 => ?_
 simp only [sFx]
 rw [H3.load (k := 2) (i := 0 + 1) rfl rfl, sNilEq0]
 simp only [sG_tt, sFx]
 rw [H3.load (k := 1) (i := 0 + 1) rfl rfl, sNilEq0, sPick_t, sCond_t]
 rw [H3.load (k := 2) (i := 0) rfl rfl, H3.load (k := 1) (i := 0) rfl rfl]
 refine size264 ha _ _ _ _ ?_
 rintro _ rfl _
 rw [H3.load (k := 1) (i := 0) rfl rfl]
 simp only [sSame_refl]
 refine size264 hb _ _ _ _ ?_
 rintro _ rfl _
 refine mul263 (by omega) (by omega) _ _ _ _ ?_
 rintro _ rfl _
 rw [← Int.natAbs_mul]
 simp only [sExt0, sExt1]
 rw [Nat.div_eq_of_lt (by omega), Nat.mod_eq_of_lt (by omega)]
 simp only [sEql, Int.natCast_zero, decide_true, sG_tt, sLeq, show ((a * b).natAbs : Int) ≤ 9223372036854775807 by omega, sPick_t, sCond_t]
 rw [H3.load (k := 2) (i := 0) rfl rfl]
 simp only [sLss]
 rw [H3.load (k := 1) (i := 0) rfl rfl]
 simp only [sLss]
 rw [sNeqBb]
 by_cases c : (decide (a < 0) != decide (b < 0)) = true
 ·rw [c, sCond_t, sConvI (by omega), sNegI (by omega)]
  have e : -((a * b).natAbs : Int) = a * b := by
   have : a * b ≤ 0 := by
    by_cases c1 : a < 0 <;> by_cases c2 : b < 0 <;> simp [c1, c2] at c
    ·exact Int.mul_nonpos_of_nonpos_of_nonneg (by omega) (by omega)
    ·exact Int.mul_nonpos_of_nonneg_of_nonpos (by omega) (by omega)
   omega
  rw [e]
  exact ret_sm H3 (k := 0) rfl rfl fun _ _ _ H => hK _ _ _ _ _ H frz_sm rfl
 ·have c' : (decide (a < 0) != decide (b < 0)) = false := by simpa using c
  rw [c', sCond_f, F198.k1, sConvI (by omega)]
  have e : ((a * b).natAbs : Int) = a * b := by
   have : 0 ≤ a * b := by
    by_cases c1 : a < 0 <;> by_cases c2 : b < 0 <;> simp [c1, c2] at c'
    ·exact Int.mul_nonneg_of_nonpos_of_nonpos (by omega) (by omega)
    ·exact Int.mul_nonneg (by omega) (by omega)
   omega
  rw [e]
  exact ret_sm H3 (k := 0) rfl rfl fun _ _ _ H => hK _ _ _ _ _ H frz_sm rfl
theorem sq228 {a : Int} (ha : -3000000000 ≤ a ∧ a ≤ 3000000000) : Pure Tryz.prog B 228 [sm a, I 2] (· = sm (a * a)) := by
 have hsq : 0 ≤ a * a ∧ (a * a).natAbs ≤ 9000000000000000000 := by
  refine ⟨?_, ?_⟩
  ·rcases Int.le_total 0 a with q | q
   ·exact Int.mul_nonneg q q
   ·exact Int.mul_nonneg_of_nonpos_of_nonpos q q
  ·rw [Int.natAbs_mul]; exact Nat.mul_le_mul (show a.natAbs ≤ 3000000000 by omega) (show a.natAbs ≤ 3000000000 by omega)
 refine pure_hp fun h nx K H0 hK => by_body tbl_ok dreg 100 fun hf => ?_
 rw [F228.go]
 refine H0.box (l := [I a, .nils]) rfl fun pa h1 nx1 H1 => ?_
 refine H1.alloc fun p h2 nx2 H2 => ?_
 refine of187 _ _ _ _ ?_
 rintro _ rfl _
 refine H2.alloc fun q h3 nx3 H3 => ?_
 refine H3.storeN (l2 := [I 1, .nils]) (k := 0) rfl rfl rfl fun h4 H4 => ?_
 have an2 : ∀ K : AV → OP, sBin .and .int (I 2) (I 1) K = K (I 0) := fun K => sAndBit (m := 2) (by omega)
 have an1 : ∀ K : AV → OP, sBin .and .int (I 1) (I 1) K = K (I 1) := fun K => sAndBit (m := 1) (by omega)
 have sh2 : ∀ K : AV → OP, sBin .shr .int (I 2) (.int .u64 1) K = K (I 1) := fun K => sShrI (m := 2) (n := 1) (by omega)
 have sh1 : ∀ K : AV → OP, sBin .shr .int (I 1) (.int .u64 1) K = K (I 0) := fun K => sShrI (m := 1) (n := 1) (by omega)
 refine F228.L1 (fun m x1 h' nx' => (m = 2 ∧ x1 = I 2 ∧ h' = h4 ∧ nx' = nx3) ∨ (m = 1 ∧ x1 = I 1 ∧ Hp h h' nx' [.arr q [I 1, .nils], .arr p [I 0, .nils], .arr pa [I (a * a), .nils]]) ∨ (m = 0 ∧ x1 = I 0 ∧ Hp h h' nx' [.arr q [I (a * a), .nils], .arr p [I 0, .nils], .arr pa [I (a * a), .nils]])) (m := 2) (by omega) (.inl ⟨rfl, rfl, rfl, rfl⟩) ?_
 rintro m z1 z5 z6 z7 h5 nx5 R (⟨rfl, rfl, rfl, rfl⟩ | ⟨rfl, rfl, H5⟩ | ⟨rfl, rfl, H5⟩) hR
 ·simp only [sGtr, show (0 : Int) < 2 by omega, decide_true, sCond_t]
  rw [an2]
  simp only [sEql, show ¬ (0 : Int) = 1 by omega, decide_false, sCond_f]
  rw [F228.k7]
  simp only [sGtr, show (1 : Int) < 2 by omega, decide_true, sCond_t]
  rw [H4.loadN (k := 2) (n := 2) rfl rfl, H4.loadN (k := 2) (n := 2) rfl rfl]
  refine mul198s (a := a) (b := a) (by omega) (by omega) (by omega) _ _ _ _ ?_
  rintro _ rfl _
  refine H4.storeN (l2 := [I (a * a), .nils]) (k := 2) rfl rfl rfl fun h6 H6 => ?_
  rw [F228.k8, sh2]
  exact hR _ _ _ _ _ _ _ (by omega) (.inr (.inl ⟨rfl, rfl, H6⟩))
 ·simp only [sGtr, show (0 : Int) < 1 by omega, decide_true, sCond_t]
  rw [an1]
  simp only [sEql, decide_true, sCond_t]
  rw [H5.loadN (k := 0) (n := 2) rfl rfl, H5.loadN (k := 2) (n := 2) rfl rfl]
  refine mul198s (a := 1) (b := a * a) (by omega) (by omega) (by rw [Int.one_mul]; omega) _ _ _ _ ?_
  rintro _ rfl _
  rw [Int.one_mul]
  refine H5.storeN (l2 := [I (a * a), .nils]) (k := 0) rfl rfl rfl fun h6 H6 => ?_
  rw [F228.k7]
  simp only [sGtr, show ¬ (1 : Int) < 1 by omega, decide_false, sCond_f]
  rw [F228.k8, sh1]
  exact hR _ _ _ _ _ _ _ (by omega) (.inr (.inr ⟨rfl, rfl, H6⟩))
 ·simp only [sGtr, show ¬ (0 : Int) < 0 by omega, decide_false, sCond_f]
  rw [F228.k9, H5.loadN (k := 0) (n := 2) rfl rfl]
  refine H5.storeN (l2 := [I (a * a), .nils]) (k := 1) rfl rfl rfl fun h6 H6 => ?_
  rw [H6.loadN (k := 1) (n := 2) rfl rfl]
  exact hK _ _ _ _ _ H6 frz_sm rfl
end Go.Ev
namespace Go.Ev
open Go Go.Proofs
variable {B : Nat}
set_option maxRecDepth 100000
abbrev farL (x : Int) : Bool := decide (x < -999999999) || decide (999999999 < x)
theorem numbers102 {f : List Int} (hl : f.length ≤ 100000) : Pure Tryz.prog B 102 [encI f] (· = I (if f.any farL then 3 else 0)) := by
 intro p h nx K hK
 refine by_body tbl_ok dreg 10000000 fun hf => ?_
 rw [F102.go]
 refine F102.L1 (fun m z2 h' nx' => ∃ i : Nat, z2 = I i ∧ f.length - i = m ∧ i ≤ f.length ∧ h' = h ∧ nx' = nx ∧ (f.take i).any farL = false) (m := f.length) (by omega) ⟨0, rfl, rfl, by omega, rfl, rfl, rfl⟩ ?_
 rintro m z1 z2 z3 z4 h nx R ⟨i, rfl, rfl, hi, rfl, rfl, htk⟩ hR
 simp only [sLen_lst, sLss]
 by_cases hlt : i < f.length
 case neg =>
  simp only [show ¬ (i : Int) < (f.length : Int) by omega, decide_false, sCond_f]
  rw [F102.k8]
  rw [List.take_of_length_le (by omega)] at htk
  exact hK _ (by rw [htk]; rfl) hf
 simp only [show (i : Int) < (f.length : Int) by omega, decide_true, sCond_t]
 have hx : f[i]? = some f[i] := List.getElem?_eq_getElem hlt
 have hm := List.getElem_mem hlt
 have hs : (f.take (i + 1)).any farL = ((f.take i).any farL || farL f[i]) := by
  rw [List.take_add_one, hx, List.any_append]; simp
 rw [sIxL rfl hlt, ldL (getI hx)]
 simp only [sLss]
 by_cases c1 : f[i] < -999999999
 ·simp only [c1, decide_true, sG_tf, sPick_t, sCond_t]
  exact hK _ (by rw [List.any_eq_true.2 ⟨_, hm, by simp [c1]⟩]; rfl) hf
 simp only [c1, decide_false, sG_ff]
 rw [sIxL rfl hlt, ldL (getI hx)]
 simp only [sGtr, sPick_f]
 by_cases c2 : 999999999 < f[i]
 ·simp only [c2, decide_true, sCond_t]
  exact hK _ (by rw [List.any_eq_true.2 ⟨_, hm, by simp [c2]⟩]; rfl) hf
 simp only [c2, decide_false, sCond_f]
 rw [sAdd (by omega)]
 exact hR _ _ _ _ _ _ _ (by omega) ⟨i + 1, rfl, rfl, by omega, rfl, rfl, by rw [hs, htk]; simp [c1, c2]⟩
theorem numbers183 {f : List Int} (hl : f.length ≤ 100000) : Pure Tryz.prog B 183 [encI f] (· = I (if f.any farL then 3 else 0)) := by
 intro p h nx K hK
 refine by_body tbl_ok dreg 1000 fun hf => ?_
 rw [F183.go]
 refine from122 (by omega) _ _ _ _ ?_
 rintro _ rfl _
 exact hK _ rfl hf
end Go.Ev
namespace Go.Ev
open Go Go.Proofs
variable {B : Nat}
set_option maxRecDepth 100000
def lineS (l f : List Int) : Int := l.foldl (fun s c => s + f.getD c.toNat 0) 0
structure LnOk (l f : List Int) : Prop where
 len : l.length ≤ 1000
 rng : ∀ c ∈ l, 0 ≤ c ∧ c < (f.length : Int)
 bd : ∀ x ∈ f, -1000000000 ≤ x ∧ x ≤ 1000000000
theorem LnOk.get {l f : List Int} (h : LnOk l f) {c : Int} (hc : c ∈ l) : f[c.toNat]? = some (f.getD c.toNat 0) ∧ -1000000000 ≤ f.getD c.toNat 0 ∧ f.getD c.toNat 0 ≤ 1000000000 := by
 have := h.rng c hc
 have hx : f[c.toNat]? = some (f.getD c.toNat 0) := by rw [List.getD_eq_getElem?_getD, List.getElem?_eq_getElem (by omega)]; rfl
 exact ⟨hx, h.bd _ (List.mem_of_getElem? hx)⟩
theorem lineS_next {l f : List Int} {i : Nat} (h : i < l.length) : lineS (l.take (i + 1)) f = lineS (l.take i) f + f.getD l[i].toNat 0 := by
 rw [lineS, List.take_add_one, List.getElem?_eq_getElem h, List.foldl_append]; rfl
theorem lineS_bd {l f : List Int} (h : LnOk l f) : ∀ i, i ≤ l.length → -(1000000000 * (i : Int)) ≤ lineS (l.take i) f ∧ lineS (l.take i) f ≤ 1000000000 * (i : Int)
 | 0, _ => by simp [lineS]
 | i + 1, hi => by
  have ih := lineS_bd h i (by omega)
  have := (h.get (List.getElem_mem (show i < l.length by omega))).2
  rw [lineS_next (by omega)]
  omega
theorem sum219 {l f : List Int} (h0 : LnOk l f) : Pure Tryz.prog B 219 [encI l, encI f] (· = I (lineS l f)) := by
 intro p h nx K hK
 have hl := h0.len
 refine by_body tbl_ok dreg 10000 fun hf => ?_
 rw [F219.go]
 simp only [sLen_lst]
 refine F219.L1 (fun m x3 x7 h' nx' => ∃ i : Nat, x7 = I i ∧ x3 = I (lineS (l.take i) f) ∧ l.length - i = m ∧ i ≤ l.length ∧ h' = h ∧ nx' = nx) (m := l.length) (by omega) ⟨0, rfl, rfl, rfl, by omega, rfl, rfl⟩ ?_
 rintro m z3 z4 z7 z8 h nx R ⟨i, rfl, rfl, rfl, hi, rfl, rfl⟩ hR
 simp only [sLss]
 by_cases hlt : i < l.length
 case neg =>
  simp only [show ¬ (i : Int) < (l.length : Int) by omega, decide_false, sCond_f]
  rw [F219.k8, List.take_of_length_le (by omega)]
  exact hK _ rfl hf
 simp only [show (i : Int) < (l.length : Int) by omega, decide_true, sCond_t]
 have hx : l[i]? = some l[i] := List.getElem?_eq_getElem hlt
 have hr := h0.rng _ (List.getElem_mem hlt)
 obtain ⟨hg, hb⟩ := h0.get (List.getElem_mem hlt)
 have hbd := lineS_bd h0 i (by omega)
 rw [sIxL rfl hlt, ldL (getI hx), sIxL (i := l[i].toNat) (by omega) (by omega), ldL (getI hg), sAdd (by omega), sAdd (by omega)]
 exact hR _ _ _ _ _ _ _ (by omega) ⟨i + 1, rfl, by rw [lineS_next hlt], rfl, by omega, rfl, rfl⟩
def sumsL (lines : List (List Int)) (f : List Int) : List Int := lines.map fun l => lineS l f
theorem sumsL_next {lines : List (List Int)} {f : List Int} {i : Nat} (h : i < lines.length) : sumsL (lines.take (i + 1)) f = sumsL (lines.take i) f ++ [lineS lines[i] f] := by
 rw [sumsL, List.take_add_one, List.getElem?_eq_getElem h, List.map_append]; rfl
theorem sumsL_len (lines : List (List Int)) (f : List Int) : (sumsL lines f).length = lines.length := by simp [sumsL]
theorem sums139 {cells : Int} {lines : List (List Int)} {f : List Int} (hn : lines.length ≤ 1000) (h0 : ∀ l ∈ lines, LnOk l f) : Pure Tryz.prog B 139 [.agg [I cells, encT lines], encI f] (· = encI (sumsL lines f)) := by
 refine pure_hp fun h nx K H0 hK => by_body tbl_ok dreg 10000 fun hf => ?_
 rw [F139.go]
 refine H0.box (l := [I cells, encT lines]) rfl fun bx h1 nx1 H1 => ?_
 rw [sFx, H1.load (k := 0) (i := 0 + 1) rfl rfl]
 simp only [sLen_lst]
 refine F139.L1 (fun m x4 x8 h' nx' => ∃ (i : Nat) (o : Option Pa), x8 = I i ∧ x4 = rowV o 1 (sumsL (lines.take i) f).length ∧ lines.length - i = m ∧ i ≤ lines.length ∧ Hp h h' nx' [.gro o 1 (sumsL (lines.take i) f).length ((sumsL (lines.take i) f).map I), .arr bx [I cells, encT lines]]) (m := lines.length) (by omega) ⟨0, none, rfl, rfl, rfl, by omega, H1.addGro 1⟩ ?_
 rintro m z4 z5 z8 z9 h2 nx2 R ⟨i, o, rfl, rfl, rfl, hi, H2⟩ hR
 simp only [sLss]
 by_cases hlt : i < lines.length
 case neg =>
  simp only [show ¬ (i : Int) < (lines.length : Int) by omega, decide_false, sCond_f]
  rw [List.take_of_length_le (by omega)] at H2 ⊢
  rw [F139.k8]
  exact hK _ _ _ _ _ H2 (H2.frzGro (k := 0) rfl fun v hv => by obtain ⟨x, _, rfl⟩ := List.mem_map.1 hv; rfl) rfl
 simp only [show (i : Int) < (lines.length : Int) by omega, decide_true, sCond_t]
 have hx : lines[i]? = some lines[i] := List.getElem?_eq_getElem hlt
 have hlen : (sumsL (lines.take i) f).length = i := by rw [sumsL_len, List.length_take]; omega
 rw [sIxL rfl hlt, ldL (getT hx)]
 refine sum219 (h0 _ (List.getElem_mem hlt)) _ _ _ _ ?_
 rintro _ rfl _
 refine H2.bslice (l := [I (lineS lines[i] f)]) rfl fun tb h4 nx4 H4 => ?_
 refine H4.appN (k := 1) (o := o) (c := 1) (new := [I (lineS lines[i] f)]) rfl (HasArr.rd (l := [I (lineS lines[i] f)]) (n := 1) (H4.own _ (List.mem_cons_self ..)) rfl) rfl rfl (by decide) (by decide) (by omega) fun o' h5 nx5 _ H5 => ?_
 rw [sAdd (by omega)]
 refine hR _ _ _ _ _ _ _ (by omega) ⟨i + 1, o', rfl, by rw [sumsL_next hlt, List.length_append]; rfl, rfl, by omega, ?_⟩
 rw [sumsL_next hlt, List.length_append, List.map_append]
 exact H5.drop
end Go.Ev
namespace Go.Ev
open Go Go.Proofs
variable {B : Nat}
set_option maxRecDepth 100000
def difA (a : Int) : List Int → Nat → Int
 | [], _ => -1
 | x :: t, i => if x = a then difA a t (i + 1) else (i : Int)
def diffI (S : List Int) : Int := difA (S.getD 0 0) S 0
theorem difA_drop {a : Int} {S : List Int} {i k : Nat} (h : i < S.length) : difA a (S.drop i) k = if S[i] = a then difA a (S.drop (i + 1)) (k + 1) else (k : Int) := by
 rw [List.drop_eq_getElem_cons h]; rfl
theorem index184 {h0 h : T Blk} {nx p bx : Pa} {L : List Ob} {k : Nat} {S : List Int} {K : Kw Prop} {v : AV} (hl : S.length ≤ 100000) (H : Hp h0 h nx L) (hk : L[k]? = some (.arr bx [encI S]))
  (hK : K (I (diffI S)) h nx = .ok True) : (CS Tryz.prog B).fn 184 p [encI S, .fn 185 (.of 185) [.ptr bx 0]] h nx K = .ok True := by
 refine CS_fn_mono (p := .of 184) (K := K) (by_body tbl_ok dreg 1000000 fun hf => ?_) fun _ _ _ _ q => q
 rw [F184.go]
 simp only [sLen_lst]
 refine F184.L1 (fun m z5 h' nx' => ∃ i : Nat, z5 = I i ∧ S.length - i = m ∧ i ≤ S.length ∧ h' = h ∧ nx' = nx ∧ diffI S = difA (S.getD 0 0) (S.drop i) i) (m := S.length) (by omega) ⟨0, rfl, rfl, by omega, rfl, rfl, rfl⟩ ?_
 rintro m z2 z3 z5 z6 z7 h nx R ⟨i, rfl, rfl, hi, rfl, rfl, he⟩ hR
 simp only [sLss]
 by_cases hlt : i < S.length
 case neg =>
  simp only [show ¬ (i : Int) < (S.length : Int) by omega, decide_false, sCond_f]
  rw [F184.k8]
  rw [he, List.drop_of_length_le (by omega)] at hK
  exact hK
 simp only [show (i : Int) < (S.length : Int) by omega, decide_true, sCond_t]
 have hx : S[i]? = some S[i] := List.getElem?_eq_getElem hlt
 have hy : S[0]? = some (S.getD 0 0) := by rw [List.getD_eq_getElem?_getD, List.getElem?_eq_getElem (by omega)]; rfl
 rw [difA_drop hlt] at he
 rw [sIxL rfl hlt, ldL (getI hx), sCall_fn]
 refine CS_fn_mono (p := .of 185) (by_body tbl_ok dreg 9 fun _ => ?_) fun _ _ _ _ q => q
 show callFn tbl 9 _ (Pa.of 185) [I S[i], .ptr bx 0] _ _ _ = _
 rw [F185.go, H.load (k := k) (i := 0) hk rfl, sIxL (i := 0) (show (0 : Int) = ((0 : Nat) : Int) from rfl) (by omega), ldL (getI hy)]
 simp only [sNeq]
 by_cases c : S[i] = S.getD 0 0
 ·rw [if_pos c] at he
  simp only [c, decide_true, Bool.not_true, sCond_f]
  rw [sAdd (by omega)]
  exact hR _ _ _ _ _ _ _ _ (by omega) ⟨i + 1, rfl, rfl, by omega, rfl, rfl, he⟩
 ·rw [if_neg c] at he
  simp only [c, decide_false, Bool.not_false, sCond_t]
  rw [he] at hK
  exact hK
theorem differs95 {cells : Int} {lines : List (List Int)} {f : List Int} (hn : lines.length ≤ 1000) (h0 : ∀ l ∈ lines, LnOk l f) : Pure Tryz.prog B 95 [.agg [I cells, encT lines], encI f] (· = I (diffI (sumsL lines f))) := by
 refine pure_hp fun h nx K H0 hK => by_body tbl_ok dreg 1000 fun hf => ?_
 rw [F95.go]
 refine H0.box (l := [I cells, encT lines]) rfl fun bx h1 nx1 H1 => ?_
 rw [H1.loadN (k := 0) (n := 2) rfl rfl]
 refine sums139 hn h0 _ _ _ _ ?_
 rintro _ rfl _
 refine H1.alloc fun b8 h2 nx2 H2 => ?_
 refine H2.store (k := 0) rfl (by simp) rfl fun h3 H3 => ?_
 rw [H3.load (k := 0) (i := 0) rfl rfl]
 have hlen := sumsL_len lines f
 refine index184 (v := .nils) (by omega) H3 (k := 0) rfl ?_
 exact hK _ _ _ _ _ H3 (frz_fixd rfl) rfl
section
variable {cells : Int} {lines : List (List Int)} {f : List Int}
end
end Go.Ev
namespace Go.Ev
open Go Go.Proofs
noncomputable def okRun (J : Nat → List AV → T Blk → Option (AV × T Blk)) (f : Nat) (args : List AV) (res : AV) : Bool := match (callsF (fun _ => false) J tbl 1000 60).fn f (.of f) args .e .z endK with
 | .ok v => avEq v res
 | .no _ => false
theorem okRun_pure {J : Nat → List AV → T Blk → Option (AV × T Blk)} {f : Nat} {args : List AV} {res : AV} {B : Nat} (hJ : ∀ B, JOk Tryz.prog B J) (ha : nns args = true) (h : okRun J f args res = true) : Pure Tryz.prog B f args (· = res) := by
 unfold okRun at h
 cases hq : (callsF (fun _ => false) J tbl 1000 60).fn f (.of f) args .e .z endK with
 | no n => rw [hq] at h; cases h
 | ok v =>
  rw [hq] at h
  have e := avEq_eq h
  subst e
  exact closed_pureF tbl_ok mixed hJ ha hq
theorem nns_si (s : List UInt8) (a : Int) : nns [.str s, I a] = true := rfl
def rowsL (r c : Nat) : List (List Int) := (List.range r).map fun i => (List.range c).map fun k => ((c * i + k : Nat) : Int)
def colsL (r c : Nat) : List (List Int) := (List.range c).map fun k => (List.range r).map fun i => ((c * i + k : Nat) : Int)
def dedL (ls : List (List Int)) : List (List Int) := ls.foldl (fun out l => if out.contains l then out else out ++ [l]) []
def diagL (n : Nat) (d : Int) (k : Nat) : List Int := (List.range n).map fun (r : Nat) => (n : Int) * (r : Int) + (((k : Int) + d * (r : Int)) % (n : Int))
def sqL (k : Nat) (n : Nat) : List (List Int) :=
 dedL (rowsL n n ++ colsL n n ++ (if k = 0 then [] else [diagL n 1 0, diagL n (-1) (n - 1)]) ++ (if k = 2 then (List.range n).map (diagL n 1) ++ (List.range n).map (diagL n (-1)) else []))
def kindS (k : Nat) : List UInt8 := if k = 0 then [115, 101, 109, 105, 109, 97, 103, 105, 99] else if k = 1 then [109, 97, 103, 105, 99] else [112, 97, 110, 100, 105, 97, 103, 111, 110, 97, 108]
end Go.Ev
namespace Go.Ev
open Go Go.Proofs
set_option maxRecDepth 100000
noncomputable def ok152 (k : Nat) (l : List Nat) : Bool := l.all fun n => okRun hookJ 152 [.str (kindS k), I (n : Int)] (.agg [I ((n * n : Nat) : Int), encT (sqL k n)])
theorem ok152_pure {k : Nat} {l : List Nat} (h : ok152 k l = true) {n : Nat} {B : Nat} (hn : n ∈ l) : Pure Tryz.prog B 152 [.str (kindS k), I (n : Int)] (· = .agg [I ((n * n : Nat) : Int), encT (sqL k n)]) :=
 okRun_pure (fun _ => hookJ_ok) (nns_si _ _) (List.all_eq_true.1 h n hn)
theorem t152_0 : ok152 0 [1, 2, 3, 4, 5, 6] = true := by kernel_rfl
theorem t152_1 : ok152 1 [1, 2, 3, 4, 5, 6] = true := by kernel_rfl
theorem t152_2 : ok152 2 [1, 2, 3, 4, 5, 6] = true := by kernel_rfl
end Go.Ev
namespace Go.Ev
open Go Go.Proofs
set_option maxRecDepth 100000
variable {N : Nat} {C : Calls Prop} {K0 : Kw Prop} {K R : Ks Prop} {h : T Blk} {nx : Pa} {x0 x1 x2 x3 x4 x5 x6 x7 a0 a1 : AV}
theorem F141.tab : T.get none (.of 141) tbl = some F141 := by kernel_rfl
theorem F141.go : callFn tbl N C (.of 141) [] h nx K0 =
 sBuild [(.str []), .nilf] [(0, 1, (.str [110, 111, 114, 109, 97, 108])), (1, 1, (.fn 220 (.of 220) []))] fun v1 =>
 sBuild [(.str []), .nilf] [(0, 1, (.str [115, 101, 109, 105, 109, 97, 103, 105, 99])), (1, 1, (.fn 221 (.of 221) []))] fun v2 =>
 sBuild [(.str []), .nilf] [(0, 1, (.str [109, 97, 103, 105, 99])), (1, 1, (.fn 222 (.of 222) []))] fun v3 =>
 sBuild [(.str []), .nilf] [(0, 1, (.str [112, 97, 110, 100, 105, 97, 103, 111, 110, 97, 108])), (1, 1, (.fn 223 (.of 223) []))] fun v4 =>
 sBuild [(.str []), .nilf] [(0, 1, (.str [97, 115, 115, 111, 99, 105, 97, 116, 105, 118, 101])), (1, 1, (.fn 224 (.of 224) []))] fun v5 =>
 sBuild [(.str []), .nilf] [(0, 1, (.str [109, 111, 115, 116, 45, 112, 101, 114, 102, 101, 99, 116])), (1, 1, (.fn 225 (.of 225) []))] fun v6 =>
 sBuild [(.str []), .nilf] [(0, 1, (.str [98, 111, 114, 100, 101, 114, 101, 100])), (1, 1, (.fn 226 (.of 226) []))] fun v7 =>
 sBuild [(.str []), .nilf] [(0, 1, (.str [98, 105, 109, 97, 103, 105, 99])), (1, 1, (.fn 227 (.of 227) []))] fun v8 =>
 sBslice 2 8 [(.str []), .nilf] [(0, 2, v1), (2, 2, v2), (4, 2, v3), (6, 2, v4), (8, 2, v5), (10, 2, v6), (12, 2, v7), (14, 2, v8)] h nx fun v9 h10 n11 =>
 K0 v9 h10 n11 := by
 rw [callFn_of F141.tab]; kernel_rfl
theorem F142.tab : T.get none (.of 142) tbl = some F142 := by kernel_rfl
theorem F142.go : callFn tbl N C (.of 142) [a0] h nx K0 =
 sBin .eql (.nil .sl) a0 .nils fun v1 =>
 sCond v1 (K0 .nils h nx) (sBslice 1 0 [(I 0)] [] h nx fun v2 h3 n4 =>
 sApp 1 8 v2 a0 h3 n4 fun v5 h6 n7 =>
 K0 v5 h6 n7) := by
 rw [callFn_of F142.tab]; kernel_rfl
theorem F144.tab : T.get none (.of 144) tbl = some F144 := by kernel_rfl
theorem F144.go : callFn tbl N C (.of 144) [a0, a1] h nx K0 =
 sBox a0 h nx fun v1 h2 n3 =>
 sFaddr 0 v1 fun v4 =>
 sLoad v4 h2 fun v5 =>
 sFaddr 1 v1 fun v6 =>
 sLoad v6 h2 fun v7 =>
 C.fn 152 (.of 152) [a1, v5] h2 n3 fun v8 h9 n10 =>
 (sLoad v6 h9 fun v16 => sSame v16 v7 ((sFaddr 1 v1 fun v15 => sSame v15 v6 (C.fn 95 (.of 95) [v8, v7] h9 n10 fun v11 h12 n13 =>
 sBin .lss .int v11 (I 0) fun v14 =>
 K0 v14 h12 n13)))) := by
 rw [callFn_of F144.tab]; kernel_rfl
theorem F272.g1_eq (X2 : IR) (O : Outs Prop) (t : T AV) : IR.run (F272.g1 X2) C N O K t h nx = IR.run X2 C N (O.blk 0 K) K t h nx := by kernel_rfl
theorem F272.tab : T.get none (.of 272) tbl = some F272 := by kernel_rfl
theorem F272.go : callFn tbl N C (.of 272) [a0, a1] h nx K0 =
 IR.run F272.b1 C N (fnO F272.res K0) (IR.run F272.b8 C N (fnO F272.res K0) (retK F272.res K0)) (F272.fr a0 a1 (.bool false) .undef a0 (I 0) .undef .undef) h nx := by
 rw [callFn_of F272.tab]; kernel_rfl
theorem F272.L1 (Inv : Nat → AV → T Blk → Pa → Prop) {m : Nat} (hm : m < N) (hi : Inv m x5 h nx)
  (step : ∀ (m : Nat) (z2 z3 z5 z6 z7 : AV) (h : T Blk) (nx : Pa) (R : Ks Prop), Inv m z5 h nx → (∀ (m' : Nat) (w2 w3 w5 w6 w7 : AV) (h' : T Blk) (nx' : Pa), m' < m → Inv m' w5 h' nx' → R (F272.fr x0 x1 w2 w3 x4 w5 w6 w7) h' nx' = .ok True) →
   (sBin .lss .int z5 x4 fun v1 =>
 sCond v1 (sCall C x1 [z5] h nx fun v2 h3 n4 =>
 sCall C x1 [(I 0)] h3 n4 fun v5 h6 n7 =>
 sBin .neq .int v2 v5 fun v8 =>
 sCond v8 (K0 (.bool false) h6 n7) (sBin .add .int z5 (I 1) fun v9 =>
 R (F272.fr x0 x1 z2 z5 x4 v9 v1 v8) h6 n7)) (K (F272.fr x0 x1 z2 z3 x4 z5 v1 z7) h nx)) = .ok True) :
  IR.run F272.b1 C N (fnO F272.res K0) K (F272.fr x0 x1 x2 x3 x4 x5 x6 x7) h nx = .ok True := by
 rw [F272.b1, F272.g1_eq, F272.b2]
 refine loop_ok (fun m tm h nx => ∃ z2 z3 z5 z6 z7, tm = (F272.fr x0 x1 z2 z3 x4 z5 z6 z7) ∧ Inv m z5 h nx) ?_ hm ⟨_, _, _, _, _, rfl, hi⟩
 rintro m tm h nx R ⟨z2, z3, z5, z6, z7, rfl, hi⟩ hR
 refine Eq.trans ?_ (step m z2 z3 z5 z6 z7 h nx R hi fun m' w2 w3 w5 w6 w7 h' nx' hlt hi' => hR m' _ h' nx' hlt ⟨_, _, _, _, _, rfl, hi'⟩)
 kernel_rfl
theorem F272.k8 : IR.run F272.b8 C N (fnO F272.res K0) K (F272.fr x0 x1 x2 x3 x4 x5 x6 x7) h nx =
 K0 (.bool true) h nx := by kernel_rfl
theorem F220.tab : T.get none (.of 220) tbl = some F220 := by kernel_rfl
theorem F220.go : callFn tbl N C (.of 220) [a0] h nx K0 =
 sBox a0 h nx fun v1 h2 n3 =>
 sFaddr 1 v1 fun v4 =>
 sLoad v4 h2 fun v5 =>
 C.fn 136 (.of 136) [v5] h2 n3 fun v6 h7 n8 =>
 K0 v6 h7 n8 := by
 rw [callFn_of F220.tab]; kernel_rfl
theorem F221.tab : T.get none (.of 221) tbl = some F221 := by kernel_rfl
theorem F221.go : callFn tbl N C (.of 221) [a0] h nx K0 =
 sBox a0 h nx fun v1 h2 n3 =>
 sLoadN 2 v1 h2 fun v4 =>
 C.fn 144 (.of 144) [v4, (.str [115, 101, 109, 105, 109, 97, 103, 105, 99])] h2 n3 fun v5 h6 n7 =>
 K0 v5 h6 n7 := by
 rw [callFn_of F221.tab]; kernel_rfl
theorem F222.tab : T.get none (.of 222) tbl = some F222 := by kernel_rfl
theorem F222.go : callFn tbl N C (.of 222) [a0] h nx K0 =
 sBox a0 h nx fun v1 h2 n3 =>
 sLoadN 2 v1 h2 fun v4 =>
 C.fn 144 (.of 144) [v4, (.str [109, 97, 103, 105, 99])] h2 n3 fun v5 h6 n7 =>
 K0 v5 h6 n7 := by
 rw [callFn_of F222.tab]; kernel_rfl
theorem F223.tab : T.get none (.of 223) tbl = some F223 := by kernel_rfl
theorem F223.go : callFn tbl N C (.of 223) [a0] h nx K0 =
 sBox a0 h nx fun v1 h2 n3 =>
 sLoadN 2 v1 h2 fun v4 =>
 C.fn 144 (.of 144) [v4, (.str [112, 97, 110, 100, 105, 97, 103, 111, 110, 97, 108])] h2 n3 fun v5 h6 n7 =>
 K0 v5 h6 n7 := by
 rw [callFn_of F223.tab]; kernel_rfl
theorem F227.tab : T.get none (.of 227) tbl = some F227 := by kernel_rfl
theorem F227.go : callFn tbl N C (.of 227) [a0] h nx K0 =
 sBox a0 h nx fun v1 h2 n3 =>
 sLoadN 2 v1 h2 fun v4 =>
 C.fn 144 (.of 144) [v4, (.str [109, 97, 103, 105, 99])] h2 n3 fun v5 h6 n7 =>
 sG v5 true (fun k => sLoadN 2 v1 h6 k) fun v8 =>
 sGW v5 true (fun k => C.fn 145 (.of 145) [v8, (I 2)] h6 n7 k) h6 n7 fun v9 h10 n11 =>
 sPick v5 v9 (.bool false) fun v12 =>
 K0 v12 h10 n11 := by
 rw [callFn_of F227.tab]; kernel_rfl
theorem F224.tab : T.get none (.of 224) tbl = some F224 := by kernel_rfl
theorem F224.go : callFn tbl N C (.of 224) [a0] h nx K0 =
 sBox a0 h nx fun v1 h2 n3 =>
 sLoadN 2 v1 h2 fun v4 =>
 C.fn 144 (.of 144) [v4, (.str [109, 97, 103, 105, 99])] h2 n3 fun v5 h6 n7 =>
 sG v5 true (fun k => sFaddr 1 v1 k) fun v8 =>
 sG v5 true (fun k => sLoad v8 h6 k) fun v9 =>
 sG v5 true (fun k => sLen v9 k) fun v10 =>
 sG v5 true (fun k => k (.fn 273 (.of 273) [v1])) fun v11 =>
 sGW v5 true (fun k => C.fn 272 (.of 272) [v10, v11] h6 n7 k) h6 n7 fun v12 h13 n14 =>
 sPick v5 v12 (.bool false) fun v15 =>
 K0 v15 h13 n14 := by
 rw [callFn_of F224.tab]; kernel_rfl
theorem F273.tab : T.get none (.of 273) tbl = some F273 := by kernel_rfl
theorem F273.go : callFn tbl N C (.of 273) [a0, a1] h nx K0 =
 sFaddr 1 a1 fun v1 =>
 sLoad v1 h fun v2 =>
 sIaddr 1 v2 a0 fun v3 =>
 sLoad v3 h fun v4 =>
 sFaddr 1 a1 fun v5 =>
 sLoad v5 h fun v6 =>
 sFaddr 1 a1 fun v7 =>
 sLoad v7 h fun v8 =>
 sLen v8 fun v9 =>
 sBin .sub .int v9 (I 1) fun v10 =>
 sBin .sub .int v10 a0 fun v11 =>
 sIaddr 1 v6 v11 fun v12 =>
 sLoad v12 h fun v13 =>
 sBin .add .int v4 v13 fun v14 =>
 K0 v14 h nx := by
 rw [callFn_of F273.tab]; kernel_rfl
end Go.Ev
namespace Go.Ev
open Go Go.Proofs
variable {B : Nat}
set_option maxRecDepth 100000
def SqOk (n : Nat) : Prop := (1 ≤ n ∧ n ≤ 8) ∧ ∀ k, k < 3 → ∀ B, Pure Tryz.prog B 152 [.str (kindS k), I (n : Int)] (· = .agg [I ((n * n : Nat) : Int), encT (sqL k n)])
theorem sq_ok {n : Nat} (h1 : 1 ≤ n) (h2 : n ≤ 6) : SqOk n := by
 refine ⟨by omega, fun k hk B => ?_⟩
 have hm : n ∈ [1, 2, 3, 4, 5, 6] := by simp; omega
 match k, hk with
 | 0, _ => exact ok152_pure t152_0 hm
 | 1, _ => exact ok152_pure t152_1 hm
 | 2, _ => exact ok152_pure t152_2 hm
def lineIn (n : Nat) (l : List Int) : Bool := decide (l.length ≤ 8) && l.all fun c => decide (0 ≤ c) && decide (c < ((n * n : Nat) : Int))
theorem sq_lines : ((List.range 3).all fun k => (List.range 9).all fun n => decide ((sqL k n).length ≤ 100) && (sqL k n).all (lineIn n)) = true := by decide +kernel
theorem sq_in {k n : Nat} (hk : k < 3) (hn : n ≤ 8) : (sqL k n).length ≤ 100 ∧ ∀ l ∈ sqL k n, l.length ≤ 8 ∧ ∀ c ∈ l, 0 ≤ c ∧ c < ((n * n : Nat) : Int) := by
 have h := List.all_eq_true.1 (List.all_eq_true.1 sq_lines k (List.mem_range.2 hk)) n (List.mem_range.2 (by omega))
 simp only [Bool.and_eq_true, decide_eq_true_eq, List.all_eq_true, lineIn] at h
 exact h
structure FillOk (n : Nat) (f : List Int) : Prop where
 len : f.length = n * n
 bd : ∀ x ∈ f, -1000000000 ≤ x ∧ x ≤ 1000000000
theorem FillOk.ln {n k : Nat} {f : List Int} (hf : FillOk n f) (hk : k < 3) (hn : n ≤ 8) : ∀ l ∈ sqL k n, LnOk l f := fun l hl => by
 obtain ⟨h1, h2⟩ := (sq_in hk hn).2 l hl
 exact ⟨by omega, fun c hc => by rw [hf.len]; exact h2 c hc, hf.bd⟩
def mg (k n : Nat) (f : List Int) : Bool := decide (diffI (sumsL (sqL k n) f) < 0)
theorem is144 {n k : Nat} {f : List Int} (hs : SqOk n) (hk : k < 3) (hf : FillOk n f) : Pure Tryz.prog B 144 [.agg [I (n : Int), encI f], .str (kindS k)] (· = .bool (mg k n f)) := by
 refine pure_hp fun h nx K H0 hK => by_body tbl_ok dreg 100 fun hf' => ?_
 rw [F144.go]
 refine H0.box (l := [I (n : Int), encI f]) rfl fun bx h1 nx1 H1 => ?_
 simp only [sFx]
 rw [H1.load (k := 0) (i := 0) rfl rfl, H1.load (k := 0) (i := 0 + 1) rfl rfl]
 refine hs.2 k hk B _ _ _ _ ?_
 rintro _ rfl _
 rw [H1.load (k := 0) (i := 0 + 1) rfl rfl]
 simp only [sSame_refl]
 refine differs95 (by have := (sq_in hk hs.1.2).1; omega) (hf.ln hk hs.1.2) _ _ _ _ ?_
 rintro _ rfl _
 simp only [sLss]
 exact hK _ _ _ _ _ H1 (frz_fixd rfl) rfl
theorem same272 {h : T Blk} {nx p q : Pa} {g : Nat} {cap : List AV} {n : Nat} {v : Nat → Int} {K : Kw Prop} (hn : n ≤ 1000000) (h0 : n = 0 ∨ 0 < n) (hcl : ∀ i, i < n → ∀ K : Kw Prop, K (I (v i)) h nx = .ok True → (CS Tryz.prog B).fn g q (I (i : Int) :: cap) h nx K = .ok True)
  (hK : K (.bool (decide (∀ i, i < n → v i = v 0))) h nx = .ok True) : (CS Tryz.prog B).fn 272 p [I (n : Int), .fn g q cap] h nx K = .ok True := by
 refine CS_fn_mono (p := .of 272) (K := K) (by_body tbl_ok dreg 10000000 fun hf => ?_) fun _ _ _ _ q => q
 rw [F272.go]
 refine F272.L1 (fun m x5 h' nx' => ∃ i : Nat, x5 = I i ∧ n - i = m ∧ i ≤ n ∧ h' = h ∧ nx' = nx ∧ ∀ j, j < i → v j = v 0) (m := n) (by omega) ⟨0, rfl, rfl, by omega, rfl, rfl, fun j hj => by omega⟩ ?_
 rintro m z2 z3 z5 z6 z7 h nx R ⟨i, rfl, rfl, hi, rfl, rfl, hv⟩ hR
 simp only [sLss]
 by_cases hlt : i < n
 case neg =>
  simp only [show ¬ (i : Int) < (n : Int) by omega, decide_false, sCond_f]
  rw [F272.k8]
  rw [decide_eq_true (fun j hj => hv j (by omega))] at hK
  exact hK
 simp only [show (i : Int) < (n : Int) by omega, decide_true, sCond_t]
 rw [sCall_fn]
 refine hcl i hlt _ ?_
 rw [sCall_fn]
 refine hcl 0 (by omega) _ ?_
 simp only [sNeq]
 by_cases c : v i = v 0
 ·simp only [c, decide_true, Bool.not_true, sCond_f]
  rw [sAdd (by omega)]
  refine hR _ _ _ _ _ _ _ _ (by omega) ⟨i + 1, rfl, rfl, by omega, rfl, rfl, fun j hj => ?_⟩
  by_cases e : j = i
  ·rw [e, c]
  ·exact hv j (by omega)
 ·simp only [c, decide_false, Bool.not_false, sCond_t]
  rw [decide_eq_false (fun q => c (q i hlt))] at hK
  exact hK
def asc (n : Nat) (f : List Int) : Bool := mg 1 n f && decide (∀ i, i < f.length → f.getD i 0 + f.getD (f.length - 1 - i) 0 = f.getD 0 0 + f.getD (f.length - 1 - 0) 0)
theorem getD_of {f : List Int} {i : Nat} (h : i < f.length) : f[i]? = some (f.getD i 0) := by
 rw [List.getD_eq_getElem?_getD, List.getElem?_eq_getElem h]; rfl
theorem FillOk.get {n : Nat} {f : List Int} (hf : FillOk n f) {i : Nat} (h : i < f.length) : -1000000000 ≤ f.getD i 0 ∧ f.getD i 0 ≤ 1000000000 := hf.bd _ (List.mem_of_getElem? (getD_of h))
theorem sGW_ftN (op : KW3 → OP) (h : T Blk) (nx : Pa) (k : KW3) : sGW (.bool false) true op h nx k = k .undef h nx := nr rfl
theorem sGW_ttN (op : KW3 → OP) (h : T Blk) (nx : Pa) (k : KW3) : sGW (.bool true) true op h nx k = op k := nr rfl
theorem asc224 {n : Nat} {f : List Int} (hs : SqOk n) (hf : FillOk n f) : Pure Tryz.prog B 224 [.agg [I (n : Int), encI f]] (· = .bool (asc n f)) := by
 refine pure_hp fun h nx K H0 hK => by_body tbl_ok dreg 100 fun hf' => ?_
 have hlen : f.length ≤ 64 := by rw [hf.len]; exact Nat.mul_le_mul hs.1.2 hs.1.2
 rw [F224.go]
 refine H0.box (l := [I (n : Int), encI f]) rfl fun bx h1 nx1 H1 => ?_
 rw [H1.loadN (k := 0) (n := 2) rfl rfl]
 refine is144 (k := 1) hs (by omega) hf _ _ _ _ ?_
 rintro _ rfl _
 cases c : mg 1 n f with
 | false =>
  simp only [sG_ft, sPick_f, sGW_ftN]
  exact hK _ _ _ _ _ H1 (frz_fixd rfl) (by rw [asc, c]; rfl)
 | true =>
  simp only [sG_tt, sGW_ttN, sFx]
  rw [H1.load (k := 0) (i := 0 + 1) rfl rfl]
  simp only [sLen_lst]
  refine same272 (v := fun i => f.getD i 0 + f.getD (f.length - 1 - i) 0) (by omega) (by omega) (fun i hi K hK => ?_) ?_
  ·refine CS_fn_mono (p := .of 273) (by_body tbl_ok dreg 9 fun _ => ?_) fun _ _ _ _ q => q
   show callFn tbl 9 _ (Pa.of 273) [I (i : Int), .ptr bx 0] _ _ _ = _
   rw [F273.go]
   simp only [sFx]
   have b1 := hf.get hi
   have b2 := hf.get (i := f.length - 1 - i) (by omega)
   rw [H1.load (k := 0) (i := 0 + 1) rfl rfl, sIxL rfl hi, ldL (getI (getD_of hi)), H1.load (k := 0) (i := 0 + 1) rfl rfl, H1.load (k := 0) (i := 0 + 1) rfl rfl]
   simp only [sLen_lst]
   rw [sSub (by omega), sSub (by omega), sIxL (i := f.length - 1 - i) (by omega) (by omega), ldL (getI (getD_of (by omega))), sAdd (by omega)]
   exact hK
  ·simp only [sPick_t]
   exact hK _ _ _ _ _ H1 (frz_fixd rfl) (by rw [asc, c, Bool.true_and])
end Go.Ev
namespace Go.Ev
open Go Go.Proofs
set_option maxRecDepth 100000
variable {N : Nat} {C : Calls Prop} {K0 : Kw Prop} {K R : Ks Prop} {h : T Blk} {nx : Pa} {x0 x1 x2 x3 x4 x5 a0 a1 a2 : AV}
theorem F225.tab : T.get none (.of 225) tbl = some F225 := by kernel_rfl
theorem F225.go : callFn tbl N C (.of 225) [a0] h nx K0 =
 sBox a0 h nx fun v1 h2 n3 =>
 sFaddr 0 v1 fun v4 =>
 sLoad v4 h2 fun v5 =>
 sBin .rem .int v5 (I 2) fun v6 =>
 sBin .eql .int v6 (I 1) fun v7 =>
 sG v7 false (fun k => sLoadN 2 v1 h2 k) fun v8 =>
 sGW v7 false (fun k => C.fn 144 (.of 144) [v8, (.str [112, 97, 110, 100, 105, 97, 103, 111, 110, 97, 108])] h2 n3 k) h2 n3 fun v9 h10 n11 =>
 sG v7 false (fun k => sNot v9 k) fun v12 =>
 sPick v7 (.bool true) v12 fun v13 =>
 sCond v13 (K0 (.bool false) h10 n11) (sAlloc [.nilf] h10 n11 fun v14 h15 n16 =>
 sStore 1 v14 (.fn 274 (.of 274) [v1]) h15 n16 fun v17 h18 n19 =>
 sFaddr 1 v1 fun v20 =>
 sLoad v20 h18 fun v21 =>
 sLen v21 fun v22 =>
 C.fn 272 (.of 272) [v22, (.fn 275 (.of 275) [v1, v14])] h18 n19 fun v23 h24 n25 =>
 sG v23 true (fun k => sFaddr 1 v1 k) fun v26 =>
 sG v23 true (fun k => sLoad v26 h24 k) fun v27 =>
 sG v23 true (fun k => sLen v27 k) fun v28 =>
 sG v23 true (fun k => k (.fn 276 (.of 276) [v1, v14])) fun v29 =>
 sGW v23 true (fun k => C.fn 272 (.of 272) [v28, v29] h24 n25 k) h24 n25 fun v30 h31 n32 =>
 sPick v23 v30 (.bool false) fun v33 =>
 K0 v33 h31 n32) := by
 rw [callFn_of F225.tab]; kernel_rfl
theorem F274.tab : T.get none (.of 274) tbl = some F274 := by kernel_rfl
theorem F274.go : callFn tbl N C (.of 274) [a0, a1, a2] h nx K0 =
 sFaddr 1 a2 fun v1 =>
 sLoad v1 h fun v2 =>
 sFaddr 0 a2 fun v3 =>
 sLoad v3 h fun v4 =>
 sBin .rem .int a0 v4 fun v5 =>
 sFaddr 0 a2 fun v6 =>
 sLoad v6 h fun v7 =>
 sBin .mul .int v5 v7 fun v8 =>
 sFaddr 0 a2 fun v9 =>
 sLoad v9 h fun v10 =>
 sBin .rem .int a1 v10 fun v11 =>
 sBin .add .int v8 v11 fun v12 =>
 sIaddr 1 v2 v12 fun v13 =>
 sLoad v13 h fun v14 =>
 K0 v14 h nx := by
 rw [callFn_of F274.tab]; kernel_rfl
theorem F275.tab : T.get none (.of 275) tbl = some F275 := by kernel_rfl
theorem F275.go : callFn tbl N C (.of 275) [a0, a1, a2] h nx K0 =
 sFaddr 0 a1 fun v1 =>
 sLoad v1 h fun v2 =>
 sBin .quo .int a0 v2 fun v3 =>
 sFaddr 0 a1 fun v4 =>
 sLoad v4 h fun v5 =>
 sBin .rem .int a0 v5 fun v6 =>
 sLoad a2 h fun v7 =>
 sLoad a2 h fun v8 =>
 sBin .add .int v6 (I 1) fun v9 =>
 sLoad a2 h fun v10 =>
 sBin .add .int v3 (I 1) fun v11 =>
 sLoad a2 h fun v12 =>
 sBin .add .int v3 (I 1) fun v13 =>
 sBin .add .int v6 (I 1) fun v14 =>
 sCall C v7 [v3, v6] h nx fun v15 h16 n17 =>
 (sBin .add .int v6 (I 1) fun v47 => sSame v47 v14 (sSame v6 v6 ((sBin .add .int v3 (I 1) fun v46 => sSame v46 v13 (sSame v3 v3 ((sLoad a2 h16 fun v45 => sSame v45 v12 (sSame v6 v6 ((sBin .add .int v3 (I 1) fun v44 => sSame v44 v11 (sSame v3 v3 ((sLoad a2 h16 fun v43 => sSame v43 v10 ((sBin .add .int v6 (I 1) fun v42 => sSame v42 v9 (sSame v6 v6 (sSame v3 v3 ((sLoad a2 h16 fun v41 => sSame v41 v8 (sCall C v8 [v3, v9] h16 n17 fun v18 h19 n20 =>
 (sBin .add .int v6 (I 1) fun v40 => sSame v40 v14 (sSame v6 v6 ((sBin .add .int v3 (I 1) fun v39 => sSame v39 v13 (sSame v3 v3 ((sLoad a2 h19 fun v38 => sSame v38 v12 (sSame v6 v6 ((sBin .add .int v3 (I 1) fun v37 => sSame v37 v11 (sSame v3 v3 ((sLoad a2 h19 fun v36 => sSame v36 v10 (sBin .add .int v15 v18 fun v21 =>
 sCall C v10 [v11, v6] h19 n20 fun v22 h23 n24 =>
 (sBin .add .int v15 v18 fun v35 => sSame v35 v21 ((sBin .add .int v6 (I 1) fun v34 => sSame v34 v14 (sSame v6 v6 ((sBin .add .int v3 (I 1) fun v33 => sSame v33 v13 (sSame v3 v3 ((sLoad a2 h23 fun v32 => sSame v32 v12 (sBin .add .int v21 v22 fun v25 =>
 sCall C v12 [v13, v14] h23 n24 fun v26 h27 n28 =>
 (sBin .add .int v21 v22 fun v31 => sSame v31 v25 ((sBin .add .int v15 v18 fun v30 => sSame v30 v21 (sBin .add .int v25 v26 fun v29 =>
 K0 v29 h27 n28)))))))))))))))))))))))))))))))))))))))))))))))) := by
 rw [callFn_of F275.tab]; kernel_rfl
theorem F276.tab : T.get none (.of 276) tbl = some F276 := by kernel_rfl
theorem F276.go : callFn tbl N C (.of 276) [a0, a1, a2] h nx K0 =
 sFaddr 0 a1 fun v1 =>
 sLoad v1 h fun v2 =>
 sBin .quo .int a0 v2 fun v3 =>
 sFaddr 0 a1 fun v4 =>
 sLoad v4 h fun v5 =>
 sBin .rem .int a0 v5 fun v6 =>
 sLoad a2 h fun v7 =>
 sLoad a2 h fun v8 =>
 sFaddr 0 a1 fun v9 =>
 sLoad v9 h fun v10 =>
 sBin .quo .int v10 (I 2) fun v11 =>
 sBin .add .int v3 v11 fun v12 =>
 sFaddr 0 a1 fun v13 =>
 sLoad v13 h fun v14 =>
 sBin .quo .int v14 (I 2) fun v15 =>
 sBin .add .int v6 v15 fun v16 =>
 sCall C v7 [v3, v6] h nx fun v17 h18 n19 =>
 (sBin .add .int v6 v15 fun v32 => sSame v32 v16 ((sBin .quo .int v14 (I 2) fun v31 => sSame v31 v15 ((sLoad v13 h18 fun v30 => sSame v30 v14 ((sFaddr 0 a1 fun v29 => sSame v29 v13 (sSame v6 v6 ((sBin .add .int v3 v11 fun v28 => sSame v28 v12 ((sBin .quo .int v10 (I 2) fun v27 => sSame v27 v11 ((sLoad v9 h18 fun v26 => sSame v26 v10 ((sFaddr 0 a1 fun v25 => sSame v25 v9 (sSame v3 v3 ((sLoad a2 h18 fun v24 => sSame v24 v8 (sCall C v8 [v12, v16] h18 n19 fun v20 h21 n22 =>
 sBin .add .int v17 v20 fun v23 =>
 K0 v23 h21 n22)))))))))))))))))))) := by
 rw [callFn_of F276.tab]; kernel_rfl
theorem F226.g2_eq (X3 : IR) (O : Outs Prop) (t : T AV) : IR.run (F226.g2 X3) C N O K t h nx = IR.run X3 C N (O.blk 0 K) K t h nx := by kernel_rfl
theorem F226.tab : T.get none (.of 226) tbl = some F226 := by kernel_rfl
theorem F226.go : callFn tbl N C (.of 226) [a0] h nx K0 =
 sBox a0 h nx fun v1 h2 n3 =>
 sFaddr 0 v1 fun v4 =>
 sLoad v4 h2 fun v5 =>
 sBin .lss .int v5 (I 5) fun v6 =>
 sCond v6 (K0 (.bool false) h2 n3) (IR.run F226.b2 C N (fnO F226.res K0) (IR.run F226.b9 C N (fnO F226.res K0) (retK F226.res K0)) (F226.fr a0 v1 (.bool false) v6 .undef .undef) h2 n3) := by
 rw [callFn_of F226.tab]; kernel_rfl
theorem F226.L2 (Inv : Nat → T Blk → Pa → Prop) {m : Nat} (hm : m < N) (hi : Inv m  h nx)
  (step : ∀ (m : Nat) (z2 z4 z5 : AV) (h : T Blk) (nx : Pa) (R : Ks Prop), Inv m  h nx → (∀ (m' : Nat) (w2 w4 w5 : AV) (h' : T Blk) (nx' : Pa), m' < m → Inv m'  h' nx' → R (F226.fr x0 x1 w2 x3 w4 w5) h' nx' = .ok True) →
   (sFaddr 0 x1 fun v1 =>
 sLoad v1 h fun v2 =>
 sBin .geq .int v2 (I 3) fun v3 =>
 sCond v3 (sLoadN 2 x1 h fun v4 =>
 C.fn 144 (.of 144) [v4, (.str [109, 97, 103, 105, 99])] h nx fun v5 h6 n7 =>
 sNot v5 fun v8 =>
 sCond v8 (K0 (.bool false) h6 n7) (sLoadN 2 x1 h6 fun v9 =>
 C.fn 277 (.of 277) [v9] h6 n7 fun v10 h11 n12 =>
 sStore 2 x1 v10 h11 n12 fun v13 h14 n15 =>
 R (F226.fr x0 x1 z2 x3 v3 v8) h14 n15)) (K (F226.fr x0 x1 z2 x3 v3 z5) h nx)) = .ok True) :
  IR.run F226.b2 C N (fnO F226.res K0) K (F226.fr x0 x1 x2 x3 x4 x5) h nx = .ok True := by
 rw [F226.b2, F226.g2_eq, F226.b3]
 refine loop_ok (fun m tm h nx => ∃ z2 z4 z5, tm = (F226.fr x0 x1 z2 x3 z4 z5) ∧ Inv m  h nx) ?_ hm ⟨_, _, _, rfl, hi⟩
 rintro m tm h nx R ⟨z2, z4, z5, rfl, hi⟩ hR
 refine Eq.trans ?_ (step m z2 z4 z5 h nx R hi fun m' w2 w4 w5 h' nx' hlt hi' => hR m' _ h' nx' hlt ⟨_, _, _, rfl, hi'⟩)
 kernel_rfl
theorem F226.k9 : IR.run F226.b9 C N (fnO F226.res K0) K (F226.fr x0 x1 x2 x3 x4 x5) h nx =
 K0 (.bool true) h nx := by kernel_rfl
theorem F277.g1_eq (X2 : IR) (O : Outs Prop) (t : T AV) : IR.run (F277.g1 X2) C N O K t h nx = IR.run X2 C N (O.blk 0 K) K t h nx := by kernel_rfl
theorem F277.tab : T.get none (.of 277) tbl = some F277 := by kernel_rfl
theorem F277.go : callFn tbl N C (.of 277) [a0] h nx K0 =
 sBox a0 h nx fun v1 h2 n3 =>
 sAlloc [(I 0), .nils] h2 n3 fun v4 h5 n6 =>
 sFaddr 0 v1 fun v7 =>
 sLoad v7 h5 fun v8 =>
 sBin .sub .int v8 (I 2) fun v9 =>
 sBuild [(I 0), .nils] [(0, 1, v9)] fun v10 =>
 sAlloc [(I 0), .nils] h5 n6 fun v11 h12 n13 =>
 sStore 2 v11 v10 h12 n13 fun v14 h15 n16 =>
 IR.run F277.b1 C N (fnO F277.res K0) (IR.run F277.b8 C N (fnO F277.res K0) (retK F277.res K0)) (F277.fr a0 v1 v4 v11 (I 1) .undef) h15 n16 := by
 rw [callFn_of F277.tab]; kernel_rfl
theorem F277.L1 (Inv : Nat → AV → T Blk → Pa → Prop) {m : Nat} (hm : m < N) (hi : Inv m x4 h nx)
  (step : ∀ (m : Nat) (z4 z5 : AV) (h : T Blk) (nx : Pa) (R : Ks Prop), Inv m z4 h nx → (∀ (m' : Nat) (w4 w5 : AV) (h' : T Blk) (nx' : Pa), m' < m → Inv m' w4 h' nx' → R (F277.fr x0 x1 x2 x3 w4 w5) h' nx' = .ok True) →
   (sBin .add .int z4 (I 1) fun v1 =>
 sFaddr 0 x1 fun v2 =>
 sLoad v2 h fun v3 =>
 sBin .lss .int v1 v3 fun v4 =>
 sCond v4 (sFaddr 1 x3 fun v5 =>
 sLoad v5 h fun v6 =>
 sFaddr 1 x1 fun v7 =>
 sLoad v7 h fun v8 =>
 sFaddr 0 x1 fun v9 =>
 sLoad v9 h fun v10 =>
 sBin .mul .int z4 v10 fun v11 =>
 sBin .add .int v11 (I 1) fun v12 =>
 sFaddr 0 x1 fun v13 =>
 sLoad v13 h fun v14 =>
 sBin .mul .int z4 v14 fun v15 =>
 sFaddr 0 x1 fun v16 =>
 sLoad v16 h fun v17 =>
 sBin .add .int v15 v17 fun v18 =>
 sBin .sub .int v18 (I 1) fun v19 =>
 sFaddr 0 x1 fun v20 =>
 sLoad v20 h fun v21 =>
 sBin .mul .int z4 v21 fun v22 =>
 sFaddr 0 x1 fun v23 =>
 sLoad v23 h fun v24 =>
 sBin .add .int v22 v24 fun v25 =>
 sBin .sub .int v25 (I 1) fun v26 =>
 sSlice 1 v8 (some v12) (some v19) (some v26) fun v27 =>
 sApp 1 8 v6 v27 h nx fun v28 h29 n30 =>
 sFaddr 1 x3 fun v31 =>
 sStore 1 v31 v28 h29 n30 fun v32 h33 n34 =>
 sBin .add .int z4 (I 1) fun v35 =>
 R (F277.fr x0 x1 x2 x3 v35 v4) h33 n34) (K (F277.fr x0 x1 x2 x3 z4 v4) h nx)) = .ok True) :
  IR.run F277.b1 C N (fnO F277.res K0) K (F277.fr x0 x1 x2 x3 x4 x5) h nx = .ok True := by
 rw [F277.b1, F277.g1_eq, F277.b2]
 refine loop_ok (fun m tm h nx => ∃ z4 z5, tm = (F277.fr x0 x1 x2 x3 z4 z5) ∧ Inv m z4 h nx) ?_ hm ⟨_, _, rfl, hi⟩
 rintro m tm h nx R ⟨z4, z5, rfl, hi⟩ hR
 refine Eq.trans ?_ (step m z4 z5 h nx R hi fun m' w4 w5 h' nx' hlt hi' => hR m' _ h' nx' hlt ⟨_, _, rfl, hi'⟩)
 kernel_rfl
theorem F277.k8 : IR.run F277.b8 C N (fnO F277.res K0) K (F277.fr x0 x1 x2 x3 x4 x5) h nx =
 sLoadN 2 x3 h fun v1 =>
 sStore 2 x2 v1 h nx fun v2 h3 n4 =>
 sLoadN 2 x2 h3 fun v5 => K0 v5 h3 n4 := by kernel_rfl
end Go.Ev
namespace Go.Ev
open Go Go.Proofs
variable {B : Nat}
set_option maxRecDepth 100000
theorem sRemNN {a b : Nat} {K : AV → OP} (_ha : a ≤ 9223372036854775807) (hb : 0 < b) : sBin .rem .int (I (a : Int)) (I (b : Int)) K = K (I ((a % b : Nat) : Int)) := by
 have e : sBin .rem .int (I (a : Int)) (I (b : Int)) K = (bif ieq (b : Int) 0 then Out.no 5 else intK ((a : Int).tmod b) fun z => K (.int .i64 z)) := rfl
 have h0 : ieq (b : Int) 0 = false := by rw [ieq_eq, beq_eq_false_iff_ne]; omega
 rw [e, h0, cond_false, intK_eq]; rfl
theorem sQuoNN {a b : Nat} {K : AV → OP} (ha : a ≤ 9223372036854775807) (hb : 0 < b) : sBin .quo .int (I (a : Int)) (I (b : Int)) K = K (I ((a / b : Nat) : Int)) := by
 rw [sQuoN (by omega) (by omega) hb, Int.tdiv_eq_ediv_of_nonneg (by omega)]; simp
def atN (n : Nat) (f : List Int) (r c : Nat) : Int := f.getD (r % n * n + c % n) 0
theorem at_in {n r c : Nat} (hn : 0 < n) : r % n * n + c % n < n * n := by
 have h1 := Nat.mod_lt r hn
 have h2 := Nat.mod_lt c hn
 have : r % n * n ≤ (n - 1) * n := Nat.mul_le_mul_right n (by omega)
 have e : (n - 1) * n + n = n * n := by
  have : (n - 1 + 1) * n = n * n := by rw [Nat.sub_add_cancel hn]
  rw [← this, Nat.add_mul, Nat.one_mul]
 omega
def blkN (n : Nat) (f : List Int) (i : Nat) : Int := atN n f (i / n) (i % n) + atN n f (i / n) (i % n + 1) + atN n f (i / n + 1) (i % n) + atN n f (i / n + 1) (i % n + 1)
def halN (n : Nat) (f : List Int) (i : Nat) : Int := atN n f (i / n) (i % n) + atN n f (i / n + n / 2) (i % n + n / 2)
def mper (n : Nat) (f : List Int) : Bool := !decide (n % 2 = 1) && (mg 2 n f && (decide (∀ i, i < f.length → blkN n f i = blkN n f 0) && decide (∀ i, i < f.length → halN n f i = halN n f 0)))
theorem FillOk.at {n : Nat} {f : List Int} (hf : FillOk n f) (hn : 0 < n) (r c : Nat) : -1000000000 ≤ atN n f r c ∧ atN n f r c ≤ 1000000000 := hf.get (by rw [hf.len]; exact at_in hn)
theorem at274 {n : Nat} {f : List Int} {h0 h : T Blk} {nx : Pa} {L : List Ob} {k : Nat} {bx : Pa} {r c : Nat} {K : Kw Prop} (hn : 0 < n ∧ n ≤ 8) (hf : FillOk n f) (H : Hp h0 h nx L) (hk : L[k]? = some (.arr bx [I (n : Int), encI f])) (hr : r ≤ 1000) (hc : c ≤ 1000) (hK : K (I (atN n f r c)) h nx = .ok True) :
  (CS Tryz.prog B).fn 274 (.of 274) [I (r : Int), I (c : Int), .ptr bx 0] h nx K = .ok True := by
 refine CS_fn_mono (p := .of 274) (by_body tbl_ok dreg 9 fun _ => ?_) fun _ _ _ _ q => q
 rw [F274.go]
 simp only [sFx]
 have hin := at_in (n := n) (r := r) (c := c) hn.1
 have h1 := Nat.mod_lt r hn.1
 have h2 := Nat.mod_lt c hn.1
 have h3 : r % n * n ≤ 8 * 8 := Nat.mul_le_mul (by omega) (by omega)
 have e1 : ((r % n : Nat) : Int) * (n : Int) = ((r % n * n : Nat) : Int) := by simp
 rw [H.load (k := k) (i := 0 + 1) hk rfl, H.load (k := k) (i := 0) hk rfl, sRemNN (by omega) hn.1, H.load (k := k) (i := 0) hk rfl, sMul (by rw [e1]; omega), e1, H.load (k := k) (i := 0) hk rfl, sRemNN (by omega) hn.1, sAdd (by omega),
  sIxL (i := r % n * n + c % n) (by omega) (by rw [hf.len]; exact hin), ldL (getI (getD_of (by rw [hf.len]; exact hin)))]
 exact hK
theorem mper225 {n : Nat} {f : List Int} (hs : SqOk n) (hf : FillOk n f) : Pure Tryz.prog B 225 [.agg [I (n : Int), encI f]] (· = .bool (mper n f)) := by
 refine pure_hp fun h nx K H0 hK => by_body tbl_ok dreg 100 fun hf' => ?_
 have hn : 0 < n ∧ n ≤ 8 := ⟨by have := hs.1.1; omega, hs.1.2⟩
 have hlen : f.length ≤ 64 := by rw [hf.len]; exact Nat.mul_le_mul hs.1.2 hs.1.2
 rw [F225.go]
 refine H0.box (l := [I (n : Int), encI f]) rfl fun bx h1 nx1 H1 => ?_
 simp only [sFx]
 rw [H1.load (k := 0) (i := 0) rfl rfl]
 have e2 : ∀ K : AV → OP, sBin .rem .int (I (n : Int)) (I 2) K = K (I ((n % 2 : Nat) : Int)) := fun K => sRemNN (b := 2) (by omega) (by omega)
 rw [e2]
 simp only [sEql]
 by_cases c1 : n % 2 = 1
 ·simp only [show ((n % 2 : Nat) : Int) = 1 by omega, decide_true, sG_tf, sGW_tf, sPick_t, sCond_t]
  exact hK _ _ _ _ _ H1 (frz_fixd rfl) (by simp [mper, c1])
 simp only [show ¬ ((n % 2 : Nat) : Int) = 1 by omega, decide_false, sG_ff, sGW_ff]
 rw [H1.loadN (k := 0) (n := 2) rfl rfl]
 refine is144 (k := 2) hs (by omega) hf _ _ _ _ ?_
 rintro _ rfl _
 have em : mper n f = (mg 2 n f && (decide (∀ i, i < f.length → blkN n f i = blkN n f 0) && decide (∀ i, i < f.length → halN n f i = halN n f 0))) := by simp [mper, c1]
 cases c2 : mg 2 n f with
 | false =>
  simp only [sNot_b, Bool.not_false, sPick_f, sCond_t]
  exact hK _ _ _ _ _ H1 (frz_fixd rfl) (by rw [em, c2]; rfl)
 | true =>
 simp only [sNot_b, Bool.not_true, sPick_f, sCond_f]
 refine H1.alloc fun pa h2 nx2 H2 => ?_
 refine H2.store (k := 0) rfl (by simp) rfl fun h3 H3 => ?_
 rw [H3.load (k := 1) (i := 0 + 1) rfl rfl]
 simp only [sLen_lst]
 have ha : ∀ (r c : Nat), r ≤ 1000 → c ≤ 1000 → ∀ K : Kw Prop, K (I (atN n f r c)) h3 nx2 = .ok True → (CS Tryz.prog B).fn 274 (.of 274) [I (r : Int), I (c : Int), .ptr bx 0] h3 nx2 K = .ok True := fun r c hr hc K hK => at274 hn hf H3 (k := 1) rfl hr hc hK
 have ld : ∀ op : AV → OP, sLoad (.ptr pa 0) h3 op = op (.fn 274 (.of 274) [.ptr bx 0]) := fun op => H3.load (k := 0) (i := 0) rfl rfl
 have sm1 : ∀ i : Nat, i < f.length → i / n ≤ 64 ∧ i % n ≤ 64 := fun i hi => ⟨Nat.le_trans (Nat.div_le_self i n) (by omega), Nat.le_trans (Nat.mod_le i n) (by omega)⟩
 refine same272 (v := blkN n f) (by omega) (by omega) (fun i hi K hK => ?_) ?_
 ·refine CS_fn_mono (p := .of 275) (by_body tbl_ok dreg 9 fun _ => ?_) fun _ _ _ _ q => q
  show callFn tbl 9 _ (Pa.of 275) [I (i : Int), .ptr bx 0, .ptr pa 0] _ _ _ = _
  obtain ⟨d1, d2⟩ := sm1 i hi
  rw [F275.go]
  simp only [sFx]
  have b1 := hf.at hn.1 (i / n) (i % n)
  have b2 := hf.at hn.1 (i / n) (i % n + 1)
  have b3 := hf.at hn.1 (i / n + 1) (i % n)
  have b4 := hf.at hn.1 (i / n + 1) (i % n + 1)
  have q1 : ∀ K : AV → OP, sBin .add .int (I ((i % n : Nat) : Int)) (I 1) K = K (I ((i % n + 1 : Nat) : Int)) := fun K => by generalize i % n = x at d2 ⊢; rw [sAdd (by omega)]; simp
  have q2 : ∀ K : AV → OP, sBin .add .int (I ((i / n : Nat) : Int)) (I 1) K = K (I ((i / n + 1 : Nat) : Int)) := fun K => by generalize i / n = x at d1 ⊢; rw [sAdd (by omega)]; simp
  rw [H3.load (k := 1) (i := 0) rfl rfl, sQuoNN (by omega) hn.1, H3.load (k := 1) (i := 0) rfl rfl, sRemNN (by omega) hn.1]
  simp only [ld, q1, q2]
  rw [sCall_fn]
  refine ha _ _ (by omega) (by omega) _ ?_
  simp only [ld, q1, q2, sSame_refl]
  rw [sCall_fn]
  refine ha _ _ (by omega) (by omega) _ ?_
  simp only [ld, q1, q2, sSame_refl]
  rw [sAdd (by omega), sCall_fn]
  refine ha _ _ (by omega) (by omega) _ ?_
  simp only [ld, q1, q2, sSame_refl]
  rw [sAdd (by omega)]
  simp only [sSame_refl]
  rw [sAdd (by omega), sCall_fn]
  refine ha _ _ (by omega) (by omega) _ ?_
  rw [sAdd (by omega)]
  simp only [sSame_refl]
  rw [sAdd (by omega)]
  simp only [sSame_refl]
  rw [sAdd (by omega)]
  exact hK
 by_cases c3 : ∀ i, i < f.length → blkN n f i = blkN n f 0
 case neg =>
  rw [decide_eq_false c3]
  simp only [sG_ft, sGW_ftN, sPick_f]
  exact hK _ _ _ _ _ H3 (frz_fixd rfl) (by rw [em, c2, decide_eq_false c3]; rfl)
 rw [decide_eq_true c3]
 simp only [sG_tt, sGW_ttN, sFx]
 rw [H3.load (k := 1) (i := 0 + 1) rfl rfl]
 simp only [sLen_lst]
 refine same272 (v := halN n f) (by omega) (by omega) (fun i hi K hK => ?_) ?_
 ·refine CS_fn_mono (p := .of 276) (by_body tbl_ok dreg 9 fun _ => ?_) fun _ _ _ _ q => q
  show callFn tbl 9 _ (Pa.of 276) [I (i : Int), .ptr bx 0, .ptr pa 0] _ _ _ = _
  obtain ⟨d1, d2⟩ := sm1 i hi
  rw [F276.go]
  simp only [sFx]
  have b1 := hf.at hn.1 (i / n) (i % n)
  have b2 := hf.at hn.1 (i / n + n / 2) (i % n + n / 2)
  have q0 : ∀ K : AV → OP, sBin .quo .int (I (n : Int)) (I 2) K = K (I ((n / 2 : Nat) : Int)) := fun K => sQuoNN (b := 2) (by omega) (by omega)
  have q1 : ∀ K : AV → OP, sBin .add .int (I ((i % n : Nat) : Int)) (I ((n / 2 : Nat) : Int)) K = K (I ((i % n + n / 2 : Nat) : Int)) := fun K => by generalize i % n = x at d2 ⊢; generalize hy : n / 2 = y; rw [sAdd (by omega)]; simp
  have q2 : ∀ K : AV → OP, sBin .add .int (I ((i / n : Nat) : Int)) (I ((n / 2 : Nat) : Int)) K = K (I ((i / n + n / 2 : Nat) : Int)) := fun K => by generalize i / n = x at d1 ⊢; generalize hy : n / 2 = y; rw [sAdd (by omega)]; simp
  have l1 : ∀ op : AV → OP, sLoad (.ptr bx 0) h3 op = op (I (n : Int)) := fun op => H3.load (k := 1) (i := 0) rfl rfl
  rw [l1, sQuoNN (by omega) hn.1, l1, sRemNN (by omega) hn.1]
  simp only [ld, l1, q0, q1, q2]
  rw [sCall_fn]
  refine ha _ _ (by omega) (by omega) _ ?_
  simp only [ld, l1, q0, q1, q2, sSame_refl]
  rw [sCall_fn]
  refine ha _ _ (by omega) (by omega) _ ?_
  rw [sAdd (by omega)]
  exact hK
 simp only [sPick_t]
 exact hK _ _ _ _ _ H3 (frz_fixd rfl) (by rw [em, c2, decide_eq_true c3]; rfl)
end Go.Ev
namespace Go.Ev
open Go Go.Proofs
variable {B : Nat}
set_option maxRecDepth 100000
theorem fixdIL {l : List Int} : ∀ v ∈ l.map I, fixd v = true := fun v hv => by obtain ⟨x, _, rfl⟩ := List.mem_map.1 hv; rfl
end Go.Ev
namespace Go.Ev
open Go Go.Proofs
variable {B : Nat}
set_option maxRecDepth 100000
theorem sSlice3 {n a b c : Nat} {l : List AV} {op : AV → OP} (hn : 1 ≤ n) (hab : a ≤ b) (hbc : b ≤ c) (hc : c ≤ n) : sSlice 1 (.lst 1 n l) (some (I (a : Int))) (some (I (b : Int))) (some (I (c : Int))) op = op (.lst 1 (b - a) ((l.drop a).take (b - a))) := by
 show (bif Nat.beq 1 1 && Nat.ble 1 n then (match bnd (some (I (c : Int))) n n with | none => Out.no 17 | some m => match bnd (some (I (b : Int))) m n with | none => .no 17 | some h => match bnd (some (I (a : Int))) h 0 with | none => .no 17 | some q => op (.lst 1 (h - q) ((l.drop (q * 1)).take ((h - q) * 1)))) else .no 17) = _
 rw [Nat.ble_eq_true_of_le hn, bnd_some hc]
 show (match bnd (some (I (b : Int))) c n with | none => Out.no 17 | some h => match bnd (some (I (a : Int))) h 0 with | none => .no 17 | some q => op (.lst 1 (h - q) ((l.drop (q * 1)).take ((h - q) * 1)))) = _
 rw [bnd_some hbc]
 show (match bnd (some (I (a : Int))) b 0 with | none => Out.no 17 | some q => op (.lst 1 (b - q) ((l.drop (q * 1)).take ((b - q) * 1)))) = _
 rw [bnd_some hab]
 show op (.lst 1 (b - a) ((l.drop (a * 1)).take ((b - a) * 1))) = _
 rw [Nat.mul_one, Nat.mul_one]
def innerP (n : Nat) (f : List Int) (r : Nat) : List Int := (List.range r).flatMap fun i => (f.drop ((i + 1) * n + 1)).take (n - 2)
def innerL (n : Nat) (f : List Int) : List Int := innerP n f (n - 2)
theorem innerP_succ (n : Nat) (f : List Int) (r : Nat) : innerP n f (r + 1) = innerP n f r ++ (f.drop ((r + 1) * n + 1)).take (n - 2) := by simp [innerP, List.range_succ]
theorem innerP_len {n : Nat} {f : List Int} (hf : f.length = n * n) (hn : 2 ≤ n) : ∀ r, r ≤ n - 2 → (innerP n f r).length = r * (n - 2)
 | 0, _ => by simp [innerP]
 | r + 1, h => by
  have h1 : (r + 1) * n + n ≤ n * n := by
   have : (r + 1 + 1) * n ≤ n * n := Nat.mul_le_mul_right n (by omega)
   rw [Nat.add_mul (r + 1) 1 n, Nat.one_mul] at this; exact this
  rw [innerP_succ, List.length_append, innerP_len hf hn r (by omega), List.length_take, List.length_drop, hf, Nat.min_eq_left (by omega), Nat.add_mul, Nat.one_mul]
theorem FillOk.inner {n : Nat} {f : List Int} (hf : FillOk n f) (hn : 2 ≤ n) : FillOk (n - 2) (innerL n f) := by
 refine ⟨innerP_len hf.len hn _ (Nat.le_refl _), fun x hx => ?_⟩
 obtain ⟨i, _, hx⟩ := List.mem_flatMap.1 hx
 exact hf.bd x (List.mem_of_mem_drop (List.mem_of_mem_take hx))
theorem inner277 {n : Nat} {f : List Int} (hn : 3 ≤ n ∧ n ≤ 8) (hf : FillOk n f) : Pure Tryz.prog B 277 [.agg [I (n : Int), encI f]] (· = .agg [I ((n - 2 : Nat) : Int), encI (innerL n f)]) := by
 refine pure_hp fun h nx K H0 hK => by_body tbl_ok dreg 100 fun hf' => ?_
 have hlen : f.length ≤ 64 := by rw [hf.len]; exact Nat.mul_le_mul hn.2 hn.2
 have hpos : 1 ≤ f.length := by rw [hf.len]; exact Nat.mul_le_mul (show 1 ≤ n by omega) (show 1 ≤ n by omega)
 rw [F277.go]
 refine H0.box (l := [I (n : Int), encI f]) rfl fun bx h1 nx1 H1 => ?_
 refine H1.alloc fun p h2 nx2 H2 => ?_
 simp only [sFx]
 rw [H2.load (k := 1) (i := 0) rfl rfl, sSub (by omega), sBuildS]
 refine H2.alloc fun q h3 nx3 H3 => ?_
 refine H3.storeN (l2 := [I ((n : Int) - 2), .nils]) (k := 0) rfl rfl rfl fun h4 H4 => ?_
 refine F277.L1 (fun m x4 h' nx' => ∃ (r : Nat) (o : Option Pa), x4 = I ((r + 1 : Nat) : Int) ∧ n - 2 - r = m ∧ r ≤ n - 2 ∧ Hp h h' nx' [.gro o 1 (innerP n f r).length ((innerP n f r).map I), .arr q [I ((n : Int) - 2), rowV o 1 (innerP n f r).length], .arr p [I 0, .nils], .arr bx [I (n : Int), encI f]]) (m := n - 2) (by omega) ⟨0, none, rfl, rfl, by omega, H4.addGro 1⟩ ?_
 rintro m z4 z5 h5 nx5 R ⟨r, o, rfl, rfl, hr, H5⟩ hR
 simp only [sFx]
 rw [sAdd (by omega), H5.load (k := 3) (i := 0) rfl rfl]
 simp only [sLss]
 by_cases hlt : r < n - 2
 case neg =>
  simp only [show ¬ (((r + 1 : Nat) : Int) + 1 < (n : Int)) by omega, decide_false, sCond_f]
  obtain rfl : r = n - 2 := by omega
  rw [F277.k8, H5.loadN (k := 1) (n := 2) rfl rfl]
  refine H5.storeN (l2 := [I ((n : Int) - 2), rowV o 1 (innerP n f (n - 2)).length]) (k := 2) rfl rfl rfl fun h6 H6 => ?_
  rw [H6.loadN (k := 2) (n := 2) rfl rfl]
  have hF : FrzN h h6 (rowV o 1 (innerP n f (n - 2)).length) (encI (innerL n f)) := H6.frzGro (k := 0) rfl fixdIL
  refine hK _ _ _ _ (AV.agg [I ((n : Int) - 2), encI (innerL n f)]) H6 (Frz.agg _ _ rfl rfl fun j v v' h1 h2 => ?_) (by congr 3; omega)
  match j, h1, h2 with
  | 0, h1, h2 => cases h1; cases h2; exact frz_fixd rfl
  | 1, h1, h2 => cases h1; cases h2; exact hF
  | j + 2, h1, h2 => simp at h1
 simp only [show ((r + 1 : Nat) : Int) + 1 < (n : Int) by omega, decide_true, sCond_t]
 have hrn : (r + 1) * n + n ≤ n * n := by
  have : (r + 1 + 1) * n ≤ n * n := Nat.mul_le_mul_right n (by omega)
  rw [Nat.add_mul (r + 1) 1 n, Nat.one_mul] at this; exact this
 have hb : (r + 1) * n ≤ 64 := by have := hf.len; omega
 have em : ((r + 1 : Nat) : Int) * (n : Int) = (((r + 1) * n : Nat) : Int) := by simp
 have l0 : ∀ op : AV → OP, sLoad (.ptr bx 0) h5 op = op (I (n : Int)) := fun op => H5.load (k := 3) (i := 0) rfl rfl
 have l1 : ∀ op : AV → OP, sLoad (.ptr bx (0 + 1)) h5 op = op (encI f) := fun op => H5.load (k := 3) (i := 0 + 1) rfl rfl
 rw [H5.load (k := 1) (i := 0 + 1) rfl rfl]
 simp only [l0, l1]
 have mu : ∀ K : AV → OP, sBin .mul .int (I ((r + 1 : Nat) : Int)) (I (n : Int)) K = K (I (((r + 1) * n : Nat) : Int)) := fun K => by rw [sMul (by rw [em]; omega), em]
 simp only [mu]
 generalize hq : (r + 1) * n = rn at *
 have a1 : ∀ K : AV → OP, sBin .add .int (I (rn : Int)) (I 1) K = K (I ((rn + 1 : Nat) : Int)) := fun K => by rw [sAdd (by omega)]; simp
 have a2 : ∀ K : AV → OP, sBin .add .int (I (rn : Int)) (I (n : Int)) K = K (I ((rn + n : Nat) : Int)) := fun K => by rw [sAdd (by omega)]; simp
 have a3 : ∀ K : AV → OP, sBin .sub .int (I ((rn + n : Nat) : Int)) (I 1) K = K (I ((rn + n - 1 : Nat) : Int)) := fun K => by rw [sSub (by omega)]; congr 2; omega
 simp only [a1, a2, a3]
 rw [sSlice3 (by omega) (by omega) (by omega) (by rw [hf.len]; omega)]
 have e1 : rn + n - 1 - (rn + 1) = n - 2 := by omega
 rw [e1]
 have hnl : (((f.map I).drop (rn + 1)).take (n - 2)).length = n - 2 := by rw [List.length_take, List.length_drop, List.length_map, hf.len]; omega
 refine H5.appN (k := 0) (o := o) (c := n - 2) (new := ((f.map I).drop (rn + 1)).take (n - 2)) rfl (rdLst 1) (by rw [hnl]; omega) ?_ (by decide) (by decide) (by rw [innerP_len hf.len (by omega) r hr]; have : r * (n - 2) ≤ 8 * 8 := Nat.mul_le_mul (by omega) (by omega); omega) fun o' h6 nx6 _ H6 => ?_
 ·refine List.all_eq_true.2 fun v hv => ?_
  obtain ⟨x, _, rfl⟩ := List.mem_map.1 (List.mem_of_mem_drop (List.mem_of_mem_take hv)); rfl
 refine H6.store (k := 1) rfl (by simp) (rowV_cells _ _ _) fun h7 H7 => ?_
 rw [sAdd (by omega)]
 have e2 : innerP n f (r + 1) = innerP n f r ++ (f.drop (rn + 1)).take (n - 2) := by rw [innerP_succ, hq]
 refine hR _ _ _ _ _ (by omega) ⟨r + 1, o', by congr 1, rfl, by omega, H7.cast ?_⟩
 rw [e2, List.length_append, List.map_append, List.map_take, List.map_drop]
 have : ((f.drop (rn + 1)).take (n - 2)).length = n - 2 := by rw [List.length_take, List.length_drop, hf.len]; omega
 rw [this]; rfl
end Go.Ev
namespace Go.Ev
open Go Go.Proofs
variable {B : Nat}
set_option maxRecDepth 100000
def brd : Nat → Nat → List Int → Bool
 | 0, _, _ => true
 | k + 1, n, f => if n < 3 then true else mg 1 n f && brd k (n - 2) (innerL n f)
def bord (n : Nat) (f : List Int) : Bool := decide (5 ≤ n) && brd n n f
theorem brd_small {k n : Nat} {f : List Int} (h : n < 3) : brd k n f = true := by cases k <;> simp [brd, h]
theorem bord226 {n : Nat} {f : List Int} (hs : ∀ m, 1 ≤ m → m ≤ n → SqOk m) (hn : 1 ≤ n ∧ n ≤ 8) (hf : FillOk n f) : Pure Tryz.prog B 226 [.agg [I (n : Int), encI f]] (· = .bool (bord n f)) := by
 refine pure_hp fun h nx K H0 hK => by_body tbl_ok dreg 100 fun hf' => ?_
 rw [F226.go]
 refine H0.box (l := [I (n : Int), encI f]) rfl fun bx h1 nx1 H1 => ?_
 simp only [sFx]
 rw [H1.load (k := 0) (i := 0) rfl rfl]
 simp only [sLss]
 by_cases c5 : n < 5
 ·simp only [show (n : Int) < 5 by omega, decide_true, sCond_t]
  exact hK _ _ _ _ _ H1 (frz_fixd rfl) (by rw [bord, decide_eq_false (by omega)]; rfl)
 simp only [show ¬ (n : Int) < 5 by omega, decide_false, sCond_f]
 have eb : bord n f = brd n n f := by rw [bord, decide_eq_true (by omega)]; rfl
 refine F226.L2 (fun k h' nx' => ∃ (m : Nat) (g : List Int), m ≤ n ∧ FillOk m g ∧ brd n n f = brd k m g ∧ m ≤ k ∧ Hp h h' nx' [.arr bx [I (m : Int), encI g]]) (m := n) (by omega) ⟨n, f, Nat.le_refl _, hf, rfl, Nat.le_refl _, H1⟩ ?_
 rintro k z2 z4 z5 h2 nx2 R ⟨m, g, hm, hg, hb, hk, H2⟩ hR
 simp only [sFx]
 rw [H2.load (k := 0) (i := 0) rfl rfl]
 simp only [sGeq]
 by_cases c3 : 3 ≤ m
 case neg =>
  simp only [show ¬ (3 : Int) ≤ (m : Int) by omega, decide_false, sCond_f]
  rw [F226.k9]
  exact hK _ _ _ _ _ H2 (frz_fixd rfl) (by rw [eb, hb, brd_small (by omega)])
 simp only [show (3 : Int) ≤ (m : Int) by omega, decide_true, sCond_t]
 rw [H2.loadN (k := 0) (n := 2) rfl rfl]
 refine is144 (k := 1) (hs m (by omega) hm) (by omega) hg _ _ _ _ ?_
 rintro _ rfl _
 obtain ⟨k, rfl⟩ : ∃ k', k = k' + 1 := ⟨k - 1, by omega⟩
 rw [brd, if_neg (by omega)] at hb
 cases c : mg 1 m g with
 | false =>
  simp only [sNot_b, Bool.not_false, sCond_t]
  exact hK _ _ _ _ _ H2 (frz_fixd rfl) (by rw [eb, hb, c]; rfl)
 | true =>
  simp only [sNot_b, Bool.not_true, sCond_f]
  rw [H2.loadN (k := 0) (n := 2) rfl rfl]
  refine inner277 (by omega) hg _ _ _ _ ?_
  rintro _ rfl _
  refine H2.storeN (l2 := [I ((m - 2 : Nat) : Int), encI (innerL m g)]) (k := 0) rfl rfl rfl fun h3 H3 => ?_
  rw [c, Bool.true_and] at hb
  exact hR k _ _ _ _ _ (by omega) ⟨m - 2, innerL m g, by omega, hg.inner (by omega), hb, by omega, H3⟩
def sqF (f : List Int) : List Int := f.map fun x => x * x
theorem sqF_get {f : List Int} {i : Nat} (h : i < f.length) : (sqF f).getD i 0 = f.getD i 0 * f.getD i 0 := by
 rw [List.getD_eq_getElem?_getD, List.getD_eq_getElem?_getD, sqF, List.getElem?_map, List.getElem?_eq_getElem h]; rfl
theorem lineS_sq {l f : List Int} (h : LnOk l f) {j : Nat} (hj : j < l.length) : lineS (l.take (j + 1)) (sqF f) = lineS (l.take j) (sqF f) + f.getD l[j].toNat 0 * f.getD l[j].toNat 0 := by
 have := h.rng _ (List.getElem_mem hj)
 rw [lineS_next hj, sqF_get (by omega)]
theorem sq_bd {x : Int} (h : -1000000000 ≤ x ∧ x ≤ 1000000000) : 0 ≤ x * x ∧ x * x ≤ 1000000000000000000 := by
 have h2 : (x * x).natAbs ≤ 1000000000000000000 := by rw [Int.natAbs_mul]; exact Nat.mul_le_mul (show x.natAbs ≤ 1000000000 by omega) (show x.natAbs ≤ 1000000000 by omega)
 have h1 : 0 ≤ x * x := by
  rcases Int.le_total 0 x with q | q
  ·exact Int.mul_nonneg q q
  ·exact Int.mul_nonneg_of_nonpos_of_nonpos q q
 omega
theorem lineS_sqbd {l f : List Int} (h : LnOk l f) : ∀ j, j ≤ l.length → 0 ≤ lineS (l.take j) (sqF f) ∧ lineS (l.take j) (sqF f) ≤ 1000000000000000000 * (j : Int)
 | 0, _ => by simp [lineS]
 | j + 1, hj => by
  have ih := lineS_sqbd h j (by omega)
  have := sq_bd (h.get (List.getElem_mem (show j < l.length by omega))).2
  rw [lineS_sq h (by omega)]
  omega
def pow2 (n : Nat) (f : List Int) : Bool := decide (∀ i, i < (sqL 1 n).length → lineS ((sqL 1 n).getD i []) (sqF f) = lineS ((sqL 1 n).getD 0 []) (sqF f))
theorem getD_l {L : List (List Int)} {i : Nat} (h : i < L.length) : L[i]? = some (L.getD i []) := by
 rw [List.getD_eq_getElem?_getD, List.getElem?_eq_getElem h]; rfl
theorem pow145 {n : Nat} {f : List Int} (hs : SqOk n) (hf : FillOk n f) : Pure Tryz.prog B 145 [.agg [I (n : Int), encI f], I 2] (· = .bool (pow2 n f)) := by
 refine pure_hp fun h nx K H0 hK => by_body tbl_ok dreg 1000 fun hf' => ?_
 rw [F145.go]
 refine H0.box (l := [I (n : Int), encI f]) rfl fun bx h1 nx1 H1 => ?_
 refine H1.alloc fun wt h2 nx2 H2 => ?_
 simp only [sFx]
 rw [H2.load (k := 1) (i := 0) rfl rfl]
 refine hs.2 1 (by omega) B _ _ _ _ ?_
 rintro _ rfl _
 obtain ⟨hn1, hn2⟩ := sq_in (k := 1) (n := n) (by omega) hs.1.2
 have hln := hf.ln (k := 1) (by omega) hs.1.2
 have ep : pow2 n f = decide (∀ i, i < (sqL 1 n).length → lineS ((sqL 1 n).getD i []) (sqF f) = lineS ((sqL 1 n).getD 0 []) (sqF f)) := rfl
 generalize pow2 n f = res at *
 generalize sqL 1 n = Ls at *
 rw [sPart1]
 simp only [sLen_lst]
 refine F145.L1 (fun m x11 h' nx' => ∃ (i : Nat) (w : Int), x11 = I i ∧ Ls.length - i = m ∧ i ≤ Ls.length ∧ (0 < i → w = lineS (Ls.getD 0 []) (sqF f)) ∧ (∀ j, j < i → lineS (Ls.getD j []) (sqF f) = lineS (Ls.getD 0 []) (sqF f)) ∧ Hp h h' nx' [.arr wt [I w, .nils], .arr bx [I (n : Int), encI f]]) (m := Ls.length) (by omega) ⟨0, 0, rfl, rfl, by omega, by omega, fun j hj => by omega, H2⟩ ?_
 rintro m z3 z5 z6 z7 z8 z11 z12 z13 z14 z15 z16 z17 z18 h3 nx3 R ⟨i, w, rfl, rfl, hi, hw, hall, H3⟩ hR
 simp only [sLss]
 by_cases hlt : i < Ls.length
 case neg =>
  simp only [show ¬ (i : Int) < (Ls.length : Int) by omega, decide_false, sCond_f]
  rw [F145.k17]
  exact hK _ _ _ _ _ H3 (frz_fixd rfl) (by rw [ep, decide_eq_true (fun j hj => hall j (by omega))])
 simp only [show (i : Int) < (Ls.length : Int) by omega, decide_true, sCond_t]
 have hx := getD_l hlt
 have hm := List.mem_of_getElem? hx
 obtain ⟨g1, g2⟩ := hn2 _ hm
 have hok := hln _ hm
 generalize hl : Ls.getD i [] = l at *
 rw [sIxL rfl hlt, ldL (getT hx)]
 refine of187 _ _ _ _ ?_
 rintro _ rfl _
 refine H3.alloc fun sb h4 nx4 H4 => ?_
 refine H4.storeN (l2 := [I 0, .nils]) (k := 0) rfl rfl rfl fun h5 H5 => ?_
 simp only [sLen_lst]
 refine F145.L7 (fun m x15 h' nx' => ∃ j : Nat, x15 = I j ∧ l.length - j = m ∧ j ≤ l.length ∧ Hp h h' nx' [.arr sb [I (lineS (l.take j) (sqF f)), .nils], .arr wt [I w, .nils], .arr bx [I (n : Int), encI f]]) (m := l.length) (by omega) ⟨0, rfl, rfl, by omega, H5⟩ ?_
 rintro m y8 y15 y16 h6 nx6 R2 ⟨j, rfl, rfl, hj, H6⟩ hR2
 simp only [sLss]
 by_cases hjt : j < l.length
 ·simp only [show (j : Int) < (l.length : Int) by omega, decide_true, sCond_t]
  have hy : l[j]? = some l[j] := List.getElem?_eq_getElem hjt
  have hr := hok.rng _ (List.getElem_mem hjt)
  obtain ⟨hg, hb⟩ := hok.get (List.getElem_mem hjt)
  have hbd := lineS_sqbd hok j (by omega)
  have hsq := sq_bd hb
  rw [sIxL rfl hjt, ldL (getI hy), H6.loadN (k := 0) (n := 2) rfl rfl]
  simp only [sFx]
  rw [H6.load (k := 2) (i := 0 + 1) rfl rfl, sIxL (i := l[j].toNat) (by omega) (by omega), ldL (getI hg)]
  refine of187 _ _ _ _ ?_
  rintro _ rfl _
  simp only [sSame_refl]
  rw [H6.loadN (k := 0) (n := 2) rfl rfl]
  simp only [sSame_refl]
  refine sq228 (by omega) _ _ _ _ ?_
  rintro _ rfl _
  rw [H6.loadN (k := 0) (n := 2) rfl rfl]
  simp only [sSame_refl]
  refine add197s (by omega) (by omega) _ _ _ _ ?_
  rintro _ rfl _
  refine H6.storeN (l2 := [I (lineS (l.take j) (sqF f) + f.getD l[j].toNat 0 * f.getD l[j].toNat 0), .nils]) (k := 0) rfl rfl rfl fun h7 H7 => ?_
  rw [sAdd (by omega)]
  exact hR2 _ _ _ _ _ _ (by omega) ⟨j + 1, rfl, rfl, by omega, H7.cast (by rw [lineS_sq hok hjt]; rfl)⟩
 simp only [show ¬ (j : Int) < (l.length : Int) by omega, decide_false, sCond_f]
 rw [List.take_of_length_le (by omega)] at H6
 rw [F145.k14]
 simp only [sEql]
 have fin : ∀ (w' : Int) (z : AV) (h7 : T Blk), w' = lineS (Ls.getD 0 []) (sqF f) → Hp h h7 nx6 [.arr sb [I (lineS l (sqF f)), .nils], .arr wt [I w', .nils], .arr bx [I (n : Int), encI f]] → ∀ z3 z5 z6 z8 z14 z15 z16 z17 z18 : AV, IR.run F145.b15 (CS Tryz.prog B) 1000 (((fnO F145.res K).blk 0 (IR.run F145.b17 (CS Tryz.prog B) 1000 (fnO F145.res K) (retK F145.res K))).blk 1 (IR.run F145.b16 (CS Tryz.prog B) 1000 ((fnO F145.res K).blk 0 (IR.run F145.b17 (CS Tryz.prog B) 1000 (fnO F145.res K) (retK F145.res K))) R)) (IR.run F145.b16 (CS Tryz.prog B) 1000 ((fnO F145.res K).blk 0 (IR.run F145.b17 (CS Tryz.prog B) 1000 (fnO F145.res K) (retK F145.res K))) R) (F145.fr (.agg [I (n : Int), encI f]) (I 2) (.ptr bx 0) z3 (.ptr wt 0) z5 z6 (.ptr sb 0) z8 (encT Ls) (I Ls.length) (I i) (.bool true) (encI l) z14 z15 z16 z17 z18) h7 nx6 = .ok True := by
  intro w' z h7 hw' H7 z3 z5 z6 z8 z14 z15 z16 z17 z18
  rw [F145.k15, H7.loadN (k := 0) (n := 2) rfl rfl, H7.loadN (k := 1) (n := 2) rfl rfl]
  refine cmp229s _ _ _ _ ?_
  rintro _ rfl _
  simp only [sNeq]
  by_cases e : lineS l (sqF f) = w'
  ·have : cmpI (lineS l (sqF f)) w' = 0 := by rw [cmpI, if_neg (by omega), if_neg (by omega)]
   simp only [this, decide_true, Bool.not_true, sCond_f]
   rw [F145.k16, sAdd (by omega)]
   refine hR _ _ _ _ _ _ _ _ _ _ _ _ _ _ _ _ (by omega) ⟨i + 1, w', rfl, rfl, by omega, fun _ => hw', fun j hj => ?_, H7.drop⟩
   by_cases ej : j = i
   ·rw [ej, hl, e, hw']
   ·exact hall j (by omega)
  ·have : ¬ cmpI (lineS l (sqF f)) w' = 0 := by
    rw [cmpI]
    by_cases q : lineS l (sqF f) < w'
    ·rw [if_pos q]; omega
    ·rw [if_neg q, if_pos (by omega)]; omega
   simp only [this, decide_false, Bool.not_false, sCond_t]
   refine hK _ _ _ _ _ H7 (frz_fixd rfl) ?_
   rw [ep, decide_eq_false fun q => e (by rw [← hl, q i hlt, hw'])]
 by_cases ci : i = 0
 ·simp only [show (i : Int) = 0 by omega, decide_true, sCond_t]
  rw [H6.loadN (k := 0) (n := 2) rfl rfl]
  refine H6.storeN (l2 := [I (lineS l (sqF f)), .nils]) (k := 1) rfl rfl rfl fun h7 H7 => ?_
  have := fin (lineS l (sqF f)) .undef h7 (by rw [← hl, ci]) H7
  simp only [ci] at this ⊢
  exact this _ _ _ _ _ _ _ _ _
 ·simp only [show ¬ (i : Int) = 0 by omega, decide_false, sCond_f]
  exact fin w .undef h6 (hw (by omega)) H6 _ _ _ _ _ _ _ _ _
end Go.Ev
namespace Go.Ev
open Go Go.Proofs
set_option maxRecDepth 100000
variable {N : Nat} {C : Calls Prop} {K0 : Kw Prop} {K R : Ks Prop} {h : T Blk} {nx : Pa} {x0 x1 x2 x3 x4 x5 x6 x7 x8 x9 x10 x11 x12 x13 x14 x15 x16 x17 x18 x19 x20 x21 x22 x23 x24 x25 a0 a1 : AV}
end Go.Ev
namespace Go.Ev
open Go Go.Proofs
variable {B : Nat}
set_option maxRecDepth 100000
theorem sEqlS {a b : List UInt8} {K : AV → OP} : sBin .eql .str (.str a) (.str b) K = K (.bool (decide (a = b))) := by
 have : sBin .eql .str (.str a) (.str b) K = K (.bool (bytesEq a b)) := rfl
 rw [this]
 by_cases c : a = b
 ·rw [decide_eq_true c, bytesEq_iff.2 c]
 ·rw [decide_eq_false c]
  cases q : bytesEq a b with
  | false => rfl
  | true => exact absurd (bytesEq_iff.1 q) c
theorem sNeqS {a b : List UInt8} {K : AV → OP} : sBin .neq .str (.str a) (.str b) K = K (.bool (!decide (a = b))) := by
 have : sBin .neq .str (.str a) (.str b) K = K (.bool (!bytesEq a b)) := rfl
 rw [this]
 by_cases c : a = b
 ·rw [decide_eq_true c, bytesEq_iff.2 c]
 ·rw [decide_eq_false c]
  cases q : bytesEq a b with
  | false => rfl
  | true => exact absurd (bytesEq_iff.1 q) c
theorem fixdS (l : List (List UInt8)) : ∀ v ∈ l.map AV.str, fixd v = true := fun v hv => by obtain ⟨x, _, rfl⟩ := List.mem_map.1 hv; rfl
theorem own_plain3 {P : Program} {f : Nat} {p id : Pa} {h0 h : T Blk} {nx : Pa} {L : List Ob} {k : Nat} {a b : Int} {l : List Int} {K : Kw Prop} {Q : AV → Prop} (H : Hp h0 h nx L) (hk : L[k]? = some (.arr id (l.map I))) (hq : ∀ B, Pure P B f [I a, I b, encI l] Q) (hpl : ∀ v, Q v → Plain v)
  (hK : ∀ v, Q v → K v h nx = .ok True) : (CS P B).fn f p [I a, I b, .sl id 0 l.length (some l.length) 1] h nx K = .ok True :=
 CS_plain (.cons (.int _ _) (.cons (.int _ _) (.cons (HasArr.frz (H.own _ (List.mem_of_getElem? hk)) (T.get_e _ id) (Nat.le_refl _) (by simp) (fixd_Is _)) .nil))) (by
  have := fixd_encI l
  simp only [nns, fixd.nn this, Bool.and_self, show nn (I a) = true from rfl, show nn (I b) = true from rfl]) hq hpl fun v hv _ => hK v hv
def rngE (a b : Int) (l : List Int) : Int := if l.any (fun x => decide (x < a) || decide (b < x)) then 3 else 0
theorem from87 {a b : Int} {h0 h : T Blk} {nx p : Pa} {L : List Ob} {l : List Int} {K : Kw Prop} {id : Pa} {k n : Nat} (hn : l.length = n) (hl : l.length ≤ 1000000) (H : Hp h0 h nx L) (hk : L[k]? = some (.arr id (l.map I))) (hK : K (I (rngE a b l)) h nx = .ok True) : (CS Tryz.prog B).fn 87 p [I a, I b, .sl id 0 n (some n) 1] h nx K = .ok True := by
 subst hn
 exact own_plain3 H hk (fun B => from122 hl) (fun v hv => by rw [hv]; exact .int _ _) fun v hv => by rw [hv]; exact hK
theorem rng1 {a b n : Int} : rngE a b [n] = if n < a ∨ b < n then 3 else 0 := by
 unfold rngE
 by_cases c1 : n < a <;> by_cases c2 : b < n <;> simp [c1, c2]
end Go.Ev
namespace Go.Ev
open Go Go.Proofs
set_option maxRecDepth 100000
variable {N : Nat} {C : Calls Prop} {K0 : Kw Prop} {K R : Ks Prop} {h : T Blk} {nx : Pa} {x0 x1 x2 x3 x4 x5 x6 x7 x8 x9 x10 x11 x12 a0 : AV}
theorem F51.g2_eq (X3 : IR) (O : Outs Prop) (t : T AV) : IR.run (F51.g2 X3) C N O K t h nx = IR.run X3 C N (O.blk 0 K) K t h nx := by kernel_rfl
theorem F51.tab : T.get none (.of 51) tbl = some F51 := by kernel_rfl
theorem F51.go : callFn tbl N C (.of 51) [a0] h nx K0 =
 sBox a0 h nx fun v1 h2 n3 =>
 sLoadN 3 v1 h2 fun v4 =>
 C.fn 140 (.of 140) [v4] h2 n3 fun v5 h6 n7 =>
 sBin .neq .int v5 (I 0) fun v8 =>
 sCond v8 (K0 (.tup [.nils, v5]) h6 n7) (C.fn 141 (.of 141) [] h6 n7 fun v9 h10 n11 =>
 sLen v9 fun v12 =>
 IR.run F51.b2 C N (fnO F51.res K0) (IR.run F51.b9 C N (fnO F51.res K0) (retK F51.res K0)) (F51.fr a0 v1 .nils (I 0) v5 .nils .undef v8 v9 v12 (I 0) .undef .undef) h10 n11) := by
 rw [callFn_of F51.tab]; kernel_rfl
theorem F51.L2 (Inv : Nat → AV → AV → T Blk → Pa → Prop) {m : Nat} (hm : m < N) (hi : Inv m x5 x10 h nx)
  (step : ∀ (m : Nat) (z5 z6 z10 z11 z12 : AV) (h : T Blk) (nx : Pa) (R : Ks Prop), Inv m z5 z10 h nx → (∀ (m' : Nat) (w5 w6 w10 w11 w12 : AV) (h' : T Blk) (nx' : Pa), m' < m → Inv m' w5 w10 h' nx' → R (F51.fr x0 x1 x2 x3 x4 w5 w6 x7 x8 x9 w10 w11 w12) h' nx' = .ok True) →
   (sBin .lss .int z10 x9 fun v1 =>
 sCond v1 (sIaddr 2 x8 z10 fun v2 =>
 sLoadN 2 v2 h fun v3 =>
 sAlloc [(.str []), .nilf] h nx fun v4 h5 n6 =>
 sStore 2 v4 v3 h5 n6 fun v7 h8 n9 =>
 sFaddr 1 v4 fun v10 =>
 sLoad v10 h8 fun v11 =>
 sFaddr 0 x1 fun v12 =>
 sLoad v12 h8 fun v13 =>
 sFaddr 2 x1 fun v14 =>
 sLoad v14 h8 fun v15 =>
 C.fn 142 (.of 142) [v15] h8 n9 fun v16 h17 n18 =>
 (sLoad v12 h17 fun v36 => sSame v36 v13 ((sFaddr 0 x1 fun v35 => sSame v35 v12 ((sLoad v10 h17 fun v34 => sSame v34 v11 ((sFaddr 1 v4 fun v33 => sSame v33 v10 (sBuild [(I 0), .nils] [(0, 1, v13), (1, 1, v16)] fun v19 =>
 sCall C v11 [v19] h17 n18 fun v20 h21 n22 =>
 sCond v20 (sFaddr 0 v4 fun v23 =>
 sLoad v23 h21 fun v24 =>
 sBslice 1 1 [(.str [])] [(0, 1, v24)] h21 n22 fun v25 h26 n27 =>
 sApp 1 16 z5 v25 h26 n27 fun v28 h29 n30 =>
 sBin .add .int z10 (I 1) fun v31 =>
 R (F51.fr x0 x1 x2 x3 x4 v28 v4 x7 x8 x9 v31 v1 v20) h29 n30) (sBin .add .int z10 (I 1) fun v32 =>
 R (F51.fr x0 x1 x2 x3 x4 z5 v4 x7 x8 x9 v32 v1 v20) h21 n22)))))))))) (K (F51.fr x0 x1 x2 x3 x4 z5 z6 x7 x8 x9 z10 v1 z12) h nx)) = .ok True) :
  IR.run F51.b2 C N (fnO F51.res K0) K (F51.fr x0 x1 x2 x3 x4 x5 x6 x7 x8 x9 x10 x11 x12) h nx = .ok True := by
 rw [F51.b2, F51.g2_eq, F51.b3]
 refine loop_ok (fun m tm h nx => ∃ z5 z6 z10 z11 z12, tm = (F51.fr x0 x1 x2 x3 x4 z5 z6 x7 x8 x9 z10 z11 z12) ∧ Inv m z5 z10 h nx) ?_ hm ⟨_, _, _, _, _, rfl, hi⟩
 rintro m tm h nx R ⟨z5, z6, z10, z11, z12, rfl, hi⟩ hR
 refine Eq.trans ?_ (step m z5 z6 z10 z11 z12 h nx R hi fun m' w5 w6 w10 w11 w12 h' nx' hlt hi' => hR m' _ h' nx' hlt ⟨_, _, _, _, _, rfl, hi'⟩)
 kernel_rfl
theorem F51.k9 : IR.run F51.b9 C N (fnO F51.res K0) K (F51.fr x0 x1 x2 x3 x4 x5 x6 x7 x8 x9 x10 x11 x12) h nx =
 K0 (.tup [x5, (I 0)]) h nx := by kernel_rfl
end Go.Ev
namespace Go.Ev
open Go Go.Proofs
set_option maxRecDepth 100000
variable {N : Nat} {C : Calls Prop} {K0 : Kw Prop} {K R : Ks Prop} {h : T Blk} {nx : Pa} {x0 x1 x2 x3 x4 x5 x6 x7 x8 a0 a1 : AV}
theorem F52.g1_eq (X2 : IR) (O : Outs Prop) (t : T AV) : IR.run (F52.g1 X2) C N O K t h nx = IR.run X2 C N (O.blk 0 K) K t h nx := by kernel_rfl
theorem F52.tab : T.get none (.of 52) tbl = some F52 := by kernel_rfl
theorem F52.go : callFn tbl N C (.of 52) [a0] h nx K0 =
 sLen a0 fun v1 =>
 IR.run F52.b1 C N (fnO F52.res K0) (IR.run F52.b8 C N (fnO F52.res K0) (retK F52.res K0)) (F52.fr a0 .nils .nils .undef a0 v1 (I 0) .undef .undef) h nx := by
 rw [callFn_of F52.tab]; kernel_rfl
theorem F52.L1 (Inv : Nat → AV → AV → T Blk → Pa → Prop) {m : Nat} (hm : m < N) (hi : Inv m x2 x6 h nx)
  (step : ∀ (m : Nat) (z2 z3 z6 z7 z8 : AV) (h : T Blk) (nx : Pa) (R : Ks Prop), Inv m z2 z6 h nx → (∀ (m' : Nat) (w2 w3 w6 w7 w8 : AV) (h' : T Blk) (nx' : Pa), m' < m → Inv m' w2 w6 h' nx' → R (F52.fr x0 x1 w2 w3 x4 x5 w6 w7 w8) h' nx' = .ok True) →
   (sBin .lss .int z6 x5 fun v1 =>
 sCond v1 (sIaddr 1 x4 z6 fun v2 =>
 sLoad v2 h fun v3 =>
 sBin .neq .str v3 (.str [110, 111, 114, 109, 97, 108]) fun v4 =>
 sCond v4 (sBslice 1 1 [(.str [])] [(0, 1, v3)] h nx fun v5 h6 n7 =>
 sApp 1 16 z2 v5 h6 n7 fun v8 h9 n10 =>
 sBin .add .int z6 (I 1) fun v11 =>
 R (F52.fr x0 x1 v8 v3 x4 x5 v11 v1 v4) h9 n10) (sBin .add .int z6 (I 1) fun v12 =>
 R (F52.fr x0 x1 z2 v3 x4 x5 v12 v1 v4) h nx)) (K (F52.fr x0 x1 z2 z3 x4 x5 z6 v1 z8) h nx)) = .ok True) :
  IR.run F52.b1 C N (fnO F52.res K0) K (F52.fr x0 x1 x2 x3 x4 x5 x6 x7 x8) h nx = .ok True := by
 rw [F52.b1, F52.g1_eq, F52.b2]
 refine loop_ok (fun m tm h nx => ∃ z2 z3 z6 z7 z8, tm = (F52.fr x0 x1 z2 z3 x4 x5 z6 z7 z8) ∧ Inv m z2 z6 h nx) ?_ hm ⟨_, _, _, _, _, rfl, hi⟩
 rintro m tm h nx R ⟨z2, z3, z6, z7, z8, rfl, hi⟩ hR
 refine Eq.trans ?_ (step m z2 z3 z6 z7 z8 h nx R hi fun m' w2 w3 w6 w7 w8 h' nx' hlt hi' => hR m' _ h' nx' hlt ⟨_, _, _, _, _, rfl, hi'⟩)
 kernel_rfl
theorem F52.k8 : IR.run F52.b8 C N (fnO F52.res K0) K (F52.fr x0 x1 x2 x3 x4 x5 x6 x7 x8) h nx =
 K0 x2 h nx := by kernel_rfl
theorem F53.g2_eq (X3 : IR) (O : Outs Prop) (t : T AV) : IR.run (F53.g2 X3) C N O K t h nx = IR.run X3 C N (O.blk 0 K) K t h nx := by kernel_rfl
theorem F53.tab : T.get none (.of 53) tbl = some F53 := by kernel_rfl
theorem F53.go : callFn tbl N C (.of 53) [a0, a1] h nx K0 =
 sLen a0 fun v1 =>
 sLen a1 fun v2 =>
 sBin .neq .int v1 v2 fun v3 =>
 sCond v3 (K0 (.bool false) h nx) (sLen a0 fun v4 =>
 IR.run F53.b2 C N (fnO F53.res K0) (IR.run F53.b9 C N (fnO F53.res K0) (retK F53.res K0)) (F53.fr a0 a1 (.bool false) .undef v3 v4 (I 0) .undef .undef) h nx) := by
 rw [callFn_of F53.tab]; kernel_rfl
theorem F53.L2 (Inv : Nat → AV → T Blk → Pa → Prop) {m : Nat} (hm : m < N) (hi : Inv m x6 h nx)
  (step : ∀ (m : Nat) (z2 z3 z6 z7 z8 : AV) (h : T Blk) (nx : Pa) (R : Ks Prop), Inv m z6 h nx → (∀ (m' : Nat) (w2 w3 w6 w7 w8 : AV) (h' : T Blk) (nx' : Pa), m' < m → Inv m' w6 h' nx' → R (F53.fr x0 x1 w2 w3 x4 x5 w6 w7 w8) h' nx' = .ok True) →
   (sBin .lss .int z6 x5 fun v1 =>
 sCond v1 (sIaddr 1 x0 z6 fun v2 =>
 sLoad v2 h fun v3 =>
 sIaddr 1 x1 z6 fun v4 =>
 sLoad v4 h fun v5 =>
 sBin .neq .str v3 v5 fun v6 =>
 sCond v6 (K0 (.bool false) h nx) (sBin .add .int z6 (I 1) fun v7 =>
 R (F53.fr x0 x1 z2 z6 x4 x5 v7 v1 v6) h nx)) (K (F53.fr x0 x1 z2 z3 x4 x5 z6 v1 z8) h nx)) = .ok True) :
  IR.run F53.b2 C N (fnO F53.res K0) K (F53.fr x0 x1 x2 x3 x4 x5 x6 x7 x8) h nx = .ok True := by
 rw [F53.b2, F53.g2_eq, F53.b3]
 refine loop_ok (fun m tm h nx => ∃ z2 z3 z6 z7 z8, tm = (F53.fr x0 x1 z2 z3 x4 x5 z6 z7 z8) ∧ Inv m z6 h nx) ?_ hm ⟨_, _, _, _, _, rfl, hi⟩
 rintro m tm h nx R ⟨z2, z3, z6, z7, z8, rfl, hi⟩ hR
 refine Eq.trans ?_ (step m z2 z3 z6 z7 z8 h nx R hi fun m' w2 w3 w6 w7 w8 h' nx' hlt hi' => hR m' _ h' nx' hlt ⟨_, _, _, _, _, rfl, hi'⟩)
 kernel_rfl
theorem F53.k9 : IR.run F53.b9 C N (fnO F53.res K0) K (F53.fr x0 x1 x2 x3 x4 x5 x6 x7 x8) h nx =
 K0 (.bool true) h nx := by kernel_rfl
theorem F54.g1_eq (X2 : IR) (O : Outs Prop) (t : T AV) : IR.run (F54.g1 X2) C N O K t h nx = IR.run X2 C N (O.blk 0 K) K t h nx := by kernel_rfl
theorem F54.tab : T.get none (.of 54) tbl = some F54 := by kernel_rfl
theorem F54.go : callFn tbl N C (.of 54) [a0, a1] h nx K0 =
 sLen a0 fun v1 =>
 IR.run F54.b1 C N (fnO F54.res K0) (IR.run F54.b8 C N (fnO F54.res K0) (retK F54.res K0)) (F54.fr a0 a1 (.bool false) .undef a0 v1 (I 0) .undef .undef) h nx := by
 rw [callFn_of F54.tab]; kernel_rfl
theorem F54.L1 (Inv : Nat → AV → T Blk → Pa → Prop) {m : Nat} (hm : m < N) (hi : Inv m x6 h nx)
  (step : ∀ (m : Nat) (z2 z3 z6 z7 z8 : AV) (h : T Blk) (nx : Pa) (R : Ks Prop), Inv m z6 h nx → (∀ (m' : Nat) (w2 w3 w6 w7 w8 : AV) (h' : T Blk) (nx' : Pa), m' < m → Inv m' w6 h' nx' → R (F54.fr x0 x1 w2 w3 x4 x5 w6 w7 w8) h' nx' = .ok True) →
   (sBin .lss .int z6 x5 fun v1 =>
 sCond v1 (sIaddr 1 x4 z6 fun v2 =>
 sLoad v2 h fun v3 =>
 sBin .eql .str v3 x1 fun v4 =>
 sCond v4 (K0 (.bool true) h nx) (sBin .add .int z6 (I 1) fun v5 =>
 R (F54.fr x0 x1 z2 v3 x4 x5 v5 v1 v4) h nx)) (K (F54.fr x0 x1 z2 z3 x4 x5 z6 v1 z8) h nx)) = .ok True) :
  IR.run F54.b1 C N (fnO F54.res K0) K (F54.fr x0 x1 x2 x3 x4 x5 x6 x7 x8) h nx = .ok True := by
 rw [F54.b1, F54.g1_eq, F54.b2]
 refine loop_ok (fun m tm h nx => ∃ z2 z3 z6 z7 z8, tm = (F54.fr x0 x1 z2 z3 x4 x5 z6 z7 z8) ∧ Inv m z6 h nx) ?_ hm ⟨_, _, _, _, _, rfl, hi⟩
 rintro m tm h nx R ⟨z2, z3, z6, z7, z8, rfl, hi⟩ hR
 refine Eq.trans ?_ (step m z2 z3 z6 z7 z8 h nx R hi fun m' w2 w3 w6 w7 w8 h' nx' hlt hi' => hR m' _ h' nx' hlt ⟨_, _, _, _, _, rfl, hi'⟩)
 kernel_rfl
theorem F54.k8 : IR.run F54.b8 C N (fnO F54.res K0) K (F54.fr x0 x1 x2 x3 x4 x5 x6 x7 x8) h nx =
 K0 (.bool false) h nx := by kernel_rfl
end Go.Ev
namespace Go.Ev
open Go Go.Proofs
set_option maxRecDepth 100000
section
variable {N : Nat} {C : Calls Prop} {K0 : Kw Prop} {K : Ks Prop} {h : T Blk} {nx : Pa} {x0 x1 x2 x3 x4 a0 : AV}
noncomputable def F50.t0 : IR := .reg [.w (.loc (.of 1)) none (.box (.t (.of 0))), .q (.of 2) (.mv (.c (I 0)))]
noncomputable def F50.r1_3 : List RO := .p .push (some ((.s 13), false)) (.pick (.s 9) (.s 0) (.c (.bool false))) :: .s (.pick (.s 14) (.c (.bool true)) (.s 0)) :: .s (.mv (.s 0)) :: .p .push (some ((.s 0), false)) (.faddr 0 (.t (.of 1))) :: .p .push (some ((.s 1), false)) (.load (.s 0)) :: .p .push (some ((.s 2), false)) (.bin .gtr .int (.s 0) (.c (I 1000))) :: .q (.of 3) (.pick (.s 3) (.c (.bool true)) (.s 0)) :: []
noncomputable def F50.r1_2 : List RO := .p .push (some ((.s 1), true)) (.load (.s 0)) :: .p .push (some ((.s 2), true)) (.len (.s 0)) :: .p .push (some ((.s 3), true)) (.faddr 0 (.t (.of 1))) :: .p .push (some ((.s 4), true)) (.load (.s 0)) :: .p .push (some ((.s 5), true)) (.faddr 0 (.t (.of 1))) :: .p .push (some ((.s 6), true)) (.load (.s 0)) :: .p .push (some ((.s 7), true)) (.bin .mul .int (.s 2) (.s 0)) :: .p .push (some ((.s 8), true)) (.bin .neq .int (.s 5) (.s 0)) :: F50.r1_3
noncomputable def F50.r1_1 : List RO := .p .push (some ((.s 2), false)) (.bin .lss .int (.s 0) (.c (I 0))) :: .s (.pick (.s 3) (.c (.bool true)) (.s 0)) :: .s (.mv (.s 0)) :: .p .push (some ((.s 0), false)) (.faddr 0 (.t (.of 1))) :: .p .push (some ((.s 1), false)) (.load (.s 0)) :: .p .push (some ((.s 2), false)) (.bin .leq .int (.s 0) (.c (I 1000))) :: .p .push (some ((.s 3), false)) (.mv (.s 0)) :: .p .push (some ((.s 0), true)) (.faddr 2 (.t (.of 1))) :: F50.r1_2
noncomputable def F50.r1_0 : List RO := .s (.faddr 0 (.t (.of 1))) :: .s (.load (.s 0)) :: .s (.faddr 1 (.t (.of 1))) :: .s (.load (.s 0)) :: .s (.bin .neq .int (.s 2) (.s 0)) :: .s (.mv (.s 0)) :: .p .push (some ((.s 0), false)) (.faddr 0 (.t (.of 1))) :: .p .push (some ((.s 1), false)) (.load (.s 0)) :: F50.r1_1
noncomputable def F50.t1 : IR := .reg F50.r1_0
noncomputable def F50.t2 : IR := .reg [.q (.of 2) (.mv (.c (I 2)))]
noncomputable def F50.t3 : IR := .seq F50.t2 .ret
noncomputable def F50.t4 : IR := .cond (.t (.of 3)) F50.t3 .skip
noncomputable def F50.t5 : IR := .seq F50.t1 F50.t4
noncomputable def F50.t6 : IR := .reg [.s (.faddr 0 (.t (.of 1))), .s (.load (.s 0)), .s (.bin .lss .int (.s 0) (.c (I 1))), .s (.mv (.s 0)), .p .push (some ((.s 0), false)) (.faddr 0 (.t (.of 1))), .p .push (some ((.s 1), false)) (.load (.s 0)), .p .push (some ((.s 2), false)) (.bin .gtr .int (.s 0) (.c (I 16))), .q (.of 4) (.pick (.s 3) (.c (.bool true)) (.s 0))]
noncomputable def F50.t7 : IR := .reg [.q (.of 2) (.mv (.c (I 3)))]
noncomputable def F50.t8 : IR := .seq F50.t7 .ret
noncomputable def F50.t9 : IR := .cond (.t (.of 4)) F50.t8 .skip
noncomputable def F50.t10 : IR := .seq F50.t6 F50.t9
noncomputable def F50.t11 : IR := .reg [.s (.faddr 2 (.t (.of 1))), .s (.load (.s 0)), .w .push none (.call (.c (.fn 102 (.of 102) [])) [(.s 0)]), .q (.of 2) (.mv (.s 0))]
noncomputable def F50.t12 : IR := .seq F50.t11 .ret
noncomputable def F50.t13 : IR := .seq F50.t10 F50.t12
noncomputable def F50.t14 : IR := .seq F50.t5 F50.t13
noncomputable def F50.t15 : IR := .seq F50.t0 F50.t14
theorem F50.t0_s {O : Outs Prop} : IR.run F50.t0 C N O K (F50.fr x0 x1 x2 x3 x4) h nx =
 sBox x0 h nx fun v1 h2 n3 =>
 K (F50.fr x0 v1 (I 0) x3 x4) h2 n3 := by kernel_rfl
theorem F50.t1_s {O : Outs Prop} {tm : T AV} : IR.run F50.t1 C N O K tm h nx = evOps F50.r1_0 C ⟨tm, []⟩ h nx (fun tm h nx => K tm.v h nx) := srun_reg ..
theorem F50.r1_0_g {r : List RO} {Kt : KTm} : evOps (.s (.faddr 0 (.t (.of 1))) :: .s (.load (.s 0)) :: .s (.faddr 1 (.t (.of 1))) :: .s (.load (.s 0)) :: .s (.bin .neq .int (.s 2) (.s 0)) :: .s (.mv (.s 0)) :: .p .push (some ((.s 0), false)) (.faddr 0 (.t (.of 1))) :: .p .push (some ((.s 1), false)) (.load (.s 0)) :: r) C ⟨(F50.fr x0 x1 x2 x3 x4), []⟩ h nx Kt =
 sFaddr 0 x1 fun v1 =>
 sLoad v1 h fun v2 =>
 sFaddr 1 x1 fun v3 =>
 sLoad v3 h fun v4 =>
 sBin .neq .int v2 v4 fun v5 =>
 sG v5 false (fun k => sFaddr 0 x1 k) fun v6 =>
 sG v5 false (fun k => sLoad v6 h k) fun v7 =>
 evOps r C ⟨(F50.fr x0 x1 x2 x3 x4), v7 :: v6 :: v5 :: v5 :: v4 :: v3 :: v2 :: v1 :: []⟩ h nx Kt := by kernel_rfl
theorem F50.r1_0_s {Kt : KTm} : evOps F50.r1_0 C ⟨(F50.fr x0 x1 x2 x3 x4), []⟩ h nx Kt =
 sFaddr 0 x1 fun v1 =>
 sLoad v1 h fun v2 =>
 sFaddr 1 x1 fun v3 =>
 sLoad v3 h fun v4 =>
 sBin .neq .int v2 v4 fun v5 =>
 sG v5 false (fun k => sFaddr 0 x1 k) fun v6 =>
 sG v5 false (fun k => sLoad v6 h k) fun v7 =>
 evOps F50.r1_1 C ⟨(F50.fr x0 x1 x2 x3 x4), v7 :: v6 :: v5 :: v5 :: v4 :: v3 :: v2 :: v1 :: []⟩ h nx Kt := F50.r1_0_g
theorem F50.r1_1_g {s0 s1 s2 s3 s4 s5 s6 s7 : AV} {r : List RO} {Kt : KTm} : evOps (.p .push (some ((.s 2), false)) (.bin .lss .int (.s 0) (.c (I 0))) :: .s (.pick (.s 3) (.c (.bool true)) (.s 0)) :: .s (.mv (.s 0)) :: .p .push (some ((.s 0), false)) (.faddr 0 (.t (.of 1))) :: .p .push (some ((.s 1), false)) (.load (.s 0)) :: .p .push (some ((.s 2), false)) (.bin .leq .int (.s 0) (.c (I 1000))) :: .p .push (some ((.s 3), false)) (.mv (.s 0)) :: .p .push (some ((.s 0), true)) (.faddr 2 (.t (.of 1))) :: r) C ⟨(F50.fr x0 x1 x2 x3 x4), s0 :: s1 :: s2 :: s3 :: s4 :: s5 :: s6 :: s7 :: []⟩ h nx Kt =
 sG s2 false (fun k => sBin .lss .int s0 (I 0) k) fun v1 =>
 sPick s2 (.bool true) v1 fun v2 =>
 sG v2 false (fun k => sFaddr 0 x1 k) fun v3 =>
 sG v2 false (fun k => sLoad v3 h k) fun v4 =>
 sG v2 false (fun k => sBin .leq .int v4 (I 1000) k) fun v5 =>
 sG v2 false (fun k => k v5) fun v6 =>
 sG v6 true (fun k => sFaddr 2 x1 k) fun v7 =>
 evOps r C ⟨(F50.fr x0 x1 x2 x3 x4), v7 :: v6 :: v5 :: v4 :: v3 :: v2 :: v2 :: v1 :: s0 :: s1 :: s2 :: s3 :: s4 :: s5 :: s6 :: s7 :: []⟩ h nx Kt := by kernel_rfl
theorem F50.r1_1_s {s0 s1 s2 s3 s4 s5 s6 s7 : AV} {Kt : KTm} : evOps F50.r1_1 C ⟨(F50.fr x0 x1 x2 x3 x4), s0 :: s1 :: s2 :: s3 :: s4 :: s5 :: s6 :: s7 :: []⟩ h nx Kt =
 sG s2 false (fun k => sBin .lss .int s0 (I 0) k) fun v1 =>
 sPick s2 (.bool true) v1 fun v2 =>
 sG v2 false (fun k => sFaddr 0 x1 k) fun v3 =>
 sG v2 false (fun k => sLoad v3 h k) fun v4 =>
 sG v2 false (fun k => sBin .leq .int v4 (I 1000) k) fun v5 =>
 sG v2 false (fun k => k v5) fun v6 =>
 sG v6 true (fun k => sFaddr 2 x1 k) fun v7 =>
 evOps F50.r1_2 C ⟨(F50.fr x0 x1 x2 x3 x4), v7 :: v6 :: v5 :: v4 :: v3 :: v2 :: v2 :: v1 :: s0 :: s1 :: s2 :: s3 :: s4 :: s5 :: s6 :: s7 :: []⟩ h nx Kt := F50.r1_1_g
theorem F50.r1_2_g {s0 s1 s2 s3 s4 s5 s6 s7 s8 s9 s10 s11 s12 s13 s14 s15 : AV} {r : List RO} {Kt : KTm} : evOps (.p .push (some ((.s 1), true)) (.load (.s 0)) :: .p .push (some ((.s 2), true)) (.len (.s 0)) :: .p .push (some ((.s 3), true)) (.faddr 0 (.t (.of 1))) :: .p .push (some ((.s 4), true)) (.load (.s 0)) :: .p .push (some ((.s 5), true)) (.faddr 0 (.t (.of 1))) :: .p .push (some ((.s 6), true)) (.load (.s 0)) :: .p .push (some ((.s 7), true)) (.bin .mul .int (.s 2) (.s 0)) :: .p .push (some ((.s 8), true)) (.bin .neq .int (.s 5) (.s 0)) :: r) C ⟨(F50.fr x0 x1 x2 x3 x4), s0 :: s1 :: s2 :: s3 :: s4 :: s5 :: s6 :: s7 :: s8 :: s9 :: s10 :: s11 :: s12 :: s13 :: s14 :: s15 :: []⟩ h nx Kt =
 sG s1 true (fun k => sLoad s0 h k) fun v1 =>
 sG s1 true (fun k => sLen v1 k) fun v2 =>
 sG s1 true (fun k => sFaddr 0 x1 k) fun v3 =>
 sG s1 true (fun k => sLoad v3 h k) fun v4 =>
 sG s1 true (fun k => sFaddr 0 x1 k) fun v5 =>
 sG s1 true (fun k => sLoad v5 h k) fun v6 =>
 sG s1 true (fun k => sBin .mul .int v4 v6 k) fun v7 =>
 sG s1 true (fun k => sBin .neq .int v2 v7 k) fun v8 =>
 evOps r C ⟨(F50.fr x0 x1 x2 x3 x4), v8 :: v7 :: v6 :: v5 :: v4 :: v3 :: v2 :: v1 :: s0 :: s1 :: s2 :: s3 :: s4 :: s5 :: s6 :: s7 :: s8 :: s9 :: s10 :: s11 :: s12 :: s13 :: s14 :: s15 :: []⟩ h nx Kt := by kernel_rfl
theorem F50.r1_2_s {s0 s1 s2 s3 s4 s5 s6 s7 s8 s9 s10 s11 s12 s13 s14 s15 : AV} {Kt : KTm} : evOps F50.r1_2 C ⟨(F50.fr x0 x1 x2 x3 x4), s0 :: s1 :: s2 :: s3 :: s4 :: s5 :: s6 :: s7 :: s8 :: s9 :: s10 :: s11 :: s12 :: s13 :: s14 :: s15 :: []⟩ h nx Kt =
 sG s1 true (fun k => sLoad s0 h k) fun v1 =>
 sG s1 true (fun k => sLen v1 k) fun v2 =>
 sG s1 true (fun k => sFaddr 0 x1 k) fun v3 =>
 sG s1 true (fun k => sLoad v3 h k) fun v4 =>
 sG s1 true (fun k => sFaddr 0 x1 k) fun v5 =>
 sG s1 true (fun k => sLoad v5 h k) fun v6 =>
 sG s1 true (fun k => sBin .mul .int v4 v6 k) fun v7 =>
 sG s1 true (fun k => sBin .neq .int v2 v7 k) fun v8 =>
 evOps F50.r1_3 C ⟨(F50.fr x0 x1 x2 x3 x4), v8 :: v7 :: v6 :: v5 :: v4 :: v3 :: v2 :: v1 :: s0 :: s1 :: s2 :: s3 :: s4 :: s5 :: s6 :: s7 :: s8 :: s9 :: s10 :: s11 :: s12 :: s13 :: s14 :: s15 :: []⟩ h nx Kt := F50.r1_2_g
theorem F50.r1_3_g {s0 s1 s2 s3 s4 s5 s6 s7 s8 s9 s10 s11 s12 s13 s14 s15 s16 s17 s18 s19 s20 s21 s22 s23 : AV} {Kt : KTm} : evOps (.p .push (some ((.s 13), false)) (.pick (.s 9) (.s 0) (.c (.bool false))) :: .s (.pick (.s 14) (.c (.bool true)) (.s 0)) :: .s (.mv (.s 0)) :: .p .push (some ((.s 0), false)) (.faddr 0 (.t (.of 1))) :: .p .push (some ((.s 1), false)) (.load (.s 0)) :: .p .push (some ((.s 2), false)) (.bin .gtr .int (.s 0) (.c (I 1000))) :: .q (.of 3) (.pick (.s 3) (.c (.bool true)) (.s 0)) :: []) C ⟨(F50.fr x0 x1 x2 x3 x4), s0 :: s1 :: s2 :: s3 :: s4 :: s5 :: s6 :: s7 :: s8 :: s9 :: s10 :: s11 :: s12 :: s13 :: s14 :: s15 :: s16 :: s17 :: s18 :: s19 :: s20 :: s21 :: s22 :: s23 :: []⟩ h nx Kt =
 sG s13 false (fun k => sPick s9 s0 (.bool false) k) fun v1 =>
 sPick s13 (.bool true) v1 fun v2 =>
 sG v2 false (fun k => sFaddr 0 x1 k) fun v3 =>
 sG v2 false (fun k => sLoad v3 h k) fun v4 =>
 sG v2 false (fun k => sBin .gtr .int v4 (I 1000) k) fun v5 =>
 sPick v2 (.bool true) v5 fun v6 =>
 Kt ⟨(F50.fr x0 x1 x2 v6 x4), v5 :: v4 :: v3 :: v2 :: v2 :: v1 :: s0 :: s1 :: s2 :: s3 :: s4 :: s5 :: s6 :: s7 :: s8 :: s9 :: s10 :: s11 :: s12 :: s13 :: s14 :: s15 :: s16 :: s17 :: s18 :: s19 :: s20 :: s21 :: s22 :: s23 :: []⟩ h nx := by kernel_rfl
theorem F50.r1_3_s {s0 s1 s2 s3 s4 s5 s6 s7 s8 s9 s10 s11 s12 s13 s14 s15 s16 s17 s18 s19 s20 s21 s22 s23 : AV} {Kt : KTm} : evOps F50.r1_3 C ⟨(F50.fr x0 x1 x2 x3 x4), s0 :: s1 :: s2 :: s3 :: s4 :: s5 :: s6 :: s7 :: s8 :: s9 :: s10 :: s11 :: s12 :: s13 :: s14 :: s15 :: s16 :: s17 :: s18 :: s19 :: s20 :: s21 :: s22 :: s23 :: []⟩ h nx Kt =
 sG s13 false (fun k => sPick s9 s0 (.bool false) k) fun v1 =>
 sPick s13 (.bool true) v1 fun v2 =>
 sG v2 false (fun k => sFaddr 0 x1 k) fun v3 =>
 sG v2 false (fun k => sLoad v3 h k) fun v4 =>
 sG v2 false (fun k => sBin .gtr .int v4 (I 1000) k) fun v5 =>
 sPick v2 (.bool true) v5 fun v6 =>
 Kt ⟨(F50.fr x0 x1 x2 v6 x4), v5 :: v4 :: v3 :: v2 :: v2 :: v1 :: s0 :: s1 :: s2 :: s3 :: s4 :: s5 :: s6 :: s7 :: s8 :: s9 :: s10 :: s11 :: s12 :: s13 :: s14 :: s15 :: s16 :: s17 :: s18 :: s19 :: s20 :: s21 :: s22 :: s23 :: []⟩ h nx := F50.r1_3_g
theorem F50.t2_s {O : Outs Prop} : IR.run F50.t2 C N O K (F50.fr x0 x1 x2 x3 x4) h nx =
 K (F50.fr x0 x1 (I 2) x3 x4) h nx := by kernel_rfl
theorem F50.t3_s {O : Outs Prop} {tm : T AV} : IR.run F50.t3 C N O K tm h nx = IR.run F50.t2 C N O (IR.run .ret C N O K) tm h nx := srun_seq ..
theorem F50.t4_s {O : Outs Prop} : IR.run F50.t4 C N O K (F50.fr x0 x1 x2 x3 x4) h nx = sCond x3 (IR.run F50.t3 C N O K (F50.fr x0 x1 x2 x3 x4) h nx) (IR.run .skip C N O K (F50.fr x0 x1 x2 x3 x4) h nx) := by
 have g : ∀ A B : IR, IR.run (.cond (.t (.of 3)) A B) C N O K (F50.fr x0 x1 x2 x3 x4) h nx = sCond x3 (IR.run A C N O K (F50.fr x0 x1 x2 x3 x4) h nx) (IR.run B C N O K (F50.fr x0 x1 x2 x3 x4) h nx) := fun A B => by kernel_rfl
 exact g _ _
theorem F50.t5_s {O : Outs Prop} {tm : T AV} : IR.run F50.t5 C N O K tm h nx = IR.run F50.t1 C N O (IR.run F50.t4 C N O K) tm h nx := srun_seq ..
theorem F50.t6_s {O : Outs Prop} : IR.run F50.t6 C N O K (F50.fr x0 x1 x2 x3 x4) h nx =
 sFaddr 0 x1 fun v1 =>
 sLoad v1 h fun v2 =>
 sBin .lss .int v2 (I 1) fun v3 =>
 sG v3 false (fun k => sFaddr 0 x1 k) fun v4 =>
 sG v3 false (fun k => sLoad v4 h k) fun v5 =>
 sG v3 false (fun k => sBin .gtr .int v5 (I 16) k) fun v6 =>
 sPick v3 (.bool true) v6 fun v7 =>
 K (F50.fr x0 x1 x2 x3 v7) h nx := by kernel_rfl
theorem F50.t7_s {O : Outs Prop} : IR.run F50.t7 C N O K (F50.fr x0 x1 x2 x3 x4) h nx =
 K (F50.fr x0 x1 (I 3) x3 x4) h nx := by kernel_rfl
theorem F50.t8_s {O : Outs Prop} {tm : T AV} : IR.run F50.t8 C N O K tm h nx = IR.run F50.t7 C N O (IR.run .ret C N O K) tm h nx := srun_seq ..
theorem F50.t9_s {O : Outs Prop} : IR.run F50.t9 C N O K (F50.fr x0 x1 x2 x3 x4) h nx = sCond x4 (IR.run F50.t8 C N O K (F50.fr x0 x1 x2 x3 x4) h nx) (IR.run .skip C N O K (F50.fr x0 x1 x2 x3 x4) h nx) := by
 have g : ∀ A B : IR, IR.run (.cond (.t (.of 4)) A B) C N O K (F50.fr x0 x1 x2 x3 x4) h nx = sCond x4 (IR.run A C N O K (F50.fr x0 x1 x2 x3 x4) h nx) (IR.run B C N O K (F50.fr x0 x1 x2 x3 x4) h nx) := fun A B => by kernel_rfl
 exact g _ _
theorem F50.t10_s {O : Outs Prop} {tm : T AV} : IR.run F50.t10 C N O K tm h nx = IR.run F50.t6 C N O (IR.run F50.t9 C N O K) tm h nx := srun_seq ..
theorem F50.t11_s {O : Outs Prop} : IR.run F50.t11 C N O K (F50.fr x0 x1 x2 x3 x4) h nx =
 sFaddr 2 x1 fun v1 =>
 sLoad v1 h fun v2 =>
 C.fn 102 (.of 102) [v2] h nx fun v3 h4 n5 =>
 K (F50.fr x0 x1 v3 x3 x4) h4 n5 := by kernel_rfl
theorem F50.t12_s {O : Outs Prop} {tm : T AV} : IR.run F50.t12 C N O K tm h nx = IR.run F50.t11 C N O (IR.run .ret C N O K) tm h nx := srun_seq ..
theorem F50.t13_s {O : Outs Prop} {tm : T AV} : IR.run F50.t13 C N O K tm h nx = IR.run F50.t10 C N O (IR.run F50.t12 C N O K) tm h nx := srun_seq ..
theorem F50.t14_s {O : Outs Prop} {tm : T AV} : IR.run F50.t14 C N O K tm h nx = IR.run F50.t5 C N O (IR.run F50.t13 C N O K) tm h nx := srun_seq ..
theorem F50.t15_s {O : Outs Prop} {tm : T AV} : IR.run F50.t15 C N O K tm h nx = IR.run F50.t0 C N O (IR.run F50.t14 C N O K) tm h nx := srun_seq ..
theorem F50.tab : T.get none (.of 50) tbl = some F50 := by kernel_rfl
theorem F50.bind (k : T AV → OP) : bindArgs F50.params [a0] F50.init k = k (F50.fr a0 .undef .undef .undef .undef) := by kernel_rfl
theorem F50.body_eq : F50.body = F50.t15 := by kernel_rfl
theorem F50.go : callFn tbl N C (.of 50) [a0] h nx K0 = IR.run F50.t15 C N (fnO F50.res K0) (retK F50.res K0) (F50.fr a0 .undef .undef .undef .undef) h nx := by
 rw [callFn_of F50.tab, F50.bind, F50.body_eq]; kernel_rfl
theorem F50.ret : retK F50.res K0 (F50.fr x0 x1 x2 x3 x4) h nx = K0 x2 h nx := by kernel_rfl
noncomputable def F140.t0 : IR := .reg [.w (.loc (.of 1)) none (.box (.t (.of 0))), .q (.of 2) (.mv (.c (I 0)))]
noncomputable def F140.r1_3 : List RO := .p .push (some ((.s 8), false)) (.bin .neq .int (.s 5) (.s 0)) :: .q (.of 3) (.pick (.s 9) (.c (.bool true)) (.s 0)) :: []
noncomputable def F140.r1_2 : List RO := .p .push (some ((.s 0), false)) (.faddr 2 (.t (.of 1))) :: .p .push (some ((.s 1), false)) (.load (.s 0)) :: .p .push (some ((.s 2), false)) (.len (.s 0)) :: .p .push (some ((.s 3), false)) (.faddr 0 (.t (.of 1))) :: .p .push (some ((.s 4), false)) (.load (.s 0)) :: .p .push (some ((.s 5), false)) (.faddr 1 (.t (.of 1))) :: .p .push (some ((.s 6), false)) (.load (.s 0)) :: .p .push (some ((.s 7), false)) (.bin .mul .int (.s 2) (.s 0)) :: F140.r1_3
noncomputable def F140.r1_1 : List RO := .p .push (some ((.s 2), false)) (.bin .lss .int (.s 0) (.c (I 0))) :: .s (.pick (.s 3) (.c (.bool true)) (.s 0)) :: .s (.mv (.s 0)) :: .p .push (some ((.s 0), false)) (.faddr 0 (.t (.of 1))) :: .p .push (some ((.s 1), false)) (.load (.s 0)) :: .p .push (some ((.s 2), false)) (.bin .gtr .int (.s 0) (.c (I 1048576))) :: .s (.pick (.s 3) (.c (.bool true)) (.s 0)) :: .s (.mv (.s 0)) :: F140.r1_2
noncomputable def F140.r1_0 : List RO := .s (.faddr 0 (.t (.of 1))) :: .s (.load (.s 0)) :: .s (.faddr 1 (.t (.of 1))) :: .s (.load (.s 0)) :: .s (.bin .neq .int (.s 2) (.s 0)) :: .s (.mv (.s 0)) :: .p .push (some ((.s 0), false)) (.faddr 0 (.t (.of 1))) :: .p .push (some ((.s 1), false)) (.load (.s 0)) :: F140.r1_1
noncomputable def F140.t1 : IR := .reg F140.r1_0
noncomputable def F140.t2 : IR := .reg [.q (.of 2) (.mv (.c (I 2)))]
noncomputable def F140.t3 : IR := .seq F140.t2 .ret
noncomputable def F140.t4 : IR := .cond (.t (.of 3)) F140.t3 .skip
noncomputable def F140.t5 : IR := .seq F140.t1 F140.t4
noncomputable def F140.t6 : IR := .dreg [] [(.s (.faddr 0 (.t (.of 1))), 0, []), (.s (.load (.s 0)), 0, []), (.s (.faddr 2 (.t (.of 1))), 2, []), (.s (.load (.s 0)), 2, []), (.w .push none (.bslice 1 1 [(I 0)] [(0, 1, (.s 2))]), 0, []), (.w .push none (.call (.c (.fn 87 (.of 87) [])) [(.c (I 1)), (.c (I 16)), (.s 0)]), 0, []), (.w .push none (.call (.c (.fn 183 (.of 183) [])) [(.s 2)]), 0, []), (.w .push none (.bslice 1 2 [(I 0)] [(0, 1, (.s 1)), (1, 1, (.s 0))]), 0, []), (.w .push none (.call (.c (.fn 86 (.of 86) [])) [(.s 0)]), 0, []), (.q (.of 2) (.mv (.s 0)), 0, [])]
noncomputable def F140.t7 : IR := .seq F140.t6 .ret
noncomputable def F140.t8 : IR := .seq F140.t5 F140.t7
noncomputable def F140.t9 : IR := .seq F140.t0 F140.t8
theorem F140.t0_s {O : Outs Prop} : IR.run F140.t0 C N O K (F140.fr x0 x1 x2 x3) h nx =
 sBox x0 h nx fun v1 h2 n3 =>
 K (F140.fr x0 v1 (I 0) x3) h2 n3 := by kernel_rfl
theorem F140.t1_s {O : Outs Prop} {tm : T AV} : IR.run F140.t1 C N O K tm h nx = evOps F140.r1_0 C ⟨tm, []⟩ h nx (fun tm h nx => K tm.v h nx) := srun_reg ..
theorem F140.r1_0_g {r : List RO} {Kt : KTm} : evOps (.s (.faddr 0 (.t (.of 1))) :: .s (.load (.s 0)) :: .s (.faddr 1 (.t (.of 1))) :: .s (.load (.s 0)) :: .s (.bin .neq .int (.s 2) (.s 0)) :: .s (.mv (.s 0)) :: .p .push (some ((.s 0), false)) (.faddr 0 (.t (.of 1))) :: .p .push (some ((.s 1), false)) (.load (.s 0)) :: r) C ⟨(F140.fr x0 x1 x2 x3), []⟩ h nx Kt =
 sFaddr 0 x1 fun v1 =>
 sLoad v1 h fun v2 =>
 sFaddr 1 x1 fun v3 =>
 sLoad v3 h fun v4 =>
 sBin .neq .int v2 v4 fun v5 =>
 sG v5 false (fun k => sFaddr 0 x1 k) fun v6 =>
 sG v5 false (fun k => sLoad v6 h k) fun v7 =>
 evOps r C ⟨(F140.fr x0 x1 x2 x3), v7 :: v6 :: v5 :: v5 :: v4 :: v3 :: v2 :: v1 :: []⟩ h nx Kt := by kernel_rfl
theorem F140.r1_0_s {Kt : KTm} : evOps F140.r1_0 C ⟨(F140.fr x0 x1 x2 x3), []⟩ h nx Kt =
 sFaddr 0 x1 fun v1 =>
 sLoad v1 h fun v2 =>
 sFaddr 1 x1 fun v3 =>
 sLoad v3 h fun v4 =>
 sBin .neq .int v2 v4 fun v5 =>
 sG v5 false (fun k => sFaddr 0 x1 k) fun v6 =>
 sG v5 false (fun k => sLoad v6 h k) fun v7 =>
 evOps F140.r1_1 C ⟨(F140.fr x0 x1 x2 x3), v7 :: v6 :: v5 :: v5 :: v4 :: v3 :: v2 :: v1 :: []⟩ h nx Kt := F140.r1_0_g
theorem F140.r1_1_g {s0 s1 s2 s3 s4 s5 s6 s7 : AV} {r : List RO} {Kt : KTm} : evOps (.p .push (some ((.s 2), false)) (.bin .lss .int (.s 0) (.c (I 0))) :: .s (.pick (.s 3) (.c (.bool true)) (.s 0)) :: .s (.mv (.s 0)) :: .p .push (some ((.s 0), false)) (.faddr 0 (.t (.of 1))) :: .p .push (some ((.s 1), false)) (.load (.s 0)) :: .p .push (some ((.s 2), false)) (.bin .gtr .int (.s 0) (.c (I 1048576))) :: .s (.pick (.s 3) (.c (.bool true)) (.s 0)) :: .s (.mv (.s 0)) :: r) C ⟨(F140.fr x0 x1 x2 x3), s0 :: s1 :: s2 :: s3 :: s4 :: s5 :: s6 :: s7 :: []⟩ h nx Kt =
 sG s2 false (fun k => sBin .lss .int s0 (I 0) k) fun v1 =>
 sPick s2 (.bool true) v1 fun v2 =>
 sG v2 false (fun k => sFaddr 0 x1 k) fun v3 =>
 sG v2 false (fun k => sLoad v3 h k) fun v4 =>
 sG v2 false (fun k => sBin .gtr .int v4 (I 1048576) k) fun v5 =>
 sPick v2 (.bool true) v5 fun v6 =>
 evOps r C ⟨(F140.fr x0 x1 x2 x3), v6 :: v6 :: v5 :: v4 :: v3 :: v2 :: v2 :: v1 :: s0 :: s1 :: s2 :: s3 :: s4 :: s5 :: s6 :: s7 :: []⟩ h nx Kt := by kernel_rfl
theorem F140.r1_1_s {s0 s1 s2 s3 s4 s5 s6 s7 : AV} {Kt : KTm} : evOps F140.r1_1 C ⟨(F140.fr x0 x1 x2 x3), s0 :: s1 :: s2 :: s3 :: s4 :: s5 :: s6 :: s7 :: []⟩ h nx Kt =
 sG s2 false (fun k => sBin .lss .int s0 (I 0) k) fun v1 =>
 sPick s2 (.bool true) v1 fun v2 =>
 sG v2 false (fun k => sFaddr 0 x1 k) fun v3 =>
 sG v2 false (fun k => sLoad v3 h k) fun v4 =>
 sG v2 false (fun k => sBin .gtr .int v4 (I 1048576) k) fun v5 =>
 sPick v2 (.bool true) v5 fun v6 =>
 evOps F140.r1_2 C ⟨(F140.fr x0 x1 x2 x3), v6 :: v6 :: v5 :: v4 :: v3 :: v2 :: v2 :: v1 :: s0 :: s1 :: s2 :: s3 :: s4 :: s5 :: s6 :: s7 :: []⟩ h nx Kt := F140.r1_1_g
theorem F140.r1_2_g {s0 s1 s2 s3 s4 s5 s6 s7 s8 s9 s10 s11 s12 s13 s14 s15 : AV} {r : List RO} {Kt : KTm} : evOps (.p .push (some ((.s 0), false)) (.faddr 2 (.t (.of 1))) :: .p .push (some ((.s 1), false)) (.load (.s 0)) :: .p .push (some ((.s 2), false)) (.len (.s 0)) :: .p .push (some ((.s 3), false)) (.faddr 0 (.t (.of 1))) :: .p .push (some ((.s 4), false)) (.load (.s 0)) :: .p .push (some ((.s 5), false)) (.faddr 1 (.t (.of 1))) :: .p .push (some ((.s 6), false)) (.load (.s 0)) :: .p .push (some ((.s 7), false)) (.bin .mul .int (.s 2) (.s 0)) :: r) C ⟨(F140.fr x0 x1 x2 x3), s0 :: s1 :: s2 :: s3 :: s4 :: s5 :: s6 :: s7 :: s8 :: s9 :: s10 :: s11 :: s12 :: s13 :: s14 :: s15 :: []⟩ h nx Kt =
 sG s0 false (fun k => sFaddr 2 x1 k) fun v1 =>
 sG s0 false (fun k => sLoad v1 h k) fun v2 =>
 sG s0 false (fun k => sLen v2 k) fun v3 =>
 sG s0 false (fun k => sFaddr 0 x1 k) fun v4 =>
 sG s0 false (fun k => sLoad v4 h k) fun v5 =>
 sG s0 false (fun k => sFaddr 1 x1 k) fun v6 =>
 sG s0 false (fun k => sLoad v6 h k) fun v7 =>
 sG s0 false (fun k => sBin .mul .int v5 v7 k) fun v8 =>
 evOps r C ⟨(F140.fr x0 x1 x2 x3), v8 :: v7 :: v6 :: v5 :: v4 :: v3 :: v2 :: v1 :: s0 :: s1 :: s2 :: s3 :: s4 :: s5 :: s6 :: s7 :: s8 :: s9 :: s10 :: s11 :: s12 :: s13 :: s14 :: s15 :: []⟩ h nx Kt := by kernel_rfl
theorem F140.r1_2_s {s0 s1 s2 s3 s4 s5 s6 s7 s8 s9 s10 s11 s12 s13 s14 s15 : AV} {Kt : KTm} : evOps F140.r1_2 C ⟨(F140.fr x0 x1 x2 x3), s0 :: s1 :: s2 :: s3 :: s4 :: s5 :: s6 :: s7 :: s8 :: s9 :: s10 :: s11 :: s12 :: s13 :: s14 :: s15 :: []⟩ h nx Kt =
 sG s0 false (fun k => sFaddr 2 x1 k) fun v1 =>
 sG s0 false (fun k => sLoad v1 h k) fun v2 =>
 sG s0 false (fun k => sLen v2 k) fun v3 =>
 sG s0 false (fun k => sFaddr 0 x1 k) fun v4 =>
 sG s0 false (fun k => sLoad v4 h k) fun v5 =>
 sG s0 false (fun k => sFaddr 1 x1 k) fun v6 =>
 sG s0 false (fun k => sLoad v6 h k) fun v7 =>
 sG s0 false (fun k => sBin .mul .int v5 v7 k) fun v8 =>
 evOps F140.r1_3 C ⟨(F140.fr x0 x1 x2 x3), v8 :: v7 :: v6 :: v5 :: v4 :: v3 :: v2 :: v1 :: s0 :: s1 :: s2 :: s3 :: s4 :: s5 :: s6 :: s7 :: s8 :: s9 :: s10 :: s11 :: s12 :: s13 :: s14 :: s15 :: []⟩ h nx Kt := F140.r1_2_g
theorem F140.r1_3_g {s0 s1 s2 s3 s4 s5 s6 s7 s8 s9 s10 s11 s12 s13 s14 s15 s16 s17 s18 s19 s20 s21 s22 s23 : AV} {Kt : KTm} : evOps (.p .push (some ((.s 8), false)) (.bin .neq .int (.s 5) (.s 0)) :: .q (.of 3) (.pick (.s 9) (.c (.bool true)) (.s 0)) :: []) C ⟨(F140.fr x0 x1 x2 x3), s0 :: s1 :: s2 :: s3 :: s4 :: s5 :: s6 :: s7 :: s8 :: s9 :: s10 :: s11 :: s12 :: s13 :: s14 :: s15 :: s16 :: s17 :: s18 :: s19 :: s20 :: s21 :: s22 :: s23 :: []⟩ h nx Kt =
 sG s8 false (fun k => sBin .neq .int s5 s0 k) fun v1 =>
 sPick s8 (.bool true) v1 fun v2 =>
 Kt ⟨(F140.fr x0 x1 x2 v2), v1 :: s0 :: s1 :: s2 :: s3 :: s4 :: s5 :: s6 :: s7 :: s8 :: s9 :: s10 :: s11 :: s12 :: s13 :: s14 :: s15 :: s16 :: s17 :: s18 :: s19 :: s20 :: s21 :: s22 :: s23 :: []⟩ h nx := by kernel_rfl
theorem F140.r1_3_s {s0 s1 s2 s3 s4 s5 s6 s7 s8 s9 s10 s11 s12 s13 s14 s15 s16 s17 s18 s19 s20 s21 s22 s23 : AV} {Kt : KTm} : evOps F140.r1_3 C ⟨(F140.fr x0 x1 x2 x3), s0 :: s1 :: s2 :: s3 :: s4 :: s5 :: s6 :: s7 :: s8 :: s9 :: s10 :: s11 :: s12 :: s13 :: s14 :: s15 :: s16 :: s17 :: s18 :: s19 :: s20 :: s21 :: s22 :: s23 :: []⟩ h nx Kt =
 sG s8 false (fun k => sBin .neq .int s5 s0 k) fun v1 =>
 sPick s8 (.bool true) v1 fun v2 =>
 Kt ⟨(F140.fr x0 x1 x2 v2), v1 :: s0 :: s1 :: s2 :: s3 :: s4 :: s5 :: s6 :: s7 :: s8 :: s9 :: s10 :: s11 :: s12 :: s13 :: s14 :: s15 :: s16 :: s17 :: s18 :: s19 :: s20 :: s21 :: s22 :: s23 :: []⟩ h nx := F140.r1_3_g
theorem F140.t2_s {O : Outs Prop} : IR.run F140.t2 C N O K (F140.fr x0 x1 x2 x3) h nx =
 K (F140.fr x0 x1 (I 2) x3) h nx := by kernel_rfl
theorem F140.t3_s {O : Outs Prop} {tm : T AV} : IR.run F140.t3 C N O K tm h nx = IR.run F140.t2 C N O (IR.run .ret C N O K) tm h nx := srun_seq ..
theorem F140.t4_s {O : Outs Prop} : IR.run F140.t4 C N O K (F140.fr x0 x1 x2 x3) h nx = sCond x3 (IR.run F140.t3 C N O K (F140.fr x0 x1 x2 x3) h nx) (IR.run .skip C N O K (F140.fr x0 x1 x2 x3) h nx) := by
 have g : ∀ A B : IR, IR.run (.cond (.t (.of 3)) A B) C N O K (F140.fr x0 x1 x2 x3) h nx = sCond x3 (IR.run A C N O K (F140.fr x0 x1 x2 x3) h nx) (IR.run B C N O K (F140.fr x0 x1 x2 x3) h nx) := fun A B => by kernel_rfl
 exact g _ _
theorem F140.t5_s {O : Outs Prop} {tm : T AV} : IR.run F140.t5 C N O K tm h nx = IR.run F140.t1 C N O (IR.run F140.t4 C N O K) tm h nx := srun_seq ..
theorem F140.t6_s {O : Outs Prop} : IR.run F140.t6 C N O K (F140.fr x0 x1 x2 x3) h nx =
 sFaddr 0 x1 fun v1 =>
 sLoad v1 h fun v2 =>
 sFaddr 2 x1 fun v3 =>
 sLoad v3 h fun v4 =>
 sBslice 1 1 [(I 0)] [(0, 1, v2)] h nx fun v5 h6 n7 =>
 (sLoad v3 h6 fun v23 => sSame v23 v4 ((sFaddr 2 x1 fun v22 => sSame v22 v3 (C.fn 87 (.of 87) [(I 1), (I 16), v5] h6 n7 fun v8 h9 n10 =>
 (sLoad v3 h9 fun v21 => sSame v21 v4 ((sFaddr 2 x1 fun v20 => sSame v20 v3 (C.fn 183 (.of 183) [v4] h9 n10 fun v11 h12 n13 =>
 sBslice 1 2 [(I 0)] [(0, 1, v8), (1, 1, v11)] h12 n13 fun v14 h15 n16 =>
 C.fn 86 (.of 86) [v14] h15 n16 fun v17 h18 n19 =>
 K (F140.fr x0 x1 v17 x3) h18 n19)))))))) := by kernel_rfl
theorem F140.t7_s {O : Outs Prop} {tm : T AV} : IR.run F140.t7 C N O K tm h nx = IR.run F140.t6 C N O (IR.run .ret C N O K) tm h nx := srun_seq ..
theorem F140.t8_s {O : Outs Prop} {tm : T AV} : IR.run F140.t8 C N O K tm h nx = IR.run F140.t5 C N O (IR.run F140.t7 C N O K) tm h nx := srun_seq ..
theorem F140.t9_s {O : Outs Prop} {tm : T AV} : IR.run F140.t9 C N O K tm h nx = IR.run F140.t0 C N O (IR.run F140.t8 C N O K) tm h nx := srun_seq ..
theorem F140.tab : T.get none (.of 140) tbl = some F140 := by kernel_rfl
theorem F140.bind (k : T AV → OP) : bindArgs F140.params [a0] F140.init k = k (F140.fr a0 .undef .undef .undef) := by kernel_rfl
theorem F140.body_eq : F140.body = F140.t9 := by kernel_rfl
theorem F140.go : callFn tbl N C (.of 140) [a0] h nx K0 = IR.run F140.t9 C N (fnO F140.res K0) (retK F140.res K0) (F140.fr a0 .undef .undef .undef) h nx := by
 rw [callFn_of F140.tab, F140.bind, F140.body_eq]; kernel_rfl
theorem F140.ret : retK F140.res K0 (F140.fr x0 x1 x2 x3) h nx = K0 x2 h nx := by kernel_rfl
end
end Go.Ev
