import Derived.Test.YtfgpjkchdelphaaGreatDoorEvD
import Derived.Deep.Matrix
import Derived.Lib.SmallJoins
import Derived.ChangeMaps5
import Derived.Test.YtfgpjkchdelphaaGreatDoorCode
import GoSem.Core.Next
import Derived.Test.YtfgpjkchdelphaaGreatDoorLaws
import Derived.Test.YtfgpjkchdelphaaGreatDoorIrT
import Derived.KernelRfl
import Derived.IntWalk
set_option linter.unusedSimpArgs false
set_option linter.unusedVariables false
namespace Go.Ev
open Go Go.RowKit Go.ChangeShapes Go.WideShapes Go.Deep Go.Joins
variable {H : Type} {enc : TypeId × Value → H} {P : Program}
end Go.Ev
namespace Go.Ev
open Go Go.RowKit Go.ChangeShapes Go.WideShapes
variable {H : Type} {enc : TypeId × Value → H} {P : Program} {w : World} {base : Nat} {sp : Nat → Bool} {held : Bool}
theorem open_word {r : Reach} {b0 : Nat} {t : TypeId} {v : Value} {d : DataW H} {ps : List MemPlace} (ht : P.underlying t = some .string) (hval : Value.okWide P w r b0 t v) (hd : DataW.Trod enc P w base sp held t v d ps) :
  ∃ s : List UInt8, v = .string ⟨s.toArray⟩ ∧ d = .lit (.string s) ∧ ps = [] ∧ s.length ≤ maxLen := by
 obtain ⟨s, rfl, rfl, rfl, h⟩ := ChangeMaps.open_string ht hval hd
 exact ⟨s.data.toList, by simp, rfl, rfl, by simpa using h⟩
end Go.Ev
namespace Go.Ev
open Go Go.Proofs
theorem dreg {B : Nat} : DregAll Tryz.prog B Prop := dreg_all mixed
variable {B : Nat}
theorem sameInts35 {a b : List Int} (ha : a.length ≤ 1000000000) : Pure Tryz.prog B 49 [encI a, encI b] (· = .bool (decide (a = b))) := by
 intro p h nx K hK
 refine by_body tbl_ok dreg (a.length + 2) fun hf => ?_
 rw [F49.go]
 simp (disch := omega) only [sAdd, sSub, sMul, sEql, sNeq, sLss, sLeq, sGtr, sGeq, sPick_t, sPick_f, sCond_t, sCond_f, sG_tt, sG_ff, sG_tf, sG_ft, sNot_b, sExt0, sExt1, sExt2, sPart0, sPart1, sPart2, sLen_lst, sLen_sl, sLen_nils, sSame_refl, decide_true, decide_false, Bool.not_true, Bool.not_false, sChk_t]
 by_cases hl : a.length = b.length
 ·simp only [hl, decide_true, Bool.not_true, sCond_f]
  refine F49.L2 (fun m z3 h' nx' => ∃ i : Nat, z3 = I i ∧ m = a.length - i ∧ i ≤ a.length ∧ h' = h ∧ nx' = nx ∧ a.take i = b.take i) (m := a.length) (by omega) ⟨0, rfl, by simp, by omega, rfl, rfl, by simp⟩ ?_
  rintro m z2 z3 z5 z6 _ _ R ⟨i, rfl, rfl, hi, rfl, rfl, htk⟩ hR
  simp (disch := omega) only [sAdd, sSub, sMul, sEql, sNeq, sLss, sLeq, sGtr, sGeq, sPick_t, sPick_f, sCond_t, sCond_f, sG_tt, sG_ff, sG_tf, sG_ft, sNot_b, sExt0, sExt1, sExt2, sPart0, sPart1, sPart2, sLen_lst, sLen_sl, sLen_nils, sSame_refl, decide_true, decide_false, Bool.not_true, Bool.not_false, sChk_t]
  by_cases hlt : i < a.length
  ·have h1 : (i : Int) < a.length := by omega
   have hb : i < b.length := by omega
   simp only [h1, decide_true, sCond_t]
   rw [sIxL rfl hlt, ldL (getI (List.getElem?_eq_getElem hlt)), sIxL rfl hb, ldL (getI (List.getElem?_eq_getElem hb))]
   simp (disch := omega) only [sAdd, sSub, sMul, sEql, sNeq, sLss, sLeq, sGtr, sGeq, sPick_t, sPick_f, sCond_t, sCond_f, sG_tt, sG_ff, sG_tf, sG_ft, sNot_b, sExt0, sExt1, sExt2, sPart0, sPart1, sPart2, sLen_lst, sLen_sl, sLen_nils, sSame_refl, decide_true, decide_false, Bool.not_true, Bool.not_false, sChk_t]
   by_cases he : a[i] = b[i]
   ·simp only [he, decide_true, Bool.not_true, sCond_f]
    refine hR (a.length - (i + 1)) _ _ _ _ _ _ (by omega) ⟨i + 1, rfl, rfl, by omega, rfl, rfl, ?_⟩
    rw [List.take_add_one, List.take_add_one, htk, List.getElem?_eq_getElem hlt, List.getElem?_eq_getElem hb, he]
   ·simp only [he, decide_false, Bool.not_false, sCond_t]
    refine hK _ ?_ hf
    rw [decide_eq_false]
    rintro rfl
    exact he rfl
  ·have h1 : ¬ (i : Int) < a.length := by omega
   simp only [h1, decide_false, sCond_f]
   rw [F49.k9]
   refine hK _ ?_ hf
   rw [List.take_of_length_le (by omega), List.take_of_length_le (by omega)] at htk
   rw [decide_eq_true htk]
 ·have h1 : ¬ (a.length : Int) = b.length := by omega
  simp only [h1, decide_false, Bool.not_false, sCond_t]
  refine hK _ ?_ hf
  rw [decide_eq_false]
  rintro rfl; exact hl rfl
end Go.Ev
namespace Go.Ev
open Go Go.Proofs
variable {B : Nat}
theorem when123 (b : Bool) (e : Int) : Pure Tryz.prog B 88 [.bool b, I e] (· = I (if b then e else 0)) := by
 intro p h nx K hK
 refine by_body tbl_ok dreg 9 fun hf => ?_
 rw [F88.go]
 cases b <;> simp (disch := omega) only [sAdd, sSub, sMul, sEql, sNeq, sLss, sLeq, sGtr, sGeq, sPick_t, sPick_f, sCond_t, sCond_f, sG_tt, sG_ff, sG_tf, sG_ft, sNot_b, sExt0, sExt1, sExt2, sPart0, sPart1, sPart2, sLen_lst, sLen_sl, sLen_nils, sSame_refl, decide_true, decide_false, Bool.not_true, Bool.not_false, sChk_t] <;> exact hK _ rfl hf
def firstE : List Int → Int
 | [] => 0
 | e :: l => if e ≠ 0 then e else firstE l
theorem firstE_skip : ∀ (l : List Int) (i : Nat), (∀ e ∈ l.take i, e = 0) → firstE l = firstE (l.drop i)
 | l, 0, _ => rfl
 | [], _ + 1, _ => rfl
 | e :: l, i + 1, h => by
  have h0 : e = 0 := h e (by simp)
  rw [firstE, if_neg (by simp [h0]), List.drop_succ_cons]
  exact firstE_skip l i fun x hx => h x (by simp [hx])
theorem first121 {l : List Int} (hl : l.length ≤ 1000000) : Pure Tryz.prog B 86 [encI l] (· = I (firstE l)) := by
 intro p h nx K hK
 refine by_body tbl_ok dreg 10000000 fun hf => ?_
 rw [F86.go]
 simp (disch := omega) only [sAdd, sSub, sMul, sEql, sNeq, sLss, sLeq, sGtr, sGeq, sPick_t, sPick_f, sCond_t, sCond_f, sG_tt, sG_ff, sG_tf, sG_ft, sNot_b, sExt0, sExt1, sExt2, sPart0, sPart1, sPart2, sLen_lst, sLen_sl, sLen_nils, sSame_refl, decide_true, decide_false, Bool.not_true, Bool.not_false, sChk_t]
 refine F86.L1 (fun m z5 h' nx' => ∃ i : Nat, z5 = I i ∧ l.length - i = m ∧ i ≤ l.length ∧ h' = h ∧ nx' = nx ∧ ∀ e ∈ l.take i, e = 0) (m := l.length) (by omega) ⟨0, rfl, rfl, by omega, rfl, rfl, by simp⟩ ?_
 rintro m z1 z2 z5 z6 z7 _ _ R ⟨i, rfl, rfl, hi, rfl, rfl, htk⟩ hR
 simp (disch := omega) only [sAdd, sSub, sMul, sEql, sNeq, sLss, sLeq, sGtr, sGeq, sPick_t, sPick_f, sCond_t, sCond_f, sG_tt, sG_ff, sG_tf, sG_ft, sNot_b, sExt0, sExt1, sExt2, sPart0, sPart1, sPart2, sLen_lst, sLen_sl, sLen_nils, sSame_refl, decide_true, decide_false, Bool.not_true, Bool.not_false, sChk_t]
 by_cases hlt : i < l.length
 ·simp only [show (i : Int) < (l.length : Int) by omega, decide_true, sCond_t]
  have hx : l[i]? = some l[i] := List.getElem?_eq_getElem hlt
  rw [sIxL rfl hlt, ldL (getI hx)]
  simp (disch := omega) only [sAdd, sSub, sMul, sEql, sNeq, sLss, sLeq, sGtr, sGeq, sPick_t, sPick_f, sCond_t, sCond_f, sG_tt, sG_ff, sG_tf, sG_ft, sNot_b, sExt0, sExt1, sExt2, sPart0, sPart1, sPart2, sLen_lst, sLen_sl, sLen_nils, sSame_refl, decide_true, decide_false, Bool.not_true, Bool.not_false, sChk_t]
  have hd : l.drop i = l[i] :: l.drop (i + 1) := List.drop_eq_getElem_cons hlt
  by_cases h0 : l[i] = 0
  ·simp only [h0, decide_true, Bool.not_true, sCond_f]
   refine hR _ _ _ _ _ _ _ _ (by omega) ⟨i + 1, rfl, rfl, by omega, rfl, rfl, fun e he => ?_⟩
   rw [List.take_add_one, hx] at he
   rcases List.mem_append.1 he with q | q
   ·exact htk e q
   ·simp at q; rw [q]; exact h0
  ·simp only [h0, decide_false, Bool.not_false, sCond_t]
   refine hK _ ?_ hf
   rw [firstE_skip l i htk, hd, firstE, if_pos h0]
 ·simp only [show ¬ (i : Int) < (l.length : Int) by omega, decide_false, sCond_f]
  rw [F86.k8]
  refine hK _ ?_ hf
  rw [firstE_skip l i htk, List.drop_of_length_le (by omega)]; rfl
end Go.Ev
namespace Go.Ev
open Go Go.Proofs
variable {B : Nat}
end Go.Ev
namespace Go.Ev
open Go Go.Proofs
variable {B : Nat}
end Go.Ev
namespace Go.Ev
open Go Go.Proofs
variable {B : Nat}
theorem own_plain {P : Program} {f : Nat} {p id : Pa} {h0 h : T Blk} {nx : Pa} {L : List Ob} {k : Nat} {l : List Int} {K : Kw Prop} {Q : AV → Prop} (H : Hp h0 h nx L) (hk : L[k]? = some (.arr id (l.map I))) (hq : ∀ B, Pure P B f [encI l] Q) (hpl : ∀ v, Q v → Plain v)
  (hK : ∀ v, Q v → K v h nx = .ok True) : (CS P B).fn f p [.sl id 0 l.length (some l.length) 1] h nx K = .ok True :=
 CS_plain (.cons (HasArr.frz (H.own _ (List.mem_of_getElem? hk)) (T.get_e _ id) (Nat.le_refl _) (by simp) fun v hv => by obtain ⟨x, _, rfl⟩ := List.mem_map.1 hv; rfl) .nil) (by
  have := fixd_encI l
  simp only [nns, fixd.nn this, Bool.and_self]) hq hpl fun v hv _ => hK v hv
theorem contF131 {h : T Blk} {nx : Pa} {l : List Int} {g : Nat} {p q : Pa} {cap : List AV} {pr : Int → Bool} {K : Kw Prop} (hl : l.length ≤ 1000000) (hcl : ∀ x ∈ l, ∀ K : Kw Prop, K (.bool (pr x)) h nx = .ok True → (CS Tryz.prog B).fn g q (I x :: cap) h nx K = .ok True)
  (hK : K (.bool (l.any pr)) h nx = .ok True) : (CS Tryz.prog B).fn 173 p [encI l, .fn g q cap] h nx K = .ok True := by
 refine CS_fn_mono (p := .of 173) (K := K) (by_body tbl_ok dreg 9 fun hf => ?_) fun _ _ _ _ q => q
 rw [F173.go]
 refine CS_fn_mono (p := .of 184) (K := fun v1 h2 n3 => sBin .geq .int v1 (I 0) fun v4 => K v4 h2 n3) (by_body tbl_ok dreg 10000000 fun hf => ?_) fun _ _ _ _ q => q
 rw [F184.go]
 simp (disch := omega) only [sAdd, sSub, sMul, sEql, sNeq, sLss, sLeq, sGtr, sGeq, sPick_t, sPick_f, sCond_t, sCond_f, sG_tt, sG_ff, sG_tf, sG_ft, sNot_b, sExt0, sExt1, sExt2, sPart0, sPart1, sPart2, sLen_lst, sLen_sl, sLen_nils, sSame_refl, decide_true, decide_false, Bool.not_true, Bool.not_false, sChk_t]
 refine F184.L1 (fun m z5 h' nx' => ∃ i : Nat, z5 = I i ∧ l.length - i = m ∧ i ≤ l.length ∧ h' = h ∧ nx' = nx ∧ (l.take i).any pr = false) (m := l.length) (by omega) ⟨0, rfl, rfl, by omega, rfl, rfl, by simp⟩ ?_
 rintro m z2 z3 z5 z6 z7 _ _ R ⟨i, rfl, rfl, hi, rfl, rfl, htk⟩ hR
 simp (disch := omega) only [sAdd, sSub, sMul, sEql, sNeq, sLss, sLeq, sGtr, sGeq, sPick_t, sPick_f, sCond_t, sCond_f, sG_tt, sG_ff, sG_tf, sG_ft, sNot_b, sExt0, sExt1, sExt2, sPart0, sPart1, sPart2, sLen_lst, sLen_sl, sLen_nils, sSame_refl, decide_true, decide_false, Bool.not_true, Bool.not_false, sChk_t]
 by_cases hlt : i < l.length
 ·simp only [show (i : Int) < (l.length : Int) by omega, decide_true, sCond_t]
  have hx : l[i]? = some l[i] := List.getElem?_eq_getElem hlt
  rw [sIxL rfl hlt, ldL (getI hx), sCall_fn]
  refine hcl _ (List.getElem_mem hlt) _ ?_
  cases he : pr l[i] with
  | true =>
   simp only [sCond_t, sGeq, show (0 : Int) ≤ (i : Int) by omega, decide_true]
   rw [List.any_eq_true.2 ⟨_, List.getElem_mem hlt, he⟩] at hK
   exact hK
  | false =>
   simp only [sCond_f]
   refine hR _ _ _ _ _ _ _ _ (by omega) ⟨i + 1, rfl, rfl, by omega, rfl, rfl, ?_⟩
   rw [List.take_add_one, hx, List.any_append, htk]
   simp [he]
 ·simp only [show ¬ (i : Int) < (l.length : Int) by omega, decide_false, sCond_f]
  rw [F184.k8]
  rw [List.take_of_length_le (by omega)] at htk
  rw [htk] at hK
  simp only [sGeq, show ¬ (0 : Int) ≤ -1 by omega, decide_false]
  exact hK
theorem from122 {a b : Int} {l : List Int} (hl : l.length ≤ 1000000) : Pure Tryz.prog B 87 [I a, I b, encI l] (· = I (if l.any (fun x => decide (x < a) || decide (b < x)) then 3 else 0)) := by
 refine pure_hp fun h nx K H0 hK => by_body tbl_ok dreg 1000 fun hf => ?_
 rw [F87.go]
 refine H0.box (l := [I a]) rfl fun x1 h1 nx1 H1 => ?_
 refine H1.box (l := [I b]) rfl fun x2 h2 nx2 H2 => ?_
 refine contF131 (pr := fun x => decide (x < a) || decide (b < x)) hl (fun x _ K hK => ?_) ?_
 ·refine CS_fn_mono (p := .of 174) (K := K) (by_body tbl_ok dreg 9 fun hf => ?_) fun _ _ _ _ q => q
  show callFn tbl 9 _ (Pa.of 174) [I x, .ptr x1 0, .ptr x2 0] _ _ _ = _
  rw [F174.go, H2.load (k := 1) (i := 0) rfl rfl]
  by_cases c : x < a
  ·simp only [sLss, c, decide_true, sG_tf, sPick_t]
   simpa [c] using hK
  ·simp only [sLss, c, decide_false, sG_ff]
   rw [H2.load (k := 0) (i := 0) rfl rfl]
   simp only [sGtr, sPick_f]
   simpa [c] using hK
 ·refine when123 _ _ _ _ _ _ ?_
  rintro _ rfl _
  exact hK _ _ _ _ _ H2 (frz_fixd rfl) rfl
end Go.Ev
namespace Go.Ev
end Go.Ev
namespace Go.Ev
open Go Go.Proofs
variable {B : Nat}
theorem sGW_tt (op : KW3 → OP) (h : T Blk) (nx : Pa) (k : KW3) : sGW (.bool true) true op h nx k = op k := nr rfl
theorem sGW_ft (op : KW3 → OP) (h : T Blk) (nx : Pa) (k : KW3) : sGW (.bool false) true op h nx k = k .undef h nx := nr rfl
end Go.Ev
namespace Go.Ev
open Go Go.Proofs
variable {B : Nat}
end Go.Ev
namespace Go.Ev
open Go Go.Proofs
variable {B : Nat}
set_option maxRecDepth 100000
end Go.Ev
namespace Go.Ev
open Go Go.Proofs
variable {B : Nat}
end Go.Ev
namespace Go.Ev
def addVx (s : List Int) (v x : Int) : List Int := s.set v.toNat (s.getD v.toNat 0 + x)
def Sm (s : List Int) (M : Nat) : Prop := ∀ v ∈ s, 0 ≤ v ∧ v ≤ (M : Int)
theorem Sm.get {s : List Int} {M : Nat} (h : Sm s M) (i : Nat) : 0 ≤ s.getD i 0 ∧ s.getD i 0 ≤ (M : Int) := by
 rw [List.getD_eq_getElem?_getD]
 cases e : s[i]? with
 | none => simp
 | some v => exact h v (List.mem_of_getElem? e)
theorem Sm.mono {s : List Int} {M N : Nat} (h : Sm s M) (hm : M ≤ N) : Sm s N := fun v hv => by have := h v hv; omega
theorem Sm.add {s : List Int} {M X : Nat} {v x : Int} (h : Sm s M) (hx : 0 ≤ x ∧ x ≤ (X : Int)) : Sm (addVx s v x) (M + X) := by
 intro u hu
 have g := h.get v.toNat
 rcases List.mem_or_eq_of_mem_set hu with q | rfl
 ·have := h u q; omega
 ·omega
end Go.Ev
namespace Go.Ev
open Go Go.Proofs
set_option maxRecDepth 100000
variable {N : Nat} {C : Calls Prop} {K0 : Kw Prop} {K R : Ks Prop} {h : T Blk} {nx : Pa} {x0 x1 x2 x3 x4 x5 x6 x7 x8 x9 x10 a0 a1 a2 a3 : AV}
theorem F74.tab : T.get none (.of 74) tbl = some F74 := by kernel_rfl
theorem F74.go : callFn tbl N C (.of 74) [a0, a1, a2, a3] h nx K0 =
 sBox a0 h nx fun v1 h2 n3 =>
 sBox a2 h2 n3 fun v4 h5 n6 =>
 sBin .neq .int a3 (I 0) fun v7 =>
 sCond v7 (sLoadN 2 v1 h5 fun v8 =>
 C.fn 166 (.of 166) [v8] h5 n6 fun v9 h10 n11 =>
 sG v9 true (fun k => k a1) fun v12 =>
 sG v9 true (fun k => k a3) fun v13 =>
 sG v9 true (fun k => sBin .eql .int v12 v13 k) fun v14 =>
 sPick v9 v14 (.bool false) fun v15 =>
 K0 v15 h10 n11) (sBin .eql .int a1 (I 0) fun v16 =>
 sG v16 true (fun k => sLoadN 2 v1 h5 k) fun v17 =>
 sG v16 true (fun k => sLoadN 2 v4 h5 k) fun v18 =>
 sGW v16 true (fun k => C.fn 167 (.of 167) [v17, v18] h5 n6 k) h5 n6 fun v19 h20 n21 =>
 sPick v16 v19 (.bool false) fun v22 =>
 K0 v22 h20 n21) := by
 rw [callFn_of F74.tab]; kernel_rfl
theorem F166.tab : T.get none (.of 166) tbl = some F166 := by kernel_rfl
theorem F166.go : callFn tbl N C (.of 166) [a0] h nx K0 =
 sBox a0 h nx fun v1 h2 n3 =>
 sFaddr 0 v1 fun v4 =>
 sLoad v4 h2 fun v5 =>
 sBin .eql .int v5 (I 0) fun v6 =>
 sG v6 true (fun k => sFaddr 1 v1 k) fun v7 =>
 sG v6 true (fun k => sLoad v7 h2 k) fun v8 =>
 sG v6 true (fun k => sLen v8 k) fun v9 =>
 sG v6 true (fun k => sBin .eql .int v9 (I 0) k) fun v10 =>
 sPick v6 v10 (.bool false) fun v11 =>
 K0 v11 h2 n3 := by
 rw [callFn_of F166.tab]; kernel_rfl
theorem F167.tab : T.get none (.of 167) tbl = some F167 := by kernel_rfl
theorem F167.go : callFn tbl N C (.of 167) [a0, a1] h nx K0 =
 sBox a0 h nx fun v1 h2 n3 =>
 sBox a1 h2 n3 fun v4 h5 n6 =>
 sFaddr 0 v1 fun v7 =>
 sLoad v7 h5 fun v8 =>
 sFaddr 0 v4 fun v9 =>
 sLoad v9 h5 fun v10 =>
 sBin .eql .int v8 v10 fun v11 =>
 sG v11 true (fun k => sFaddr 1 v1 k) fun v12 =>
 sG v11 true (fun k => sLoad v12 h5 k) fun v13 =>
 sG v11 true (fun k => sFaddr 1 v4 k) fun v14 =>
 sG v11 true (fun k => sLoad v14 h5 k) fun v15 =>
 sGW v11 true (fun k => C.fn 241 (.of 241) [v13, v15] h5 n6 k) h5 n6 fun v16 h17 n18 =>
 sPick v11 v16 (.bool false) fun v19 =>
 K0 v19 h17 n18 := by
 rw [callFn_of F167.tab]; kernel_rfl
theorem F241.g2_eq (X3 : IR) (O : Outs Prop) (t : T AV) : IR.run (F241.g2 X3) C N O K t h nx = IR.run X3 C N (O.blk 0 K) K t h nx := by kernel_rfl
theorem F241.tab : T.get none (.of 241) tbl = some F241 := by kernel_rfl
theorem F241.go : callFn tbl N C (.of 241) [a0, a1] h nx K0 =
 sLen a0 fun v1 =>
 sLen a1 fun v2 =>
 sBin .neq .int v1 v2 fun v3 =>
 sCond v3 (K0 (.bool false) h nx) (IR.run F241.b2 C N (fnO F241.res K0) (IR.run F241.b9 C N (fnO F241.res K0) (retK F241.res K0)) (F241.fr a0 a1 (.bool false) (I 0) v3 .undef .undef) h nx) := by
 rw [callFn_of F241.tab]; kernel_rfl
theorem F241.L2 (Inv : Nat → AV → T Blk → Pa → Prop) {m : Nat} (hm : m < N) (hi : Inv m x3 h nx)
  (step : ∀ (m : Nat) (z2 z3 z5 z6 : AV) (h : T Blk) (nx : Pa) (R : Ks Prop), Inv m z3 h nx → (∀ (m' : Nat) (w2 w3 w5 w6 : AV) (h' : T Blk) (nx' : Pa), m' < m → Inv m' w3 h' nx' → R (F241.fr x0 x1 w2 w3 x4 w5 w6) h' nx' = .ok True) →
   (sLen x0 fun v1 =>
 sBin .lss .int z3 v1 fun v2 =>
 sCond v2 (sIaddr 1 x0 z3 fun v3 =>
 sLoad v3 h fun v4 =>
 sIaddr 1 x1 z3 fun v5 =>
 sLoad v5 h fun v6 =>
 C.fn 49 (.of 49) [v4, v6] h nx fun v7 h8 n9 =>
 sNot v7 fun v10 =>
 sCond v10 (K0 (.bool false) h8 n9) (sBin .add .int z3 (I 1) fun v11 =>
 R (F241.fr x0 x1 z2 v11 x4 v2 v10) h8 n9)) (K (F241.fr x0 x1 z2 z3 x4 v2 z6) h nx)) = .ok True) :
  IR.run F241.b2 C N (fnO F241.res K0) K (F241.fr x0 x1 x2 x3 x4 x5 x6) h nx = .ok True := by
 rw [F241.b2, F241.g2_eq, F241.b3]
 refine loop_ok (fun m tm h nx => ∃ z2 z3 z5 z6, tm = (F241.fr x0 x1 z2 z3 x4 z5 z6) ∧ Inv m z3 h nx) ?_ hm ⟨_, _, _, _, rfl, hi⟩
 rintro m tm h nx R ⟨z2, z3, z5, z6, rfl, hi⟩ hR
 refine Eq.trans ?_ (step m z2 z3 z5 z6 h nx R hi fun m' w2 w3 w5 w6 h' nx' hlt hi' => hR m' _ h' nx' hlt ⟨_, _, _, _, rfl, hi'⟩)
 kernel_rfl
theorem F241.k9 : IR.run F241.b9 C N (fnO F241.res K0) K (F241.fr x0 x1 x2 x3 x4 x5 x6) h nx =
 K0 (.bool true) h nx := by kernel_rfl
end Go.Ev
namespace Go.Ev
open Go Go.Proofs
variable {B : Nat}
theorem frz_agg {N : Pa → Prop} {O : AV → Prop} {hh : T Blk} {l : List AV} (h : ∀ v ∈ l, fixd v = true) : Frz True N O hh (.agg l) (.agg l) :=
 .agg _ _ rfl (List.all_eq_true.2 fun v hv => fixd.scal (h v hv)) fun i v v' h1 h2 => by rw [h1] at h2; cases h2; exact frz_fixd (h v (List.mem_of_getElem? h1))
theorem rowV_scal (o : Option Pa) (e n : Nat) : scal (rowV o e n) = true := by cases o <;> rfl
end Go.Ev
namespace Go.Ev
open Go Go.Proofs
variable {B : Nat}
end Go.Ev
namespace Go.Ev
open Go Go.Proofs
variable {B : Nat}
theorem sameTable23 {a b : List (List Int)} (ha : a.length ≤ 1000000000) (hw : ∀ l ∈ a, l.length ≤ 1000000000) : Pure Tryz.prog B 241 [encT a, encT b] (· = .bool (decide (a = b))) := by
 intro p h nx K hK
 refine by_body tbl_ok dreg (a.length + 2) fun hf => ?_
 rw [F241.go]
 simp (disch := omega) only [sAdd, sSub, sMul, sEql, sNeq, sLss, sLeq, sGtr, sGeq, sPick_t, sPick_f, sCond_t, sCond_f, sG_tt, sG_ff, sG_tf, sG_ft, sNot_b, sExt0, sExt1, sExt2, sPart0, sPart1, sPart2, sLen_lst, sLen_sl, sLen_nils, sSame_refl, decide_true, decide_false, Bool.not_true, Bool.not_false, sChk_t]
 by_cases hl : a.length = b.length
 ·simp only [hl, decide_true, Bool.not_true, sCond_f]
  refine F241.L2 (fun m z3 h' nx' => ∃ i : Nat, z3 = I i ∧ m = a.length - i ∧ i ≤ a.length ∧ h' = h ∧ nx' = nx ∧ a.take i = b.take i) (m := a.length) (by omega) ⟨0, rfl, by simp, by omega, rfl, rfl, by simp⟩ ?_
  rintro m z2 z3 z5 z6 _ _ R ⟨i, rfl, rfl, hi, rfl, rfl, htk⟩ hR
  simp (disch := omega) only [sAdd, sSub, sMul, sEql, sNeq, sLss, sLeq, sGtr, sGeq, sPick_t, sPick_f, sCond_t, sCond_f, sG_tt, sG_ff, sG_tf, sG_ft, sNot_b, sExt0, sExt1, sExt2, sPart0, sPart1, sPart2, sLen_lst, sLen_sl, sLen_nils, sSame_refl, decide_true, decide_false, Bool.not_true, Bool.not_false, sChk_t]
  by_cases hlt : i < a.length
  ·have h1 : (i : Int) < a.length := by omega
   have hb : i < b.length := by omega
   simp only [h1, decide_true, sCond_t]
   rw [sIxL rfl hlt, ldL (getT (List.getElem?_eq_getElem hlt)), sIxL rfl hb, ldL (getT (List.getElem?_eq_getElem hb))]
   refine sameInts35 (hw _ (List.getElem_mem hlt)) _ _ _ _ ?_
   rintro _ rfl _
   simp (disch := omega) only [sAdd, sSub, sMul, sEql, sNeq, sLss, sLeq, sGtr, sGeq, sPick_t, sPick_f, sCond_t, sCond_f, sG_tt, sG_ff, sG_tf, sG_ft, sNot_b, sExt0, sExt1, sExt2, sPart0, sPart1, sPart2, sLen_lst, sLen_sl, sLen_nils, sSame_refl, decide_true, decide_false, Bool.not_true, Bool.not_false, sChk_t]
   by_cases he : a[i] = b[i]
   ·simp only [he, decide_true, Bool.not_true, sCond_f]
    refine hR (a.length - (i + 1)) _ _ _ _ _ _ (by omega) ⟨i + 1, rfl, rfl, by omega, rfl, rfl, ?_⟩
    rw [List.take_add_one, List.take_add_one, htk, List.getElem?_eq_getElem hlt, List.getElem?_eq_getElem hb, he]
   ·simp only [he, decide_false, Bool.not_false, sCond_t]
    refine hK _ ?_ hf
    rw [decide_eq_false]
    rintro rfl
    exact he rfl
  ·have h1 : ¬ (i : Int) < a.length := by omega
   simp only [h1, decide_false, sCond_f]
   rw [F241.k9]
   refine hK _ ?_ hf
   rw [List.take_of_length_le (by omega), List.take_of_length_le (by omega)] at htk
   rw [decide_eq_true htk]
 ·have h1 : ¬ (a.length : Int) = b.length := by omega
  simp only [h1, decide_false, Bool.not_false, sCond_t]
  refine hK _ ?_ hf
  rw [decide_eq_false]
  rintro rfl; exact hl rfl
end Go.Ev
namespace Go.Ev
open Go
end Go.Ev
namespace Go.Ev
open Go Go.Proofs
variable {B : Nat}
end Go.Ev
namespace Go.Ev
theorem sub_perm : ∀ (l r : List Int), l.Nodup → (∀ x ∈ l, x ∈ r) → ∃ s, r.Perm (l ++ s)
 | [], r, _, _ => ⟨r, .refl _⟩
 | a :: l, r, hn, hs => by
  obtain ⟨h1, h2⟩ := List.nodup_cons.1 hn
  have ha := hs a (by simp)
  obtain ⟨s, hp⟩ := sub_perm l (r.erase a) h2 fun x hx => (List.mem_erase_of_ne (by rintro rfl; exact h1 hx)).2 (hs x (by simp [hx]))
  exact ⟨s, (List.perm_cons_erase ha).trans (.cons a hp)⟩
def Rv (l cur : List Int) (i : Nat) : Prop := cur.length = l.length ∧ ∀ t, t < l.length → cur[t]? = if t < i ∨ l.length ≤ t + i then l[l.length - 1 - t]? else l[t]?
theorem Rv.done {l cur : List Int} {i : Nat} (h : Rv l cur i) (hi : l.length ≤ 2 * i + 1) : cur = l.reverse := by
 refine List.ext_getElem? fun t => ?_
 by_cases ht : t < l.length
 ·rw [h.2 t ht, List.getElem?_reverse ht]
  by_cases c : t < i ∨ l.length ≤ t + i
  ·rw [if_pos c]
  ·rw [if_neg c, show l.length - 1 - t = t by omega]
 ·rw [List.getElem?_eq_none (by rw [h.1]; omega), List.getElem?_eq_none (by simp; omega)]
theorem Rv.step {l cur : List Int} {i j : Nat} {a b : Int} (h : Rv l cur i) (hij : i < j) (hs : i + j + 1 = l.length) (ha : cur[i]? = some a) (hb : cur[j]? = some b) : Rv l ((cur.set i b).set j a) (i + 1) := by
 obtain ⟨hl, hg⟩ := h
 refine ⟨by simp [hl], fun t ht => ?_⟩
 have e1 := hg i (by omega)
 have e2 := hg j (by omega)
 rw [if_neg (by omega), ha] at e1
 rw [if_neg (by omega), hb] at e2
 rw [List.getElem?_set, List.getElem?_set, List.length_set]
 by_cases c1 : j = t
 ·subst c1
  rw [if_pos rfl, if_pos (by omega), if_pos (by omega), show l.length - 1 - j = i by omega]
  exact e1
 ·rw [if_neg c1]
  by_cases c2 : i = t
  ·subst c2
   rw [if_pos rfl, if_pos (by omega), if_pos (by omega), show l.length - 1 - i = j by omega]
   exact e2
  ·rw [if_neg c2, hg t ht]
   by_cases c3 : t < i ∨ l.length ≤ t + i
   ·rw [if_pos c3, if_pos (by omega)]
   ·rw [if_neg c3, if_neg (by omega)]
end Go.Ev
namespace Go.Ev
section
variable {σ α : Type}
end
end Go.Ev
namespace Go.Ev
end Go.Ev
namespace Go.Ev
def SpOK (M : Int) (q : List (Int × Int)) : Prop := q.Pairwise (fun a b => a.1 < b.1) ∧ ∀ p ∈ q, 0 ≤ p.1 ∧ p.1 ≤ M
theorem SpOK.len {q : List (Int × Int)} (h : SpOK 9000 q) : q.length ≤ 9001 := by
 obtain ⟨t, ht⟩ := sub_perm (q.map (·.1)) ((List.range 9001).map fun (i : Nat) => (i : Int)) (by
  rw [List.nodup_iff_pairwise_ne, List.pairwise_map]
  exact h.1.imp fun {a b} q e => by omega) fun x hx => by
  obtain ⟨p, hp, rfl⟩ := List.mem_map.1 hx
  have := h.2 p hp
  exact List.mem_map.2 ⟨p.1.toNat, List.mem_range.2 (by omega), by omega⟩
 have := ht.length_eq
 rw [List.length_map, List.length_range, List.length_append, List.length_map] at this
 omega
end Go.Ev
namespace Go.Ev
end Go.Ev
namespace Go.Ev
open Go Go.Proofs
variable {B : Nat}
set_option maxRecDepth 100000
end Go.Ev
namespace Go.Ev
open Go Go.Proofs
set_option maxRecDepth 100000
variable {N : Nat} {C : Calls Prop} {K0 : Kw Prop} {K R : Ks Prop} {h : T Blk} {nx : Pa} {x0 x1 x2 x3 x4 x5 x6 x7 x8 x9 x10 x11 x12 x13 x14 x15 x16 x17 x18 a0 a1 : AV}
end Go.Ev
namespace Go.Ev
open Go Go.Proofs
variable {B : Nat}
end Go.Ev
namespace Go.Ev
open Go Go.Proofs
variable {B : Nat}
theorem Hp.base {h0 h : T Blk} {nx : Pa} {L : List Ob} (H : Hp h0 h nx L) : Hp .e h nx L :=
 ⟨fun j hj => absurd (T.get_e _ j) hj, H.own, fun n _ => T.get_e _ n, H.nd, H.fr⟩
abbrev TRow := AV × Ob × List Int
def RowOk (t : TRow) : Prop := (∃ p cap, capLe t.2.2.length cap ∧ t.2.1 = .arr p (t.2.2.map I) ∧ t.1 = .sl p 0 t.2.2.length cap 1) ∨ ∃ o, t.2.1 = .gro o 1 t.2.2.length (t.2.2.map I) ∧ t.1 = rowV o 1 t.2.2.length
theorem RowOk.scal {t : TRow} (h : RowOk t) : scal t.1 = true := by
 rcases h with ⟨p, cap, _, _, e⟩ | ⟨o, _, e⟩
 ·rw [e]; rfl
 ·rw [e]; exact rowV_scal _ _ _
theorem RowOk.cells {t : TRow} (h : RowOk t) : t.1.cells = some [t.1] := by
 rcases h with ⟨p, cap, _, _, e⟩ | ⟨o, _, e⟩
 ·rw [e]; rfl
 ·rw [e]; exact rowV_cells _ _ _
theorem fixd_Is (l : List Int) : ∀ v ∈ l.map I, fixd v = true := fun v hv => by obtain ⟨x, _, rfl⟩ := List.mem_map.1 hv; rfl
theorem RowOk.frz {h0 h : T Blk} {nx : Pa} {L : List Ob} {t : TRow} (hr : RowOk t) (H : Hp h0 h nx L) (hm : t.2.1 ∈ L) : FrzN h0 h t.1 (encI t.2.2) := by
 obtain ⟨k, hk⟩ := List.mem_iff_getElem?.1 hm
 rcases hr with ⟨p, cap, hc, e1, e2⟩ | ⟨o, e1, e2⟩
 ·rw [e1] at hk; rw [e2]
  exact H.frzArr hk hc (by simp) (fixd_Is _)
 ·rw [e1] at hk; rw [e2]
  exact H.frzGro hk (fixd_Is _)
theorem RowOk.len {h0 h : T Blk} {nx : Pa} {L : List Ob} {t : TRow} (hr : RowOk t) (H : Hp h0 h nx L) (hm : t.2.1 ∈ L) (op : AV → OP) : sLen t.1 op = op (I t.2.2.length) := by
 obtain ⟨k, hk⟩ := List.mem_iff_getElem?.1 hm
 rcases hr with ⟨p, cap, hc, e1, e2⟩ | ⟨o, e1, e2⟩
 ·rw [e2]; rfl
 ·rw [e1] at hk; rw [e2]; exact H.groLen hk
theorem RowOk.rd {h0 h : T Blk} {nx : Pa} {L : List Ob} {t : TRow} (hr : RowOk t) (H : Hp h0 h nx L) (hm : t.2.1 ∈ L) (no : OP) (K' : List AV → Nat → OP) : readSl t.1 h no K' = K' (t.2.2.map I) t.2.2.length := by
 obtain ⟨k, hk⟩ := List.mem_iff_getElem?.1 hm
 rcases hr with ⟨p, cap, hc, e1, e2⟩ | ⟨o, e1, e2⟩
 ·rw [e1] at hk hm; rw [e2]
  exact HasArr.rd (H.own _ hm) (by simp) no K'
 ·rw [e1] at hk; rw [e2]
  rw [H.groRdHi hk (Nat.le_refl _), List.take_of_length_le (by simp)]
end Go.Ev
namespace Go.Ev
open Go Go.Proofs
variable {B : Nat}
theorem sBuild0 {K : AV → OP} : sBuild [(I 0), .nils] [] K = K (.agg [I 0, .nils]) := nr rfl
end Go.Ev
namespace Go.Ev
open Go Go.Proofs
set_option maxRecDepth 100000
variable {N : Nat} {C : Calls Prop} {K0 : Kw Prop} {K R : Ks Prop} {h : T Blk} {nx : Pa} {x0 x1 x2 x3 x4 x5 x6 x7 x8 x9 a0 : AV}
end Go.Ev
namespace Go.Ev
open Go Go.Proofs
variable {B : Nat}
def StarSt (x : AV) (X : Ob) (l : List Int) (v : Int) : Prop := (l = [v] ∧ ∃ p, x = .sl p 0 1 (some 1) 1 ∧ X = .arr p [I v]) ∨ ∃ o, x = rowV (some o) 1 l.length ∧ X = .gro (some o) 1 l.length (l.map I)
theorem StarSt.ok {x : AV} {X : Ob} {l : List Int} {v : Int} (h : StarSt x X l v) : RowOk (x, X, l) := by
 rcases h with ⟨rfl, p, rfl, rfl⟩ | ⟨o, rfl, rfl⟩
 ·exact .inl ⟨p, some 1, Nat.le_refl _, rfl, rfl⟩
 ·exact .inr ⟨some o, rfl, rfl⟩
end Go.Ev
namespace Go.Ev
open Go Go.Proofs
variable {B : Nat}
end Go.Ev
namespace Go.Ev
open Go Go.Proofs
variable {B : Nat}
set_option maxRecDepth 100000
end Go.Ev
namespace Go.Ev
open Go Go.Proofs
set_option maxRecDepth 100000
variable {N : Nat} {C : Calls Prop} {K0 : Kw Prop} {K R : Ks Prop} {h : T Blk} {nx : Pa} {x0 x1 x2 x3 x4 x5 x6 x7 x8 x9 x10 x11 x12 x13 x14 x15 x16 x17 x18 x19 a0 a1 : AV}
end Go.Ev
namespace Go.Ev
open Go Go.Proofs
variable {B : Nat}
set_option maxRecDepth 100000
theorem sGW_ff (op : KW3 → OP) (h : T Blk) (nx : Pa) (k : KW3) : sGW (.bool false) false op h nx k = op k := nr rfl
theorem none166 {x : Int} {v : AV} (hv : fixd v = true) (hs : v.cells = some [v]) (hz : ∀ op : AV → OP, sLen v op = op (I 0)) : Pure Tryz.prog B 166 [.agg [I x, v]] (· = .bool (decide (x = 0))) := by
 refine pure_hp fun h nx K H0 hK => by_body tbl_ok dreg 1000 fun hf => ?_
 rw [F166.go]
 refine H0.box (l := [I x, v]) rfl fun bx h1 nx1 H1 => ?_
 rw [sFx, H1.load (k := 0) (i := 0) rfl rfl]
 simp only [sEql]
 by_cases c : x = 0
 ·simp only [c, decide_true, sG_tt, sFx]
  subst c
  rw [H1.load (k := 0) (i := 0 + 1) rfl rfl, hz]
  simp only [sEql, decide_true, sPick_t]
  exact hK _ _ _ _ _ H1 (frz_fixd rfl) (by simp)
 ·simp only [c, decide_false, sG_ft, sPick_f]
  exact hK _ _ _ _ _ H1 (frz_fixd rfl) (by simp [c])
theorem same167 {x y : Int} {a b : List (List Int)} (ha : a.length ≤ 1000000000) (hw : ∀ l ∈ a, l.length ≤ 1000000000) : Pure Tryz.prog B 167 [.agg [I x, encT a], .agg [I y, encT b]] (· = .bool (decide (x = y ∧ a = b))) := by
 refine pure_hp fun h nx K H0 hK => by_body tbl_ok dreg 1000 fun hf => ?_
 rw [F167.go]
 refine H0.box (l := [I x, encT a]) rfl fun bx h1 nx1 H1 => ?_
 refine H1.box (l := [I y, encT b]) rfl fun by' h2 nx2 H2 => ?_
 rw [sFx, H2.load (k := 1) (i := 0) rfl rfl, sFx, H2.load (k := 0) (i := 0) rfl rfl]
 simp only [sEql]
 by_cases c : x = y
 ·simp only [c, decide_true, sG_tt, sFx, sGW_tt]
  rw [H2.load (k := 1) (i := 0 + 1) rfl rfl, H2.load (k := 0) (i := 0 + 1) rfl rfl]
  refine sameTable23 ha hw _ _ _ _ ?_
  rintro _ rfl _
  simp only [sPick_t]
  exact hK _ _ _ _ _ H2 (frz_fixd rfl) (by simp [c])
 ·simp only [c, decide_false, sG_ft, sGW_ft, sPick_f]
  exact hK _ _ _ _ _ H2 (frz_fixd rfl) (by simp [c])
theorem system74e {x y e bad : Int} {v w : AV} (hbad : bad ≠ 0) (hv : fixd v = true) (hs : v.cells = some [v]) (hz : ∀ op : AV → OP, sLen v op = op (I 0)) (hx : x = 0) (hw : fixd w = true) (hws : w.cells = some [w]) (he : e = bad) : Pure Tryz.prog B 74 [.agg [I x, v], I e, .agg [I y, w], I bad] (· = .bool true) := by
 refine pure_hp fun h nx K H0 hK => by_body tbl_ok dreg 1000 fun hf => ?_
 rw [F74.go]
 refine H0.box (l := [I x, v]) rfl fun bx h1 nx1 H1 => ?_
 refine H1.box (l := [I y, w]) rfl fun by' h2 nx2 H2 => ?_
 subst he; subst hx
 simp only [sNeq, hbad, decide_false, Bool.not_false, sCond_t]
 rw [H2.loadN (k := 1) (n := 2) rfl rfl]
 refine none166 hv hs hz _ _ _ _ ?_
 rintro _ rfl _
 simp only [decide_true, sG_tt, sEql, sPick_t]
 exact hK _ _ _ _ _ H2 (frz_fixd rfl) rfl
theorem system74o {x : Int} {a : List (List Int)} (ha : a.length ≤ 1000000000) (hw : ∀ l ∈ a, l.length ≤ 1000000000) : Pure Tryz.prog B 74 [.agg [I x, encT a], I 0, .agg [I x, encT a], I 0] (· = .bool true) := by
 refine pure_hp fun h nx K H0 hK => by_body tbl_ok dreg 1000 fun hf => ?_
 rw [F74.go]
 refine H0.box (l := [I x, encT a]) rfl fun bx h1 nx1 H1 => ?_
 refine H1.box (l := [I x, encT a]) rfl fun by' h2 nx2 H2 => ?_
 simp only [sNeq, decide_true, Bool.not_true, sCond_f, sEql, sG_tt, sGW_tt]
 rw [H2.loadN (k := 1) (n := 2) rfl rfl, H2.loadN (k := 0) (n := 2) rfl rfl]
 refine same167 ha hw _ _ _ _ ?_
 rintro _ rfl _
 simp only [sPick_t]
 exact hK _ _ _ _ _ H2 (frz_fixd rfl) (by simp)
end Go.Ev
namespace Go.Ev
open Go Go.Proofs
set_option maxRecDepth 100000
variable {N : Nat} {C : Calls Prop} {K0 : Kw Prop} {K R : Ks Prop} {h : T Blk} {nx : Pa} {x0 x1 x2 x3 x4 x5 x6 x7 x8 x9 x10 x11 x12 x13 x14 x15 x16 x17 x18 x19 x20 x21 x22 x23 x24 x25 a0 a1 : AV}
theorem F65.tab : T.get none (.of 65) tbl = some F65 := by kernel_rfl
theorem F65.go : callFn tbl N C (.of 65) [a0, a1] h nx K0 =
 sAlloc [(I 0), .nils] h nx fun v1 h2 n3 =>
 sBslice 1 3 [(.str [])] [(0, 1, (.str [115, 101, 109, 105, 109, 97, 103, 105, 99])), (1, 1, (.str [109, 97, 103, 105, 99])), (2, 1, (.str [112, 97, 110, 100, 105, 97, 103, 111, 110, 97, 108]))] h2 n3 fun v4 h5 n6 =>
 C.fn 151 (.of 151) [v4, a0] h5 n6 fun v7 h8 n9 =>
 sNot v7 fun v10 =>
 C.fn 88 (.of 88) [v10, (I 13)] h8 n9 fun v11 h12 n13 =>
 sBslice 1 1 [(I 0)] [(0, 1, a1)] h12 n13 fun v14 h15 n16 =>
 C.fn 87 (.of 87) [(I 1), (I 16), v14] h15 n16 fun v17 h18 n19 =>
 sBslice 1 2 [(I 0)] [(0, 1, v11), (1, 1, v17)] h18 n19 fun v20 h21 n22 =>
 C.fn 86 (.of 86) [v20] h21 n22 fun v23 h24 n25 =>
 sBin .neq .int v23 (I 0) fun v26 =>
 sCond v26 (sBuild [(I 0), .nils] [] fun v27 =>
 sStore 2 v1 v27 h24 n25 fun v28 h29 n30 =>
 sLoadN 2 v1 h29 fun v31 => K0 (.tup [v31, v23]) h29 n30) (C.fn 152 (.of 152) [a0, a1] h24 n25 fun v32 h33 n34 =>
 sStore 2 v1 v32 h33 n34 fun v35 h36 n37 =>
 sLoadN 2 v1 h36 fun v38 => K0 (.tup [v38, (I 0)]) h36 n37) := by
 rw [callFn_of F65.tab]; kernel_rfl
theorem F66.tab : T.get none (.of 66) tbl = some F66 := by kernel_rfl
theorem F66.go : callFn tbl N C (.of 66) [a0, a1] h nx K0 =
 sAlloc [(I 0), .nils] h nx fun v1 h2 n3 =>
 sBslice 1 2 [(I 0)] [(0, 1, a0), (1, 1, a1)] h2 n3 fun v4 h5 n6 =>
 C.fn 87 (.of 87) [(I 1), (I 16), v4] h5 n6 fun v7 h8 n9 =>
 sBin .neq .int v7 (I 0) fun v10 =>
 sCond v10 (sBuild [(I 0), .nils] [] fun v11 =>
 sStore 2 v1 v11 h8 n9 fun v12 h13 n14 =>
 sLoadN 2 v1 h13 fun v15 => K0 (.tup [v15, v7]) h13 n14) (sBin .mul .int a0 a1 fun v16 =>
 C.fn 154 (.of 154) [a0, a1] h8 n9 fun v17 h18 n19 =>
 C.fn 153 (.of 153) [v16, v17] h18 n19 fun v20 h21 n22 =>
 sStore 2 v1 v20 h21 n22 fun v23 h24 n25 =>
 sLoadN 2 v1 h24 fun v26 => K0 (.tup [v26, (I 0)]) h24 n25) := by
 rw [callFn_of F66.tab]; kernel_rfl
theorem F67.tab : T.get none (.of 67) tbl = some F67 := by kernel_rfl
theorem F67.go : callFn tbl N C (.of 67) [a0, a1] h nx K0 =
 sAlloc [(I 0), .nils] h nx fun v1 h2 n3 =>
 sBslice 1 2 [(I 0)] [(0, 1, a0), (1, 1, a1)] h2 n3 fun v4 h5 n6 =>
 C.fn 87 (.of 87) [(I 1), (I 16), v4] h5 n6 fun v7 h8 n9 =>
 sBin .neq .int v7 (I 0) fun v10 =>
 sCond v10 (sBuild [(I 0), .nils] [] fun v11 =>
 sStore 2 v1 v11 h8 n9 fun v12 h13 n14 =>
 sLoadN 2 v1 h13 fun v15 => K0 (.tup [v15, v7]) h13 n14) (sBin .mul .int a0 a1 fun v16 =>
 C.fn 155 (.of 155) [a0, a1] h8 n9 fun v17 h18 n19 =>
 C.fn 153 (.of 153) [v16, v17] h18 n19 fun v20 h21 n22 =>
 sStore 2 v1 v20 h21 n22 fun v23 h24 n25 =>
 sLoadN 2 v1 h24 fun v26 => K0 (.tup [v26, (I 0)]) h24 n25) := by
 rw [callFn_of F67.tab]; kernel_rfl
theorem F68.tab : T.get none (.of 68) tbl = some F68 := by kernel_rfl
theorem F68.go : callFn tbl N C (.of 68) [a0] h nx K0 =
 sBox a0 h nx fun v1 h2 n3 =>
 sAlloc [(I 0), .nils] h2 n3 fun v4 h5 n6 =>
 sLoad v1 h5 fun v7 =>
 sBslice 1 1 [(I 0)] [(0, 1, v7)] h5 n6 fun v8 h9 n10 =>
 C.fn 87 (.of 87) [(I 1), (I 6), v8] h9 n10 fun v11 h12 n13 =>
 sBin .neq .int v11 (I 0) fun v14 =>
 sCond v14 (sBuild [(I 0), .nils] [] fun v15 =>
 sStore 2 v4 v15 h12 n13 fun v16 h17 n18 =>
 sLoadN 2 v4 h17 fun v19 => K0 (.tup [v19, v11]) h17 n18) (sAlloc [.nilf] h12 n13 fun v20 h21 n22 =>
 sStore 1 v20 (.fn 156 (.of 156) [v1]) h21 n22 fun v23 h24 n25 =>
 sBslice 1 3 [.nilf] [(0, 1, (.fn 157 (.of 157) [v20])), (1, 1, (.fn 158 (.of 158) [v20])), (2, 1, (.fn 159 (.of 159) [v20]))] h24 n25 fun v26 h27 n28 =>
 sLen v26 fun v29 =>
 IR.run F68.b2 C N (fnO F68.res K0) (IR.run F68.b23 C N (fnO F68.res K0) (retK F68.res K0)) (F68.fr a0 v1 v4 (I 0) v11 .nils v20 .undef .undef .undef .undef v14 v26 v29 (I 0) .undef .undef .undef .undef .undef .undef .undef .undef .undef .undef .undef) h27 n28) := by
 rw [callFn_of F68.tab]; kernel_rfl
theorem F69.tab : T.get none (.of 69) tbl = some F69 := by kernel_rfl
theorem F69.go : callFn tbl N C (.of 69) [a0] h nx K0 =
 sAlloc [(I 0), .nils] h nx fun v1 h2 n3 =>
 sBslice 1 1 [(I 0)] [(0, 1, a0)] h2 n3 fun v4 h5 n6 =>
 C.fn 87 (.of 87) [(I 5), (I 16), v4] h5 n6 fun v7 h8 n9 =>
 sBin .neq .int v7 (I 0) fun v10 =>
 sCond v10 (sBuild [(I 0), .nils] [] fun v11 =>
 sStore 2 v1 v11 h8 n9 fun v12 h13 n14 =>
 sLoadN 2 v1 h13 fun v15 => K0 (.tup [v15, v7]) h13 n14) (IR.run F69.b2 C N (fnO F69.res K0) (IR.run F69.b9 C N (fnO F69.res K0) (retK F69.res K0)) (F69.fr a0 v1 (I 0) v7 .nils .undef v10 a0 (I 0) .undef) h8 n9) := by
 rw [callFn_of F69.tab]; kernel_rfl
theorem F70.tab : T.get none (.of 70) tbl = some F70 := by kernel_rfl
theorem F70.go : callFn tbl N C (.of 70) [a0, a1] h nx K0 =
 sAlloc [(I 0), .nils] h nx fun v1 h2 n3 =>
 sBin .neq .str a0 (.str [115, 101, 109, 105, 109, 97, 103, 105, 99]) fun v4 =>
 sG v4 true (fun k => k a0) fun v5 =>
 sG v4 true (fun k => sBin .neq .str v5 (.str [109, 97, 103, 105, 99]) k) fun v6 =>
 sPick v4 v6 (.bool false) fun v7 =>
 sG v7 true (fun k => k a0) fun v8 =>
 sG v7 true (fun k => sBin .neq .str v8 (.str [112, 97, 110, 100, 105, 97, 103, 111, 110, 97, 108]) k) fun v9 =>
 sPick v7 v9 (.bool false) fun v10 =>
 sCond v10 (sBuild [(I 0), .nils] [] fun v11 =>
 sStore 2 v1 v11 h2 n3 fun v12 h13 n14 =>
 sLoadN 2 v1 h13 fun v15 => K0 (.tup [v15, (I 13)]) h13 n14) ((IR.run F70.b1 C N (fnO F70.res K0) (retK F70.res K0)) (F70.fr a0 a1 v1 (I 0) .undef .undef .undef v10 .undef .undef .undef .undef .undef) h2 n3) := by
 rw [callFn_of F70.tab]; kernel_rfl
theorem F70.k1 : IR.run F70.b1 C N (fnO F70.res K0) K (F70.fr x0 x1 x2 x3 x4 x5 x6 x7 x8 x9 x10 x11 x12) h nx =
 sBin .lss .int x1 (I 1) fun v1 =>
 sG v1 false (fun k => k x1) fun v2 =>
 sG v1 false (fun k => sBin .gtr .int v2 (I 16) k) fun v3 =>
 sPick v1 (.bool true) v3 fun v4 =>
 sCond v4 (sBuild [(I 0), .nils] [] fun v5 =>
 sStore 2 x2 v5 h nx fun v6 h7 n8 =>
 sLoadN 2 x2 h7 fun v9 => K0 (.tup [v9, (I 3)]) h7 n8) (C.fn 163 (.of 163) [.nils, x1, x1] h nx fun v10 h11 n12 =>
 C.fn 162 (.of 162) [v10, x1, x1] h11 n12 fun v13 h14 n15 =>
 sBin .neq .str x0 (.str [115, 101, 109, 105, 109, 97, 103, 105, 99]) fun v16 =>
 sCond v16 (C.fn 165 (.of 165) [x1, (I 0), (I 1)] h14 n15 fun v17 h18 n19 =>
 C.fn 164 (.of 164) [v13, v17] h18 n19 fun v20 h21 n22 =>
 sBin .sub .int x1 (I 1) fun v23 =>
 C.fn 165 (.of 165) [x1, v23, (I (-1))] h21 n22 fun v24 h25 n26 =>
 C.fn 164 (.of 164) [v20, v24] h25 n26 fun v27 h28 n29 =>
 (IR.run F70.b3 C N (fnO F70.res K0) K) (F70.fr x0 x1 x2 x3 v27 x5 x6 x7 v4 v16 x10 x11 x12) h28 n29) ((IR.run F70.b3 C N (fnO F70.res K0) K) (F70.fr x0 x1 x2 x3 v13 x5 x6 x7 v4 v16 x10 x11 x12) h14 n15)) := by kernel_rfl
theorem F71.tab : T.get none (.of 71) tbl = some F71 := by kernel_rfl
theorem F71.go : callFn tbl N C (.of 71) [a0, a1] h nx K0 =
 sAlloc [(I 0), .nils] h nx fun v1 h2 n3 =>
 sBin .lss .int a0 (I 1) fun v4 =>
 sG v4 false (fun k => k a0) fun v5 =>
 sG v4 false (fun k => sBin .gtr .int v5 (I 16) k) fun v6 =>
 sPick v4 (.bool true) v6 fun v7 =>
 sG v7 false (fun k => k a1) fun v8 =>
 sG v7 false (fun k => sBin .lss .int v8 (I 1) k) fun v9 =>
 sPick v7 (.bool true) v9 fun v10 =>
 sG v10 false (fun k => k a1) fun v11 =>
 sG v10 false (fun k => sBin .gtr .int v11 (I 16) k) fun v12 =>
 sPick v10 (.bool true) v12 fun v13 =>
 sCond v13 (sBuild [(I 0), .nils] [] fun v14 =>
 sStore 2 v1 v14 h2 n3 fun v15 h16 n17 =>
 sLoadN 2 v1 h16 fun v18 => K0 (.tup [v18, (I 3)]) h16 n17) ((IR.run F71.b1 C N (fnO F71.res K0) (retK F71.res K0)) (F71.fr a0 a1 v1 (I 0) v13) h2 n3) := by
 rw [callFn_of F71.tab]; kernel_rfl
theorem F72.tab : T.get none (.of 72) tbl = some F72 := by kernel_rfl
theorem F72.go : callFn tbl N C (.of 72) [a0, a1] h nx K0 =
 sAlloc [(I 0), .nils] h nx fun v1 h2 n3 =>
 sBin .lss .int a0 (I 1) fun v4 =>
 sG v4 false (fun k => k a0) fun v5 =>
 sG v4 false (fun k => sBin .gtr .int v5 (I 16) k) fun v6 =>
 sPick v4 (.bool true) v6 fun v7 =>
 sG v7 false (fun k => k a1) fun v8 =>
 sG v7 false (fun k => sBin .lss .int v8 (I 1) k) fun v9 =>
 sPick v7 (.bool true) v9 fun v10 =>
 sG v10 false (fun k => k a1) fun v11 =>
 sG v10 false (fun k => sBin .gtr .int v11 (I 16) k) fun v12 =>
 sPick v10 (.bool true) v12 fun v13 =>
 sCond v13 (sBuild [(I 0), .nils] [] fun v14 =>
 sStore 2 v1 v14 h2 n3 fun v15 h16 n17 =>
 sLoadN 2 v1 h16 fun v18 => K0 (.tup [v18, (I 3)]) h16 n17) ((IR.run F72.b1 C N (fnO F72.res K0) (retK F72.res K0)) (F72.fr a0 a1 v1 (I 0) v13) h2 n3) := by
 rw [callFn_of F72.tab]; kernel_rfl
theorem F73.tab : T.get none (.of 73) tbl = some F73 := by kernel_rfl
theorem F73.go : callFn tbl N C (.of 73) [a0] h nx K0 =
 sAlloc [(I 0), .nils] h nx fun v1 h2 n3 =>
 sBin .lss .int a0 (I 5) fun v4 =>
 sG v4 false (fun k => k a0) fun v5 =>
 sG v4 false (fun k => sBin .gtr .int v5 (I 16) k) fun v6 =>
 sPick v4 (.bool true) v6 fun v7 =>
 sCond v7 (sBuild [(I 0), .nils] [] fun v8 =>
 sStore 2 v1 v8 h2 n3 fun v9 h10 n11 =>
 sLoadN 2 v1 h10 fun v12 => K0 (.tup [v12, (I 3)]) h10 n11) (IR.run F73.b2 C N (fnO F73.res K0) (IR.run F73.b9 C N (fnO F73.res K0) (retK F73.res K0)) (F73.fr a0 v1 (I 0) .nils (I 0) v7 .undef) h2 n3) := by
 rw [callFn_of F73.tab]; kernel_rfl
theorem F75.tab : T.get none (.of 75) tbl = some F75 := by kernel_rfl
theorem F75.go : callFn tbl N C (.of 75) [a0] h nx K0 =
 sAlloc [(I 0), .nils] h nx fun v1 h2 n3 =>
 sBin .lss .int a0 (I 1) fun v4 =>
 sG v4 false (fun k => k a0) fun v5 =>
 sG v4 false (fun k => sBin .gtr .int v5 (I 6) k) fun v6 =>
 sPick v4 (.bool true) v6 fun v7 =>
 sCond v7 (sBuild [(I 0), .nils] [] fun v8 =>
 sStore 2 v1 v8 h2 n3 fun v9 h10 n11 =>
 sLoadN 2 v1 h10 fun v12 => K0 (.tup [v12, (I 3)]) h10 n11) (IR.run F75.b2 C N (fnO F75.res K0) (IR.run F75.b33 C N (fnO F75.res K0) (retK F75.res K0)) (F75.fr a0 v1 (I 0) .nils (I 0) .undef .undef .undef .undef .undef .undef .undef .undef .undef .undef v7 .undef .undef .undef .undef .undef .undef .undef .undef .undef .undef) h2 n3) := by
 rw [callFn_of F75.tab]; kernel_rfl
theorem F151.tab : T.get none (.of 151) tbl = some F151 := by kernel_rfl
theorem F151.go : callFn tbl N C (.of 151) [a0, a1] h nx K0 =
 C.fn 234 (.of 234) [a0, a1] h nx fun v1 h2 n3 =>
 sBin .geq .int v1 (I 0) fun v4 =>
 K0 v4 h2 n3 := by
 rw [callFn_of F151.tab]; kernel_rfl
theorem F234.g1_eq (X2 : IR) (O : Outs Prop) (t : T AV) : IR.run (F234.g1 X2) C N O K t h nx = IR.run X2 C N (O.blk 0 K) K t h nx := by kernel_rfl
theorem F234.tab : T.get none (.of 234) tbl = some F234 := by kernel_rfl
theorem F234.go : callFn tbl N C (.of 234) [a0, a1] h nx K0 =
 sLen a0 fun v1 =>
 IR.run F234.b1 C N (fnO F234.res K0) (IR.run F234.b8 C N (fnO F234.res K0) (retK F234.res K0)) (F234.fr a0 a1 (I 0) .undef v1 (I 0) .undef .undef) h nx := by
 rw [callFn_of F234.tab]; kernel_rfl
theorem F234.L1 (Inv : Nat → AV → T Blk → Pa → Prop) {m : Nat} (hm : m < N) (hi : Inv m x5 h nx)
  (step : ∀ (m : Nat) (z2 z3 z5 z6 z7 : AV) (h : T Blk) (nx : Pa) (R : Ks Prop), Inv m z5 h nx → (∀ (m' : Nat) (w2 w3 w5 w6 w7 : AV) (h' : T Blk) (nx' : Pa), m' < m → Inv m' w5 h' nx' → R (F234.fr x0 x1 w2 w3 x4 w5 w6 w7) h' nx' = .ok True) →
   (sBin .lss .int z5 x4 fun v1 =>
 sCond v1 (sIaddr 1 x0 z5 fun v2 =>
 sLoad v2 h fun v3 =>
 sBin .eql .str x1 v3 fun v4 =>
 sCond v4 (K0 z5 h nx) (sBin .add .int z5 (I 1) fun v5 =>
 R (F234.fr x0 x1 z2 z5 x4 v5 v1 v4) h nx)) (K (F234.fr x0 x1 z2 z3 x4 z5 v1 z7) h nx)) = .ok True) :
  IR.run F234.b1 C N (fnO F234.res K0) K (F234.fr x0 x1 x2 x3 x4 x5 x6 x7) h nx = .ok True := by
 rw [F234.b1, F234.g1_eq, F234.b2]
 refine loop_ok (fun m tm h nx => ∃ z2 z3 z5 z6 z7, tm = (F234.fr x0 x1 z2 z3 x4 z5 z6 z7) ∧ Inv m z5 h nx) ?_ hm ⟨_, _, _, _, _, rfl, hi⟩
 rintro m tm h nx R ⟨z2, z3, z5, z6, z7, rfl, hi⟩ hR
 refine Eq.trans ?_ (step m z2 z3 z5 z6 z7 h nx R hi fun m' w2 w3 w5 w6 w7 h' nx' hlt hi' => hR m' _ h' nx' hlt ⟨_, _, _, _, _, rfl, hi'⟩)
 kernel_rfl
theorem F234.k8 : IR.run F234.b8 C N (fnO F234.res K0) K (F234.fr x0 x1 x2 x3 x4 x5 x6 x7) h nx =
 K0 (I (-1)) h nx := by kernel_rfl
end Go.Ev
namespace Go.Ev
open Go Go.Proofs
noncomputable def okRun (J : Nat → List AV → T Blk → Option (AV × T Blk)) (f : Nat) (args : List AV) (res : AV) : Bool := match (callsF (fun _ => false) J tbl 1000 60).fn f (.of f) args .e .z endK with
 | .ok v => avEq v res
 | .no _ => false
theorem okRun_pure {J : Nat → List AV → T Blk → Option (AV × T Blk)} {f : Nat} {args : List AV} {res : AV} {B : Nat} (hJ : ∀ B, JOk Tryz.prog B J) (ha : nns args = true) (h : okRun J f args res = true) : Pure Tryz.prog B f args (· = res) := by
 unfold okRun at h
 cases hq : (callsF (fun _ => false) J tbl 1000 60).fn f (.of f) args .e .z endK with
 | no n => rw [hq] at h; cases h
 | ok v =>
  rw [hq] at h
  have e := avEq_eq h
  subst e
  exact closed_pureF tbl_ok mixed hJ ha hq
theorem nns_ii (a b : Int) : nns [I a, I b] = true := rfl
theorem nns_i (a : Int) : nns [I a] = true := rfl
theorem nns_si (s : List UInt8) (a : Int) : nns [.str s, I a] = true := rfl
def rowsL (r c : Nat) : List (List Int) := (List.range r).map fun i => (List.range c).map fun k => ((c * i + k : Nat) : Int)
def colsL (r c : Nat) : List (List Int) := (List.range c).map fun k => (List.range r).map fun i => ((c * i + k : Nat) : Int)
noncomputable def rowsV (r c : Nat) : AV := .tup [.agg [I ((r * c : Nat) : Int), encT (rowsL r c)], I 0]
noncomputable def colsV (r c : Nat) : AV := .tup [.agg [I ((r * c : Nat) : Int), encT (colsL r c)], I 0]
noncomputable def ok66 (f : Nat) (V : Nat → Nat → AV) (r : Nat) : Bool := (List.range 6).all fun c => okRun hookJ f [I ((r + 1 : Nat) : Int), I ((c + 1 : Nat) : Int)] (V (r + 1) (c + 1))
theorem ok66_pure {f : Nat} {V : Nat → Nat → AV} (h : ((List.range 6).all fun r => ok66 f V r) = true) {r c : Nat} {B : Nat} (hr : 1 ≤ r ∧ r ≤ 6) (hc : 1 ≤ c ∧ c ≤ 6) : Pure Tryz.prog B f [I (r : Int), I (c : Int)] (· = V r c) := by
 have h1 := List.all_eq_true.1 h (r - 1) (List.mem_range.2 (by omega))
 have h2 := List.all_eq_true.1 h1 (c - 1) (List.mem_range.2 (by omega))
 rw [show r - 1 + 1 = r by omega, show c - 1 + 1 = c by omega] at h2
 exact okRun_pure (fun _ => hookJ_ok) (nns_ii _ _) h2
def dedL (ls : List (List Int)) : List (List Int) := ls.foldl (fun out l => if out.contains l then out else out ++ [l]) []
def diagL (n : Nat) (d : Int) (k : Nat) : List Int := (List.range n).map fun (r : Nat) => (n : Int) * (r : Int) + (((k : Int) + d * (r : Int)) % (n : Int))
def sqL (k : Nat) (n : Nat) : List (List Int) :=
 dedL (rowsL n n ++ colsL n n ++ (if k = 0 then [] else [diagL n 1 0, diagL n (-1) (n - 1)]) ++ (if k = 2 then (List.range n).map (diagL n 1) ++ (List.range n).map (diagL n (-1)) else []))
def kindS (k : Nat) : List UInt8 := if k = 0 then [115, 101, 109, 105, 109, 97, 103, 105, 99] else if k = 1 then [109, 97, 103, 105, 99] else [112, 97, 110, 100, 105, 97, 103, 111, 110, 97, 108]
noncomputable def sqV (k n : Nat) : AV := .tup [.agg [I ((n * n : Nat) : Int), encT (sqL k n)], I 0]
noncomputable def ok65 (f : Nat) (k : Nat) : Bool := (List.range 6).all fun n => okRun hookJ f [.str (kindS k), I ((n + 1 : Nat) : Int)] (sqV k (n + 1))
theorem ok65_pure {f k : Nat} (h : ok65 f k = true) {n : Nat} {B : Nat} (hn : 1 ≤ n ∧ n ≤ 6) : Pure Tryz.prog B f [.str (kindS k), I (n : Int)] (· = sqV k n) := by
 have h2 := List.all_eq_true.1 h (n - 1) (List.mem_range.2 (by omega))
 rw [show n - 1 + 1 = n by omega] at h2
 exact okRun_pure (fun _ => hookJ_ok) (nns_si _ _) h2
def atL (n x y z : Nat) : Int := ((n * n * x + n * y + z : Nat) : Int)
def cubeL (n : Nat) : List (List Int) := dedL (
 ((List.range n).flatMap fun a => (List.range n).map fun b => (List.range n).map fun i => atL n a b i) ++
 ((List.range n).flatMap fun a => (List.range n).map fun b => (List.range n).map fun i => atL n a i b) ++
 ((List.range n).flatMap fun a => (List.range n).map fun b => (List.range n).map fun i => atL n i a b) ++
 [(List.range n).map fun x => atL n x x x, (List.range n).map fun x => atL n x x (n - 1 - x), (List.range n).map fun x => atL n x (n - 1 - x) x, (List.range n).map fun x => atL n x (n - 1 - x) (n - 1 - x)])
noncomputable def cubeV (n : Nat) : AV := .tup [.agg [I ((n * n * n : Nat) : Int), encT (cubeL n)], I 0]
def starL5 (n : Nat) : List (List Int) := if n = 5 then [[0, 2, 5, 6], [1, 3, 6, 7], [2, 4, 7, 8], [0, 3, 8, 9], [1, 4, 5, 9]] else [[0, 2, 6, 7], [1, 3, 7, 8], [2, 4, 8, 9], [3, 5, 9, 10], [0, 4, 10, 11], [1, 5, 6, 11]]
noncomputable def starV (n : Nat) : AV := .tup [.agg [I ((2 * n : Nat) : Int), encT (starL5 n)], I 0]
noncomputable def okN (f : Nat) (V : Nat → AV) (l : List Nat) : Bool := l.all fun n => okRun hookJ f [I (n : Int)] (V n)
theorem okN_pure {f : Nat} {V : Nat → AV} {l : List Nat} (h : okN f V l = true) {n : Nat} {B : Nat} (hn : n ∈ l) : Pure Tryz.prog B f [I (n : Int)] (· = V n) :=
 okRun_pure (fun _ => hookJ_ok) (nns_i _) (List.all_eq_true.1 h n hn)
end Go.Ev
namespace Go.Ev
open Go Go.Proofs
variable {B : Nat}
set_option maxRecDepth 100000
theorem sEqlS {a b : List UInt8} {K : AV → OP} : sBin .eql .str (.str a) (.str b) K = K (.bool (decide (a = b))) := by
 have : sBin .eql .str (.str a) (.str b) K = K (.bool (bytesEq a b)) := rfl
 rw [this]
 by_cases c : a = b
 ·rw [decide_eq_true c, bytesEq_iff.2 c]
 ·rw [decide_eq_false c]
  cases q : bytesEq a b with
  | false => rfl
  | true => exact absurd (bytesEq_iff.1 q) c
theorem sNeqS {a b : List UInt8} {K : AV → OP} : sBin .neq .str (.str a) (.str b) K = K (.bool (!decide (a = b))) := by
 have : sBin .neq .str (.str a) (.str b) K = K (.bool (!bytesEq a b)) := rfl
 rw [this]
 by_cases c : a = b
 ·rw [decide_eq_true c, bytesEq_iff.2 c]
 ·rw [decide_eq_false c]
  cases q : bytesEq a b with
  | false => rfl
  | true => exact absurd (bytesEq_iff.1 q) c
theorem fixdS (l : List (List UInt8)) : ∀ v ∈ l.map AV.str, fixd v = true := fun v hv => by obtain ⟨x, _, rfl⟩ := List.mem_map.1 hv; rfl
theorem index234 {l : List (List UInt8)} {s : List UInt8} (hl : l.length ≤ 1000) : Pure Tryz.prog B 234 [.lst 1 l.length (l.map .str), .str s] (fun v => ∃ r : Int, v = I r ∧ (0 ≤ r ↔ s ∈ l)) := by
 intro p h nx K hK
 refine by_body tbl_ok dreg 10000 fun hf => ?_
 rw [F234.go]
 simp only [sLen_lst]
 refine F234.L1 (fun m x5 h' nx' => ∃ i : Nat, x5 = I i ∧ l.length - i = m ∧ i ≤ l.length ∧ h' = h ∧ nx' = nx ∧ s ∉ l.take i) (m := l.length) (by omega) ⟨0, rfl, rfl, by omega, rfl, rfl, by simp⟩ ?_
 rintro m z2 z3 z5 z6 z7 h nx R ⟨i, rfl, rfl, hi, rfl, rfl, hn⟩ hR
 simp only [sLss]
 by_cases hlt : i < l.length
 case neg =>
  simp only [show ¬ (i : Int) < (l.length : Int) by omega, decide_false, sCond_f]
  rw [F234.k8]
  rw [List.take_of_length_le (by omega)] at hn
  exact hK _ ⟨_, rfl, by constructor <;> intro q <;> first | omega | exact absurd q hn⟩ hf
 simp only [show (i : Int) < (l.length : Int) by omega, decide_true, sCond_t]
 have hx : l[i]? = some l[i] := List.getElem?_eq_getElem hlt
 have hx' : (l.map AV.str)[i]? = some (.str l[i]) := by rw [List.getElem?_map, hx]; rfl
 rw [sIxL rfl hlt, ldL hx', sEqlS]
 by_cases c : s = l[i]
 ·simp only [c, decide_true, sCond_t]
  exact hK _ ⟨_, rfl, ⟨fun _ => by rw [c]; exact List.getElem_mem hlt, fun _ => by omega⟩⟩ hf
 ·simp only [c, decide_false, sCond_f]
  rw [sAdd (by omega)]
  refine hR _ _ _ _ _ _ _ _ (by omega) ⟨i + 1, rfl, rfl, by omega, rfl, rfl, ?_⟩
  rw [List.take_add_one, hx, Option.toList_some, List.mem_append, List.mem_singleton]
  exact fun q => q.elim hn c
theorem cont151 {l : List (List UInt8)} {s : List UInt8} (hl : l.length ≤ 1000) : Pure Tryz.prog B 151 [.lst 1 l.length (l.map .str), .str s] (· = .bool (decide (s ∈ l))) := by
 intro p h nx K hK
 refine by_body tbl_ok dreg 10000 fun hf => ?_
 rw [F151.go]
 refine index234 hl _ _ _ _ ?_
 rintro _ ⟨r, rfl, hr⟩ _
 simp only [sGeq]
 exact hK _ (by congr 1; exact decide_eq_decide.2 hr) hf
theorem own_plain3 {P : Program} {f : Nat} {p id : Pa} {h0 h : T Blk} {nx : Pa} {L : List Ob} {k : Nat} {a b : Int} {l : List Int} {K : Kw Prop} {Q : AV → Prop} (H : Hp h0 h nx L) (hk : L[k]? = some (.arr id (l.map I))) (hq : ∀ B, Pure P B f [I a, I b, encI l] Q) (hpl : ∀ v, Q v → Plain v)
  (hK : ∀ v, Q v → K v h nx = .ok True) : (CS P B).fn f p [I a, I b, .sl id 0 l.length (some l.length) 1] h nx K = .ok True :=
 CS_plain (.cons (.int _ _) (.cons (.int _ _) (.cons (HasArr.frz (H.own _ (List.mem_of_getElem? hk)) (T.get_e _ id) (Nat.le_refl _) (by simp) (fixd_Is _)) .nil))) (by
  have := fixd_encI l
  simp only [nns, fixd.nn this, Bool.and_self, show nn (I a) = true from rfl, show nn (I b) = true from rfl]) hq hpl fun v hv _ => hK v hv
theorem own_strs {P : Program} {f : Nat} {p id : Pa} {h0 h : T Blk} {nx : Pa} {L : List Ob} {k : Nat} {l : List (List UInt8)} {s : List UInt8} {K : Kw Prop} {Q : AV → Prop} (H : Hp h0 h nx L) (hk : L[k]? = some (.arr id (l.map .str))) (hq : ∀ B, Pure P B f [.lst 1 l.length (l.map .str), .str s] Q) (hpl : ∀ v, Q v → Plain v)
  (hK : ∀ v, Q v → K v h nx = .ok True) : (CS P B).fn f p [.sl id 0 l.length (some l.length) 1, .str s] h nx K = .ok True :=
 CS_plain (.cons (HasArr.frz (H.own _ (List.mem_of_getElem? hk)) (T.get_e _ id) (Nat.le_refl _) (by simp) (fixdS l)) (.cons (.str _) .nil)) (by
  have : fixd (.lst 1 l.length (l.map .str)) = true := fixd_all (fixdS l)
  simp only [nns, fixd.nn this, Bool.and_self, show nn (.str s) = true from rfl]) hq hpl fun v hv _ => hK v hv
def nilSy : AV := .agg [I 0, .nils]
theorem ret_none {h0 h : T Blk} {nx p : Pa} {L : List Ob} {k : Nat} {e : Int} {l : List AV} {K : Kw Prop} (H : Hp h0 h nx L) (hk : L[k]? = some (.arr p l)) (hl : l.length = 2)
  (hK : ∀ h' nx' L', Hp h0 h' nx' L' → K (.tup [nilSy, I e]) h' nx' = .ok True) : (sBuild [(I 0), .nils] [] fun v11 => sStore 2 (.ptr p 0) v11 h nx fun v12 h13 n14 => sLoadN 2 (.ptr p 0) h13 fun v15 => K (.tup [v15, I e]) h13 n14) = .ok True := by
 rw [sBuild0]
 refine H.storeN (l2 := [I 0, .nils]) (k := k) hk hl rfl fun h4 H4 => ?_
 rw [H4.loadN (k := k) (n := 2) (List.getElem?_set_self (List.getElem?_eq_some_iff.1 hk).1) rfl]
 exact hK _ _ _ H4
def noV (e : Int) : AV := .tup [nilSy, I e]
theorem noV_eq {e : Int} {h0 : T Blk} {K : Kw Prop} (hK : ∀ (v : AV) (h' : T Blk) (nx' : Pa) (L : List Ob) (v' : AV), Hp h0 h' nx' L → FrzN h0 h' v v' → v' = noV e → K v h' nx' = .ok True) : ∀ h' nx' L', Hp h0 h' nx' L' → K (.tup [nilSy, I e]) h' nx' = .ok True :=
 fun _ _ _ H => hK _ _ _ _ _ H (frz_tup2 (frz_agg (by simp [fixd])) (frz_fixd rfl)) rfl
def rngE (a b : Int) (l : List Int) : Int := if l.any (fun x => decide (x < a) || decide (b < x)) then 3 else 0
theorem from87 {a b : Int} {h0 h : T Blk} {nx p : Pa} {L : List Ob} {l : List Int} {K : Kw Prop} {id : Pa} {k n : Nat} (hn : l.length = n) (hl : l.length ≤ 1000000) (H : Hp h0 h nx L) (hk : L[k]? = some (.arr id (l.map I))) (hK : K (I (rngE a b l)) h nx = .ok True) : (CS Tryz.prog B).fn 87 p [I a, I b, .sl id 0 n (some n) 1] h nx K = .ok True := by
 subst hn
 exact own_plain3 H hk (fun B => from122 hl) (fun v hv => by rw [hv]; exact .int _ _) fun v hv => by rw [hv]; exact hK
theorem rows66e {r c : Int} (he : rngE 1 16 [r, c] ≠ 0) : Pure Tryz.prog B 66 [I r, I c] (· = noV (rngE 1 16 [r, c])) := by
 refine pure_hp fun h nx K H0 hK => by_body tbl_ok dreg 100 fun hf => ?_
 rw [F66.go]
 refine H0.alloc fun p h1 nx1 H1 => ?_
 refine H1.bslice (l := [I r, I c]) rfl fun b h2 nx2 H2 => ?_
 refine from87 (l := [r, c]) rfl (by simp) H2 (k := 0) rfl ?_
 simp only [sNeq, he, decide_false, Bool.not_false, sCond_t]
 exact ret_none H2 (k := 1) rfl rfl (noV_eq hK)
theorem cols67e {r c : Int} (he : rngE 1 16 [r, c] ≠ 0) : Pure Tryz.prog B 67 [I r, I c] (· = noV (rngE 1 16 [r, c])) := by
 refine pure_hp fun h nx K H0 hK => by_body tbl_ok dreg 100 fun hf => ?_
 rw [F67.go]
 refine H0.alloc fun p h1 nx1 H1 => ?_
 refine H1.bslice (l := [I r, I c]) rfl fun b h2 nx2 H2 => ?_
 refine from87 (l := [r, c]) rfl (by simp) H2 (k := 0) rfl ?_
 simp only [sNeq, he, decide_false, Bool.not_false, sCond_t]
 exact ret_none H2 (k := 1) rfl rfl (noV_eq hK)
theorem cube68e {n : Int} (he : rngE 1 6 [n] ≠ 0) : Pure Tryz.prog B 68 [I n] (· = noV (rngE 1 6 [n])) := by
 refine pure_hp fun h nx K H0 hK => by_body tbl_ok dreg 100 fun hf => ?_
 rw [F68.go]
 refine H0.box (l := [I n]) rfl fun bx h0 nx0 H0 => ?_
 refine H0.alloc fun p h1 nx1 H1 => ?_
 rw [H1.load (k := 1) (i := 0) rfl rfl]
 refine H1.bslice (l := [I n]) rfl fun b h2 nx2 H2 => ?_
 refine from87 (l := [n]) rfl (by simp) H2 (k := 0) rfl ?_
 simp only [sNeq, he, decide_false, Bool.not_false, sCond_t]
 exact ret_none H2 (k := 1) rfl rfl (noV_eq hK)
theorem star69e {n : Int} (he : rngE 5 16 [n] ≠ 0) : Pure Tryz.prog B 69 [I n] (· = noV (rngE 5 16 [n])) := by
 refine pure_hp fun h nx K H0 hK => by_body tbl_ok dreg 100 fun hf => ?_
 rw [F69.go]
 refine H0.alloc fun p h1 nx1 H1 => ?_
 refine H1.bslice (l := [I n]) rfl fun b h2 nx2 H2 => ?_
 refine from87 (l := [n]) rfl (by simp) H2 (k := 0) rfl ?_
 simp only [sNeq, he, decide_false, Bool.not_false, sCond_t]
 exact ret_none H2 (k := 1) rfl rfl (noV_eq hK)
abbrev kinds3 : List (List UInt8) := [kindS 0, kindS 1, kindS 2]
def sqE (s : List UInt8) (n : Int) : Int := if s ∈ kinds3 then rngE 1 16 [n] else 13
theorem square65e {s : List UInt8} {n : Int} (he : sqE s n ≠ 0) : Pure Tryz.prog B 65 [.str s, I n] (· = noV (sqE s n)) := by
 refine pure_hp fun h nx K H0 hK => by_body tbl_ok dreg 100 fun hf => ?_
 rw [F65.go]
 refine H0.alloc fun p h1 nx1 H1 => ?_
 refine H1.bslice (l := kinds3.map .str) rfl fun b h2 nx2 H2 => ?_
 refine own_strs (l := kinds3) H2 (k := 0) rfl (fun B => cont151 (by simp)) (fun v hv => by rw [hv]; exact .bool _) ?_
 rintro _ rfl
 simp only [sNot_b]
 refine when123 _ _ _ _ _ _ ?_
 rintro _ rfl _
 refine H2.bslice (l := [I n]) rfl fun b h3 nx3 H3 => ?_
 refine from87 (l := [n]) rfl (by simp) H3 (k := 0) rfl ?_
 refine H3.bslice (l := [I (if (!decide (s ∈ kinds3)) = true then 13 else 0), I (rngE 1 16 [n])]) rfl fun b h4 nx4 H4 => ?_
 refine own_plain (l := [if (!decide (s ∈ kinds3)) = true then 13 else 0, rngE 1 16 [n]]) H4 (k := 0) rfl (fun B => first121 (by simp)) (fun v hv => by rw [hv]; exact .int _ _) ?_
 rintro _ rfl
 have e : firstE [if (!decide (s ∈ kinds3)) = true then 13 else 0, rngE 1 16 [n]] = sqE s n := by
  by_cases c : s ∈ kinds3
  ·simp only [decide_eq_true c, firstE, sqE, if_pos c, Bool.not_true, Bool.false_eq_true, if_false]
   by_cases q : rngE 1 16 [n] = 0 <;> simp [q]
  ·simp [firstE, sqE, c]
 rw [e]
 simp only [sNeq, he, decide_false, Bool.not_false, sCond_t]
 exact ret_none H4 (k := 3) rfl rfl (noV_eq hK)
theorem rng1 {a b n : Int} : rngE a b [n] = if n < a ∨ b < n then 3 else 0 := by
 unfold rngE
 by_cases c1 : n < a <;> by_cases c2 : b < n <;> simp [c1, c2]
theorem rng2 {a b n m : Int} : rngE a b [n, m] = if (n < a ∨ b < n) ∨ (m < a ∨ b < m) then 3 else 0 := by
 unfold rngE
 by_cases c1 : n < a <;> by_cases c2 : b < n <;> by_cases c3 : m < a <;> by_cases c4 : b < m <;> simp [c1, c2, c3, c4]
theorem ref71e {r c : Int} (he : rngE 1 16 [r, c] ≠ 0) : Pure Tryz.prog B 71 [I r, I c] (· = noV (rngE 1 16 [r, c])) := by
 refine pure_hp fun h nx K H0 hK => by_body tbl_ok dreg 100 fun hf => ?_
 rw [F71.go]
 refine H0.alloc fun p h1 nx1 H1 => ?_
 rw [rng2] at he hK
 have cc : (r < 1 ∨ 16 < r) ∨ (c < 1 ∨ 16 < c) := by
  by_cases q : (r < 1 ∨ 16 < r) ∨ (c < 1 ∨ 16 < c)
  ·exact q
  ·rw [if_neg q] at he; exact absurd rfl he
 rw [if_pos cc] at hK
 simp only [sLss, sGtr]
 by_cases c1 : r < 1
 ·simp only [c1, decide_true, sG_tf, sPick_t, sCond_t]; exact ret_none H1 (k := 0) rfl rfl (noV_eq hK)
 by_cases c2 : 16 < r
 ·simp only [c1, c2, decide_true, decide_false, sG_tf, sG_ff, sGtr, sPick_t, sPick_f, sCond_t]; exact ret_none H1 (k := 0) rfl rfl (noV_eq hK)
 by_cases c3 : c < 1
 ·simp only [c1, c2, c3, decide_true, decide_false, sG_tf, sG_ff, sGtr, sLss, sPick_t, sPick_f, sCond_t]; exact ret_none H1 (k := 0) rfl rfl (noV_eq hK)
 have c4 : 16 < c := by omega
 simp only [c1, c2, c3, c4, decide_true, decide_false, sG_tf, sG_ff, sGtr, sLss, sPick_t, sPick_f, sCond_t]; exact ret_none H1 (k := 0) rfl rfl (noV_eq hK)
theorem ref72e {r c : Int} (he : rngE 1 16 [r, c] ≠ 0) : Pure Tryz.prog B 72 [I r, I c] (· = noV (rngE 1 16 [r, c])) := by
 refine pure_hp fun h nx K H0 hK => by_body tbl_ok dreg 100 fun hf => ?_
 rw [F72.go]
 refine H0.alloc fun p h1 nx1 H1 => ?_
 rw [rng2] at he hK
 have cc : (r < 1 ∨ 16 < r) ∨ (c < 1 ∨ 16 < c) := by
  by_cases q : (r < 1 ∨ 16 < r) ∨ (c < 1 ∨ 16 < c)
  ·exact q
  ·rw [if_neg q] at he; exact absurd rfl he
 rw [if_pos cc] at hK
 simp only [sLss, sGtr]
 by_cases c1 : r < 1
 ·simp only [c1, decide_true, sG_tf, sPick_t, sCond_t]; exact ret_none H1 (k := 0) rfl rfl (noV_eq hK)
 by_cases c2 : 16 < r
 ·simp only [c1, c2, decide_true, decide_false, sG_tf, sG_ff, sGtr, sPick_t, sPick_f, sCond_t]; exact ret_none H1 (k := 0) rfl rfl (noV_eq hK)
 by_cases c3 : c < 1
 ·simp only [c1, c2, c3, decide_true, decide_false, sG_tf, sG_ff, sGtr, sLss, sPick_t, sPick_f, sCond_t]; exact ret_none H1 (k := 0) rfl rfl (noV_eq hK)
 have c4 : 16 < c := by omega
 simp only [c1, c2, c3, c4, decide_true, decide_false, sG_tf, sG_ff, sGtr, sLss, sPick_t, sPick_f, sCond_t]; exact ret_none H1 (k := 0) rfl rfl (noV_eq hK)
theorem ref73e {n : Int} (he : rngE 5 16 [n] ≠ 0) : Pure Tryz.prog B 73 [I n] (· = noV (rngE 5 16 [n])) := by
 refine pure_hp fun h nx K H0 hK => by_body tbl_ok dreg 100 fun hf => ?_
 rw [F73.go]
 refine H0.alloc fun p h1 nx1 H1 => ?_
 rw [rng1] at he hK
 have c : n < 5 ∨ 16 < n := by
  by_cases q : n < 5 ∨ 16 < n
  ·exact q
  ·rw [if_neg q] at he; exact absurd rfl he
 rw [if_pos c] at hK
 simp only [sLss]
 by_cases c1 : n < 5
 ·simp only [c1, decide_true, sG_tf, sPick_t, sCond_t]; exact ret_none H1 (k := 0) rfl rfl (noV_eq hK)
 have c2 : 16 < n := by omega
 simp only [c1, c2, decide_true, decide_false, sG_ff, sGtr, sPick_f, sCond_t]; exact ret_none H1 (k := 0) rfl rfl (noV_eq hK)
theorem ref75e {n : Int} (he : rngE 1 6 [n] ≠ 0) : Pure Tryz.prog B 75 [I n] (· = noV (rngE 1 6 [n])) := by
 refine pure_hp fun h nx K H0 hK => by_body tbl_ok dreg 100 fun hf => ?_
 rw [F75.go]
 refine H0.alloc fun p h1 nx1 H1 => ?_
 rw [rng1] at he hK
 have c : n < 1 ∨ 6 < n := by
  by_cases q : n < 1 ∨ 6 < n
  ·exact q
  ·rw [if_neg q] at he; exact absurd rfl he
 rw [if_pos c] at hK
 simp only [sLss]
 by_cases c1 : n < 1
 ·simp only [c1, decide_true, sG_tf, sPick_t, sCond_t]; exact ret_none H1 (k := 0) rfl rfl (noV_eq hK)
 have c2 : 6 < n := by omega
 simp only [c1, c2, decide_true, decide_false, sG_ff, sGtr, sPick_f, sCond_t]; exact ret_none H1 (k := 0) rfl rfl (noV_eq hK)
theorem ref70e {s : List UInt8} {n : Int} (he : sqE s n ≠ 0) : Pure Tryz.prog B 70 [.str s, I n] (· = noV (sqE s n)) := by
 refine pure_hp fun h nx K H0 hK => by_body tbl_ok dreg 100 fun hf => ?_
 rw [F70.go]
 refine H0.alloc fun p h1 nx1 H1 => ?_
 have step : ∀ q : Bool, q = (!decide (s ∈ kinds3)) → sCond (.bool q) (sBuild [(I 0), .nils] [] fun v11 => sStore 2 (.ptr p 0) v11 h1 nx1 fun v12 h13 n14 => sLoadN 2 (.ptr p 0) h13 fun v15 => K (.tup [v15, I 13]) h13 n14) (IR.run F70.b1 (CS Tryz.prog B) 100 (fnO F70.res K) (retK F70.res K) (F70.fr (.str s) (I n) (.ptr p 0) (I 0) .nils .undef .undef (.bool q) .undef .undef .undef .undef .undef) h1 nx1) = .ok True := by
  rintro q rfl
  by_cases c : s ∈ kinds3
  case neg =>
   rw [sqE, if_neg c] at hK
   simp only [c, decide_false, Bool.not_false, sCond_t]
   exact ret_none H1 (k := 0) rfl rfl (noV_eq hK)
  simp only [c, decide_true, Bool.not_true, sCond_f]
  rw [sqE, if_pos c, rng1] at he hK
  have c' : n < 1 ∨ 16 < n := by
   by_cases q : n < 1 ∨ 16 < n
   ·exact q
   ·rw [if_neg q] at he; exact absurd rfl he
  rw [if_pos c'] at hK
  rw [F70.k1]
  simp only [sLss]
  by_cases c1 : n < 1
  ·simp only [c1, decide_true, sG_tf, sPick_t, sCond_t]; exact ret_none H1 (k := 0) rfl rfl (noV_eq hK)
  have c2 : 16 < n := by omega
  simp only [c1, c2, decide_true, decide_false, sG_ff, sGtr, sPick_f, sCond_t]; exact ret_none H1 (k := 0) rfl rfl (noV_eq hK)
 rw [sNeqS]
 by_cases c1 : s = kindS 0
 ·subst c1
  simp only [show (kindS 0 = [115, 101, 109, 105, 109, 97, 103, 105, 99]) from rfl, decide_true, Bool.not_true, sG_ft, sPick_f]
  exact step false (by decide)
 simp only [show ¬ (s = [115, 101, 109, 105, 109, 97, 103, 105, 99]) from c1, decide_false, Bool.not_false, sG_tt, sNeqS, sPick_t]
 by_cases c2 : s = kindS 1
 ·subst c2
  simp only [show (kindS 1 = [109, 97, 103, 105, 99]) from rfl, decide_true, Bool.not_true, sG_ft, sPick_f]
  exact step false (by decide)
 simp only [show ¬ (s = [109, 97, 103, 105, 99]) from c2, decide_false, Bool.not_false, sG_tt, sNeqS, sPick_t]
 refine step _ ?_
 by_cases c3 : s = kindS 2
 ·subst c3; decide
 ·have : ¬ s ∈ kinds3 := by simp [kinds3, c1, c2, c3]
  rw [decide_eq_false this, decide_eq_false (show ¬ (s = [112, 97, 110, 100, 105, 97, 103, 111, 110, 97, 108]) from c3)]
end Go.Ev
namespace Go.Ev
open Go Go.Proofs
set_option maxRecDepth 100000
theorem t66 : ((List.range 6).all fun r => ok66 66 rowsV r) = true := by kernel_rfl
theorem t67 : ((List.range 6).all fun r => ok66 67 colsV r) = true := by kernel_rfl
end Go.Ev
namespace Go.Ev
open Go Go.Proofs
set_option maxRecDepth 100000
theorem t71 : ((List.range 6).all fun r => ok66 71 rowsV r) = true := by kernel_rfl
theorem t72 : ((List.range 6).all fun r => ok66 72 colsV r) = true := by kernel_rfl
end Go.Ev
namespace Go.Ev
open Go Go.Proofs
set_option maxRecDepth 100000
theorem t65_0 : ok65 65 0 = true := by kernel_rfl
theorem t65_1 : ok65 65 1 = true := by kernel_rfl
theorem t65_2 : ok65 65 2 = true := by kernel_rfl
end Go.Ev
namespace Go.Ev
open Go Go.Proofs
set_option maxRecDepth 100000
theorem t70_0 : ok65 70 0 = true := by kernel_rfl
theorem t70_1 : ok65 70 1 = true := by kernel_rfl
theorem t70_2 : ok65 70 2 = true := by kernel_rfl
end Go.Ev
namespace Go.Ev
open Go Go.Proofs
set_option maxRecDepth 100000
theorem t68a : okN 68 cubeV [1, 2, 3, 4] = true := by kernel_rfl
theorem t75 : okN 75 cubeV [1, 2, 3] = true := by kernel_rfl
theorem t69 : okN 69 starV [5, 6] = true := by kernel_rfl
theorem t73 : okN 73 starV [5, 6] = true := by kernel_rfl
end Go.Ev
namespace Go.Ev
open Go Go.Proofs
set_option maxRecDepth 100000
theorem t68b : okN 68 cubeV [5] = true := by kernel_rfl
end Go.Ev
namespace Go.Ev
open Go Go.Proofs
set_option maxRecDepth 100000
theorem t68c : okN 68 cubeV [6] = true := by kernel_rfl
end Go.Ev
namespace Go.Ev
open Go Go.Proofs
set_option maxRecDepth 100000
section
variable {N : Nat} {C : Calls Prop} {K0 : Kw Prop} {K : Ks Prop} {h : T Blk} {nx : Pa} {x0 x1 x2 x3 x4 x5 x6 x7 x8 x9 x10 x11 x12 x13 x14 x15 x16 x17 x18 x19 x20 x21 x22 x23 x24 x25 x26 a0 a1 a2 : AV}
noncomputable def F14.t0 : IR := .reg [.q (.of 3) (.mv (.c (.bool false)))]
noncomputable def F14.r1_2 : List RO := .p .push (some ((.s 1), true)) (.bin .leq .int (.s 0) (.c (I 16))) :: .p .push (some ((.s 5), false)) (.pick (.s 2) (.s 0) (.c (.bool false))) :: .q (.of 24) (.pick (.s 6) (.c (.bool true)) (.s 0)) :: []
noncomputable def F14.r1_1 : List RO := .p .push (some ((.s 1), true)) (.bin .leq .int (.s 0) (.c (I 16))) :: .p .push (some ((.s 5), false)) (.pick (.s 2) (.s 0) (.c (.bool false))) :: .s (.pick (.s 6) (.c (.bool true)) (.s 0)) :: .s (.mv (.s 0)) :: .p .push (some ((.s 0), false)) (.mv (.t (.of 2))) :: .p .push (some ((.s 1), false)) (.bin .gtr .int (.s 0) (.c (I 6))) :: .p .push (some ((.s 2), false)) (.mv (.s 0)) :: .p .push (some ((.s 0), true)) (.mv (.t (.of 2))) :: F14.r1_2
noncomputable def F14.r1_0 : List RO := .s (.mv (.t (.of 0))) :: .s (.slen (.s 0)) :: .s (.bin .gtr .int (.s 0) (.c (I 40))) :: .s (.mv (.s 0)) :: .p .push (some ((.s 0), false)) (.mv (.t (.of 1))) :: .p .push (some ((.s 1), false)) (.bin .gtr .int (.s 0) (.c (I 6))) :: .p .push (some ((.s 2), false)) (.mv (.s 0)) :: .p .push (some ((.s 0), true)) (.mv (.t (.of 1))) :: F14.r1_1
noncomputable def F14.t1 : IR := .reg F14.r1_0
noncomputable def F14.t2 : IR := .reg [.w .push none (.call (.c (.fn 17 (.of 17) [])) []), .q (.of 3) (.mv (.s 0))]
noncomputable def F14.t3 : IR := .seq F14.t2 .ret
noncomputable def F14.t4 : IR := .cond (.t (.of 24)) F14.t3 .skip
noncomputable def F14.t5 : IR := .seq F14.t1 F14.t4
noncomputable def F14.t6 : IR := .reg [.s (.mv (.t (.of 0))), .s (.mv (.t (.of 1))), .w .push none (.call (.c (.fn 65 (.of 65) [])) [(.s 1), (.s 0)]), .s (.mv (.s 0)), .s (.ext 0 (.s 0)), .s (.ext 1 (.s 1)), .w (.loc (.of 4)) none (.alloc [(I 0), .nils]), .w .none none (.store 2 (.t (.of 4)) (.s 1)), .q (.of 5) (.mv (.s 0))]
noncomputable def F14.t7 : IR := .reg [.s (.mv (.t (.of 1))), .s (.mv (.t (.of 2))), .w .push none (.call (.c (.fn 66 (.of 66) [])) [(.s 1), (.s 0)]), .s (.mv (.s 0)), .s (.ext 0 (.s 0)), .s (.ext 1 (.s 1)), .w (.loc (.of 6)) none (.alloc [(I 0), .nils]), .w .none none (.store 2 (.t (.of 6)) (.s 1)), .q (.of 7) (.mv (.s 0))]
noncomputable def F14.t8 : IR := .reg [.s (.mv (.t (.of 1))), .s (.mv (.t (.of 2))), .w .push none (.call (.c (.fn 67 (.of 67) [])) [(.s 1), (.s 0)]), .s (.mv (.s 0)), .s (.ext 0 (.s 0)), .s (.ext 1 (.s 1)), .w (.loc (.of 8)) none (.alloc [(I 0), .nils]), .w .none none (.store 2 (.t (.of 8)) (.s 1)), .q (.of 9) (.mv (.s 0))]
noncomputable def F14.t9 : IR := .reg [.s (.mv (.t (.of 1))), .w .push none (.call (.c (.fn 68 (.of 68) [])) [(.s 0)]), .s (.mv (.s 0)), .s (.ext 0 (.s 0)), .s (.ext 1 (.s 1)), .w (.loc (.of 10)) none (.alloc [(I 0), .nils]), .w .none none (.store 2 (.t (.of 10)) (.s 1)), .q (.of 11) (.mv (.s 0))]
noncomputable def F14.t10 : IR := .reg [.s (.mv (.t (.of 1))), .w .push none (.call (.c (.fn 69 (.of 69) [])) [(.s 0)]), .s (.mv (.s 0)), .s (.ext 0 (.s 0)), .s (.ext 1 (.s 1)), .w (.loc (.of 12)) none (.alloc [(I 0), .nils]), .w .none none (.store 2 (.t (.of 12)) (.s 1)), .q (.of 13) (.mv (.s 0))]
noncomputable def F14.t11 : IR := .reg [.s (.mv (.t (.of 0))), .s (.mv (.t (.of 1))), .w .push none (.call (.c (.fn 70 (.of 70) [])) [(.s 1), (.s 0)]), .s (.mv (.s 0)), .s (.ext 0 (.s 0)), .s (.ext 1 (.s 1)), .w (.loc (.of 14)) none (.alloc [(I 0), .nils]), .w .none none (.store 2 (.t (.of 14)) (.s 1)), .q (.of 15) (.mv (.s 0))]
noncomputable def F14.t12 : IR := .reg [.s (.mv (.t (.of 1))), .s (.mv (.t (.of 2))), .w .push none (.call (.c (.fn 71 (.of 71) [])) [(.s 1), (.s 0)]), .s (.mv (.s 0)), .s (.ext 0 (.s 0)), .s (.ext 1 (.s 1)), .w (.loc (.of 16)) none (.alloc [(I 0), .nils]), .w .none none (.store 2 (.t (.of 16)) (.s 1)), .q (.of 17) (.mv (.s 0))]
noncomputable def F14.t13 : IR := .reg [.s (.mv (.t (.of 1))), .s (.mv (.t (.of 2))), .w .push none (.call (.c (.fn 72 (.of 72) [])) [(.s 1), (.s 0)]), .s (.mv (.s 0)), .s (.ext 0 (.s 0)), .s (.ext 1 (.s 1)), .w (.loc (.of 18)) none (.alloc [(I 0), .nils]), .w .none none (.store 2 (.t (.of 18)) (.s 1)), .q (.of 19) (.mv (.s 0))]
noncomputable def F14.t14 : IR := .reg [.s (.mv (.t (.of 1))), .w .push none (.call (.c (.fn 73 (.of 73) [])) [(.s 0)]), .s (.mv (.s 0)), .s (.ext 0 (.s 0)), .s (.ext 1 (.s 1)), .w (.loc (.of 20)) none (.alloc [(I 0), .nils]), .w .none none (.store 2 (.t (.of 20)) (.s 1)), .q (.of 21) (.mv (.s 0))]
noncomputable def F14.r12_4 : List RO := .p .push (some ((.s 5), false)) (.not (.s 0)) :: .q (.of 25) (.pick (.s 6) (.c (.bool true)) (.s 0)) :: []
noncomputable def F14.r12_3 : List RO := .p .push (some ((.s 5), false)) (.not (.s 0)) :: .s (.pick (.s 6) (.c (.bool true)) (.s 0)) :: .s (.mv (.s 0)) :: .p .push (some ((.s 0), false)) (.loadN 2 (.t (.of 12))) :: .p .push (some ((.s 1), false)) (.mv (.t (.of 13))) :: .p .push (some ((.s 2), false)) (.loadN 2 (.t (.of 20))) :: .p .push (some ((.s 3), false)) (.mv (.t (.of 21))) :: .w .push (some ((.s 4), false)) (.call (.c (.fn 74 (.of 74) [])) [(.s 3), (.s 2), (.s 1), (.s 0)]) :: F14.r12_4
noncomputable def F14.r12_2 : List RO := .p .push (some ((.s 5), false)) (.not (.s 0)) :: .s (.pick (.s 6) (.c (.bool true)) (.s 0)) :: .s (.mv (.s 0)) :: .p .push (some ((.s 0), false)) (.loadN 2 (.t (.of 8))) :: .p .push (some ((.s 1), false)) (.mv (.t (.of 9))) :: .p .push (some ((.s 2), false)) (.loadN 2 (.t (.of 18))) :: .p .push (some ((.s 3), false)) (.mv (.t (.of 19))) :: .w .push (some ((.s 4), false)) (.call (.c (.fn 74 (.of 74) [])) [(.s 3), (.s 2), (.s 1), (.s 0)]) :: F14.r12_3
noncomputable def F14.r12_1 : List RO := .s (.not (.s 0)) :: .s (.mv (.s 0)) :: .p .push (some ((.s 0), false)) (.loadN 2 (.t (.of 6))) :: .p .push (some ((.s 1), false)) (.mv (.t (.of 7))) :: .p .push (some ((.s 2), false)) (.loadN 2 (.t (.of 16))) :: .p .push (some ((.s 3), false)) (.mv (.t (.of 17))) :: .w .push (some ((.s 4), false)) (.call (.c (.fn 74 (.of 74) [])) [(.s 3), (.s 2), (.s 1), (.s 0)]) :: F14.r12_2
noncomputable def F14.r12_0 : List RO := .s (.loadN 2 (.t (.of 4))) :: .s (.mv (.t (.of 5))) :: .s (.loadN 2 (.t (.of 14))) :: .s (.mv (.t (.of 15))) :: .w .push none (.call (.c (.fn 74 (.of 74) [])) [(.s 3), (.s 2), (.s 1), (.s 0)]) :: F14.r12_1
noncomputable def F14.t15 : IR := .reg F14.r12_0
noncomputable def F14.t16 : IR := .reg [.q (.of 3) (.mv (.c (.bool false)))]
noncomputable def F14.t17 : IR := .seq F14.t16 .ret
noncomputable def F14.t18 : IR := .cond (.t (.of 25)) F14.t17 .skip
noncomputable def F14.t19 : IR := .seq F14.t15 F14.t18
noncomputable def F14.t20 : IR := .reg [.s (.mv (.t (.of 1))), .s (.bin .gtr .int (.s 0) (.c (I 3))), .s (.mv (.s 0)), .p .push (some ((.s 0), true)) (.mv (.t (.of 1))), .p .push (some ((.s 1), true)) (.bin .leq .int (.s 0) (.c (I 6))), .q (.of 26) (.pick (.s 2) (.s 0) (.c (.bool false)))]
noncomputable def F14.r15_4 : List RO := .s (.pick (.s 1) (.s 0) (.c (.bool false))) :: .q (.of 3) (.mv (.s 0)) :: []
noncomputable def F14.r15_3 : List RO := .w .push (some ((.s 0), true)) (.call (.c (.fn 17 (.of 17) [])) []) :: F14.r15_4
noncomputable def F14.r15_2 : List RO := .p .push (some ((.s 3), true)) (.mv (.t (.of 1))) :: .p .push (some ((.s 4), true)) (.bin .mul .int (.c (I 3)) (.s 0)) :: .p .push (some ((.s 5), true)) (.mv (.t (.of 1))) :: .p .push (some ((.s 6), true)) (.bin .mul .int (.s 1) (.s 0)) :: .p .push (some ((.s 7), true)) (.bin .add .int (.s 0) (.c (I 4))) :: .p .push (some ((.s 8), true)) (.bin .eql .int (.s 5) (.s 0)) :: .s (.pick (.s 9) (.s 0) (.c (.bool false))) :: .s (.mv (.s 0)) :: F14.r15_3
noncomputable def F14.r15_1 : List RO := .p .push (some ((.s 5), true)) (.mv (.t (.of 1))) :: .p .push (some ((.s 6), true)) (.bin .mul .int (.s 1) (.s 0)) :: .p .push (some ((.s 7), true)) (.bin .eql .int (.s 5) (.s 0)) :: .s (.pick (.s 8) (.s 0) (.c (.bool false))) :: .s (.mv (.s 0)) :: .p .push (some ((.s 0), true)) (.faddr 1 (.t (.of 10))) :: .p .push (some ((.s 1), true)) (.load (.s 0)) :: .p .push (some ((.s 2), true)) (.len (.s 0)) :: F14.r15_2
noncomputable def F14.r15_0 : List RO := .s (.mv (.t (.of 11))) :: .s (.bin .eql .int (.s 0) (.c (I 0))) :: .s (.mv (.s 0)) :: .p .push (some ((.s 0), true)) (.faddr 0 (.t (.of 10))) :: .p .push (some ((.s 1), true)) (.load (.s 0)) :: .p .push (some ((.s 2), true)) (.mv (.t (.of 1))) :: .p .push (some ((.s 3), true)) (.mv (.t (.of 1))) :: .p .push (some ((.s 4), true)) (.bin .mul .int (.s 1) (.s 0)) :: F14.r15_1
noncomputable def F14.t21 : IR := .reg F14.r15_0
noncomputable def F14.t22 : IR := .seq F14.t21 .ret
noncomputable def F14.t23 : IR := .cond (.t (.of 26)) F14.t22 .skip
noncomputable def F14.t24 : IR := .seq F14.t20 F14.t23
noncomputable def F14.t25 : IR := .reg [.s (.mv (.t (.of 1))), .w .push none (.call (.c (.fn 75 (.of 75) [])) [(.s 0)]), .s (.mv (.s 0)), .s (.ext 0 (.s 0)), .s (.ext 1 (.s 1)), .w (.loc (.of 22)) none (.alloc [(I 0), .nils]), .w .none none (.store 2 (.t (.of 22)) (.s 1)), .q (.of 23) (.mv (.s 0))]
noncomputable def F14.t26 : IR := .reg [.s (.loadN 2 (.t (.of 10))), .s (.mv (.t (.of 11))), .s (.loadN 2 (.t (.of 22))), .s (.mv (.t (.of 23))), .w .push none (.call (.c (.fn 74 (.of 74) [])) [(.s 3), (.s 2), (.s 1), (.s 0)]), .s (.mv (.s 0)), .w .push (some ((.s 0), true)) (.call (.c (.fn 17 (.of 17) [])) []), .s (.pick (.s 1) (.s 0) (.c (.bool false))), .q (.of 3) (.mv (.s 0))]
noncomputable def F14.t27 : IR := .seq F14.t26 .ret
noncomputable def F14.t28 : IR := .seq F14.t25 F14.t27
noncomputable def F14.t29 : IR := .seq F14.t24 F14.t28
noncomputable def F14.t30 : IR := .seq F14.t19 F14.t29
noncomputable def F14.t31 : IR := .seq F14.t14 F14.t30
noncomputable def F14.t32 : IR := .seq F14.t13 F14.t31
noncomputable def F14.t33 : IR := .seq F14.t12 F14.t32
noncomputable def F14.t34 : IR := .seq F14.t11 F14.t33
noncomputable def F14.t35 : IR := .seq F14.t10 F14.t34
noncomputable def F14.t36 : IR := .seq F14.t9 F14.t35
noncomputable def F14.t37 : IR := .seq F14.t8 F14.t36
noncomputable def F14.t38 : IR := .seq F14.t7 F14.t37
noncomputable def F14.t39 : IR := .seq F14.t6 F14.t38
noncomputable def F14.t40 : IR := .seq F14.t5 F14.t39
noncomputable def F14.t41 : IR := .seq F14.t0 F14.t40
theorem F14.t0_s {O : Outs Prop} : IR.run F14.t0 C N O K (F14.fr x0 x1 x2 x3 x4 x5 x6 x7 x8 x9 x10 x11 x12 x13 x14 x15 x16 x17 x18 x19 x20 x21 x22 x23 x24 x25 x26) h nx =
 K (F14.fr x0 x1 x2 (.bool false) x4 x5 x6 x7 x8 x9 x10 x11 x12 x13 x14 x15 x16 x17 x18 x19 x20 x21 x22 x23 x24 x25 x26) h nx := by kernel_rfl
theorem F14.t1_s {O : Outs Prop} {tm : T AV} : IR.run F14.t1 C N O K tm h nx = evOps F14.r1_0 C ⟨tm, []⟩ h nx (fun tm h nx => K tm.v h nx) := srun_reg ..
theorem F14.r1_0_g {r : List RO} {Kt : KTm} : evOps (.s (.mv (.t (.of 0))) :: .s (.slen (.s 0)) :: .s (.bin .gtr .int (.s 0) (.c (I 40))) :: .s (.mv (.s 0)) :: .p .push (some ((.s 0), false)) (.mv (.t (.of 1))) :: .p .push (some ((.s 1), false)) (.bin .gtr .int (.s 0) (.c (I 6))) :: .p .push (some ((.s 2), false)) (.mv (.s 0)) :: .p .push (some ((.s 0), true)) (.mv (.t (.of 1))) :: r) C ⟨(F14.fr x0 x1 x2 x3 x4 x5 x6 x7 x8 x9 x10 x11 x12 x13 x14 x15 x16 x17 x18 x19 x20 x21 x22 x23 x24 x25 x26), []⟩ h nx Kt =
 sSlen x0 fun v1 =>
 sBin .gtr .int v1 (I 40) fun v2 =>
 sG v2 false (fun k => k x1) fun v3 =>
 sG v2 false (fun k => sBin .gtr .int v3 (I 6) k) fun v4 =>
 sG v2 false (fun k => k v4) fun v5 =>
 sG v5 true (fun k => k x1) fun v6 =>
 evOps r C ⟨(F14.fr x0 x1 x2 x3 x4 x5 x6 x7 x8 x9 x10 x11 x12 x13 x14 x15 x16 x17 x18 x19 x20 x21 x22 x23 x24 x25 x26), v6 :: v5 :: v4 :: v3 :: v2 :: v2 :: v1 :: x0 :: []⟩ h nx Kt := by kernel_rfl
theorem F14.r1_0_s {Kt : KTm} : evOps F14.r1_0 C ⟨(F14.fr x0 x1 x2 x3 x4 x5 x6 x7 x8 x9 x10 x11 x12 x13 x14 x15 x16 x17 x18 x19 x20 x21 x22 x23 x24 x25 x26), []⟩ h nx Kt =
 sSlen x0 fun v1 =>
 sBin .gtr .int v1 (I 40) fun v2 =>
 sG v2 false (fun k => k x1) fun v3 =>
 sG v2 false (fun k => sBin .gtr .int v3 (I 6) k) fun v4 =>
 sG v2 false (fun k => k v4) fun v5 =>
 sG v5 true (fun k => k x1) fun v6 =>
 evOps F14.r1_1 C ⟨(F14.fr x0 x1 x2 x3 x4 x5 x6 x7 x8 x9 x10 x11 x12 x13 x14 x15 x16 x17 x18 x19 x20 x21 x22 x23 x24 x25 x26), v6 :: v5 :: v4 :: v3 :: v2 :: v2 :: v1 :: x0 :: []⟩ h nx Kt := F14.r1_0_g
theorem F14.r1_1_g {s0 s1 s2 s3 s4 s5 s6 s7 : AV} {r : List RO} {Kt : KTm} : evOps (.p .push (some ((.s 1), true)) (.bin .leq .int (.s 0) (.c (I 16))) :: .p .push (some ((.s 5), false)) (.pick (.s 2) (.s 0) (.c (.bool false))) :: .s (.pick (.s 6) (.c (.bool true)) (.s 0)) :: .s (.mv (.s 0)) :: .p .push (some ((.s 0), false)) (.mv (.t (.of 2))) :: .p .push (some ((.s 1), false)) (.bin .gtr .int (.s 0) (.c (I 6))) :: .p .push (some ((.s 2), false)) (.mv (.s 0)) :: .p .push (some ((.s 0), true)) (.mv (.t (.of 2))) :: r) C ⟨(F14.fr x0 x1 x2 x3 x4 x5 x6 x7 x8 x9 x10 x11 x12 x13 x14 x15 x16 x17 x18 x19 x20 x21 x22 x23 x24 x25 x26), s0 :: s1 :: s2 :: s3 :: s4 :: s5 :: s6 :: s7 :: []⟩ h nx Kt =
 sG s1 true (fun k => sBin .leq .int s0 (I 16) k) fun v1 =>
 sG s4 false (fun k => sPick s1 v1 (.bool false) k) fun v2 =>
 sPick s4 (.bool true) v2 fun v3 =>
 sG v3 false (fun k => k x2) fun v4 =>
 sG v3 false (fun k => sBin .gtr .int v4 (I 6) k) fun v5 =>
 sG v3 false (fun k => k v5) fun v6 =>
 sG v6 true (fun k => k x2) fun v7 =>
 evOps r C ⟨(F14.fr x0 x1 x2 x3 x4 x5 x6 x7 x8 x9 x10 x11 x12 x13 x14 x15 x16 x17 x18 x19 x20 x21 x22 x23 x24 x25 x26), v7 :: v6 :: v5 :: v4 :: v3 :: v3 :: v2 :: v1 :: s0 :: s1 :: s2 :: s3 :: s4 :: s5 :: s6 :: s7 :: []⟩ h nx Kt := by kernel_rfl
theorem F14.r1_1_s {s0 s1 s2 s3 s4 s5 s6 s7 : AV} {Kt : KTm} : evOps F14.r1_1 C ⟨(F14.fr x0 x1 x2 x3 x4 x5 x6 x7 x8 x9 x10 x11 x12 x13 x14 x15 x16 x17 x18 x19 x20 x21 x22 x23 x24 x25 x26), s0 :: s1 :: s2 :: s3 :: s4 :: s5 :: s6 :: s7 :: []⟩ h nx Kt =
 sG s1 true (fun k => sBin .leq .int s0 (I 16) k) fun v1 =>
 sG s4 false (fun k => sPick s1 v1 (.bool false) k) fun v2 =>
 sPick s4 (.bool true) v2 fun v3 =>
 sG v3 false (fun k => k x2) fun v4 =>
 sG v3 false (fun k => sBin .gtr .int v4 (I 6) k) fun v5 =>
 sG v3 false (fun k => k v5) fun v6 =>
 sG v6 true (fun k => k x2) fun v7 =>
 evOps F14.r1_2 C ⟨(F14.fr x0 x1 x2 x3 x4 x5 x6 x7 x8 x9 x10 x11 x12 x13 x14 x15 x16 x17 x18 x19 x20 x21 x22 x23 x24 x25 x26), v7 :: v6 :: v5 :: v4 :: v3 :: v3 :: v2 :: v1 :: s0 :: s1 :: s2 :: s3 :: s4 :: s5 :: s6 :: s7 :: []⟩ h nx Kt := F14.r1_1_g
theorem F14.r1_2_g {s0 s1 s2 s3 s4 s5 s6 s7 s8 s9 s10 s11 s12 s13 s14 s15 : AV} {Kt : KTm} : evOps (.p .push (some ((.s 1), true)) (.bin .leq .int (.s 0) (.c (I 16))) :: .p .push (some ((.s 5), false)) (.pick (.s 2) (.s 0) (.c (.bool false))) :: .q (.of 24) (.pick (.s 6) (.c (.bool true)) (.s 0)) :: []) C ⟨(F14.fr x0 x1 x2 x3 x4 x5 x6 x7 x8 x9 x10 x11 x12 x13 x14 x15 x16 x17 x18 x19 x20 x21 x22 x23 x24 x25 x26), s0 :: s1 :: s2 :: s3 :: s4 :: s5 :: s6 :: s7 :: s8 :: s9 :: s10 :: s11 :: s12 :: s13 :: s14 :: s15 :: []⟩ h nx Kt =
 sG s1 true (fun k => sBin .leq .int s0 (I 16) k) fun v1 =>
 sG s4 false (fun k => sPick s1 v1 (.bool false) k) fun v2 =>
 sPick s4 (.bool true) v2 fun v3 =>
 Kt ⟨(F14.fr x0 x1 x2 x3 x4 x5 x6 x7 x8 x9 x10 x11 x12 x13 x14 x15 x16 x17 x18 x19 x20 x21 x22 x23 v3 x25 x26), v2 :: v1 :: s0 :: s1 :: s2 :: s3 :: s4 :: s5 :: s6 :: s7 :: s8 :: s9 :: s10 :: s11 :: s12 :: s13 :: s14 :: s15 :: []⟩ h nx := by kernel_rfl
theorem F14.r1_2_s {s0 s1 s2 s3 s4 s5 s6 s7 s8 s9 s10 s11 s12 s13 s14 s15 : AV} {Kt : KTm} : evOps F14.r1_2 C ⟨(F14.fr x0 x1 x2 x3 x4 x5 x6 x7 x8 x9 x10 x11 x12 x13 x14 x15 x16 x17 x18 x19 x20 x21 x22 x23 x24 x25 x26), s0 :: s1 :: s2 :: s3 :: s4 :: s5 :: s6 :: s7 :: s8 :: s9 :: s10 :: s11 :: s12 :: s13 :: s14 :: s15 :: []⟩ h nx Kt =
 sG s1 true (fun k => sBin .leq .int s0 (I 16) k) fun v1 =>
 sG s4 false (fun k => sPick s1 v1 (.bool false) k) fun v2 =>
 sPick s4 (.bool true) v2 fun v3 =>
 Kt ⟨(F14.fr x0 x1 x2 x3 x4 x5 x6 x7 x8 x9 x10 x11 x12 x13 x14 x15 x16 x17 x18 x19 x20 x21 x22 x23 v3 x25 x26), v2 :: v1 :: s0 :: s1 :: s2 :: s3 :: s4 :: s5 :: s6 :: s7 :: s8 :: s9 :: s10 :: s11 :: s12 :: s13 :: s14 :: s15 :: []⟩ h nx := F14.r1_2_g
theorem F14.t2_s {O : Outs Prop} : IR.run F14.t2 C N O K (F14.fr x0 x1 x2 x3 x4 x5 x6 x7 x8 x9 x10 x11 x12 x13 x14 x15 x16 x17 x18 x19 x20 x21 x22 x23 x24 x25 x26) h nx =
 C.fn 17 (.of 17) [] h nx fun v1 h2 n3 =>
 K (F14.fr x0 x1 x2 v1 x4 x5 x6 x7 x8 x9 x10 x11 x12 x13 x14 x15 x16 x17 x18 x19 x20 x21 x22 x23 x24 x25 x26) h2 n3 := by kernel_rfl
theorem F14.t3_s {O : Outs Prop} {tm : T AV} : IR.run F14.t3 C N O K tm h nx = IR.run F14.t2 C N O (IR.run .ret C N O K) tm h nx := srun_seq ..
theorem F14.t4_s {O : Outs Prop} : IR.run F14.t4 C N O K (F14.fr x0 x1 x2 x3 x4 x5 x6 x7 x8 x9 x10 x11 x12 x13 x14 x15 x16 x17 x18 x19 x20 x21 x22 x23 x24 x25 x26) h nx = sCond x24 (IR.run F14.t3 C N O K (F14.fr x0 x1 x2 x3 x4 x5 x6 x7 x8 x9 x10 x11 x12 x13 x14 x15 x16 x17 x18 x19 x20 x21 x22 x23 x24 x25 x26) h nx) (IR.run .skip C N O K (F14.fr x0 x1 x2 x3 x4 x5 x6 x7 x8 x9 x10 x11 x12 x13 x14 x15 x16 x17 x18 x19 x20 x21 x22 x23 x24 x25 x26) h nx) := by
 have g : ∀ A B : IR, IR.run (.cond (.t (.of 24)) A B) C N O K (F14.fr x0 x1 x2 x3 x4 x5 x6 x7 x8 x9 x10 x11 x12 x13 x14 x15 x16 x17 x18 x19 x20 x21 x22 x23 x24 x25 x26) h nx = sCond x24 (IR.run A C N O K (F14.fr x0 x1 x2 x3 x4 x5 x6 x7 x8 x9 x10 x11 x12 x13 x14 x15 x16 x17 x18 x19 x20 x21 x22 x23 x24 x25 x26) h nx) (IR.run B C N O K (F14.fr x0 x1 x2 x3 x4 x5 x6 x7 x8 x9 x10 x11 x12 x13 x14 x15 x16 x17 x18 x19 x20 x21 x22 x23 x24 x25 x26) h nx) := fun A B => by kernel_rfl
 exact g _ _
theorem F14.t5_s {O : Outs Prop} {tm : T AV} : IR.run F14.t5 C N O K tm h nx = IR.run F14.t1 C N O (IR.run F14.t4 C N O K) tm h nx := srun_seq ..
theorem F14.t6_s {O : Outs Prop} : IR.run F14.t6 C N O K (F14.fr x0 x1 x2 x3 x4 x5 x6 x7 x8 x9 x10 x11 x12 x13 x14 x15 x16 x17 x18 x19 x20 x21 x22 x23 x24 x25 x26) h nx =
 C.fn 65 (.of 65) [x0, x1] h nx fun v1 h2 n3 =>
 sExt 0 v1 fun v4 =>
 sExt 1 v1 fun v5 =>
 sAlloc [(I 0), .nils] h2 n3 fun v6 h7 n8 =>
 sStore 2 v6 v4 h7 n8 fun v9 h10 n11 =>
 K (F14.fr x0 x1 x2 x3 v6 v5 x6 x7 x8 x9 x10 x11 x12 x13 x14 x15 x16 x17 x18 x19 x20 x21 x22 x23 x24 x25 x26) h10 n11 := by kernel_rfl
theorem F14.t7_s {O : Outs Prop} : IR.run F14.t7 C N O K (F14.fr x0 x1 x2 x3 x4 x5 x6 x7 x8 x9 x10 x11 x12 x13 x14 x15 x16 x17 x18 x19 x20 x21 x22 x23 x24 x25 x26) h nx =
 C.fn 66 (.of 66) [x1, x2] h nx fun v1 h2 n3 =>
 sExt 0 v1 fun v4 =>
 sExt 1 v1 fun v5 =>
 sAlloc [(I 0), .nils] h2 n3 fun v6 h7 n8 =>
 sStore 2 v6 v4 h7 n8 fun v9 h10 n11 =>
 K (F14.fr x0 x1 x2 x3 x4 x5 v6 v5 x8 x9 x10 x11 x12 x13 x14 x15 x16 x17 x18 x19 x20 x21 x22 x23 x24 x25 x26) h10 n11 := by kernel_rfl
theorem F14.t8_s {O : Outs Prop} : IR.run F14.t8 C N O K (F14.fr x0 x1 x2 x3 x4 x5 x6 x7 x8 x9 x10 x11 x12 x13 x14 x15 x16 x17 x18 x19 x20 x21 x22 x23 x24 x25 x26) h nx =
 C.fn 67 (.of 67) [x1, x2] h nx fun v1 h2 n3 =>
 sExt 0 v1 fun v4 =>
 sExt 1 v1 fun v5 =>
 sAlloc [(I 0), .nils] h2 n3 fun v6 h7 n8 =>
 sStore 2 v6 v4 h7 n8 fun v9 h10 n11 =>
 K (F14.fr x0 x1 x2 x3 x4 x5 x6 x7 v6 v5 x10 x11 x12 x13 x14 x15 x16 x17 x18 x19 x20 x21 x22 x23 x24 x25 x26) h10 n11 := by kernel_rfl
theorem F14.t9_s {O : Outs Prop} : IR.run F14.t9 C N O K (F14.fr x0 x1 x2 x3 x4 x5 x6 x7 x8 x9 x10 x11 x12 x13 x14 x15 x16 x17 x18 x19 x20 x21 x22 x23 x24 x25 x26) h nx =
 C.fn 68 (.of 68) [x1] h nx fun v1 h2 n3 =>
 sExt 0 v1 fun v4 =>
 sExt 1 v1 fun v5 =>
 sAlloc [(I 0), .nils] h2 n3 fun v6 h7 n8 =>
 sStore 2 v6 v4 h7 n8 fun v9 h10 n11 =>
 K (F14.fr x0 x1 x2 x3 x4 x5 x6 x7 x8 x9 v6 v5 x12 x13 x14 x15 x16 x17 x18 x19 x20 x21 x22 x23 x24 x25 x26) h10 n11 := by kernel_rfl
theorem F14.t10_s {O : Outs Prop} : IR.run F14.t10 C N O K (F14.fr x0 x1 x2 x3 x4 x5 x6 x7 x8 x9 x10 x11 x12 x13 x14 x15 x16 x17 x18 x19 x20 x21 x22 x23 x24 x25 x26) h nx =
 C.fn 69 (.of 69) [x1] h nx fun v1 h2 n3 =>
 sExt 0 v1 fun v4 =>
 sExt 1 v1 fun v5 =>
 sAlloc [(I 0), .nils] h2 n3 fun v6 h7 n8 =>
 sStore 2 v6 v4 h7 n8 fun v9 h10 n11 =>
 K (F14.fr x0 x1 x2 x3 x4 x5 x6 x7 x8 x9 x10 x11 v6 v5 x14 x15 x16 x17 x18 x19 x20 x21 x22 x23 x24 x25 x26) h10 n11 := by kernel_rfl
theorem F14.t11_s {O : Outs Prop} : IR.run F14.t11 C N O K (F14.fr x0 x1 x2 x3 x4 x5 x6 x7 x8 x9 x10 x11 x12 x13 x14 x15 x16 x17 x18 x19 x20 x21 x22 x23 x24 x25 x26) h nx =
 C.fn 70 (.of 70) [x0, x1] h nx fun v1 h2 n3 =>
 sExt 0 v1 fun v4 =>
 sExt 1 v1 fun v5 =>
 sAlloc [(I 0), .nils] h2 n3 fun v6 h7 n8 =>
 sStore 2 v6 v4 h7 n8 fun v9 h10 n11 =>
 K (F14.fr x0 x1 x2 x3 x4 x5 x6 x7 x8 x9 x10 x11 x12 x13 v6 v5 x16 x17 x18 x19 x20 x21 x22 x23 x24 x25 x26) h10 n11 := by kernel_rfl
theorem F14.t12_s {O : Outs Prop} : IR.run F14.t12 C N O K (F14.fr x0 x1 x2 x3 x4 x5 x6 x7 x8 x9 x10 x11 x12 x13 x14 x15 x16 x17 x18 x19 x20 x21 x22 x23 x24 x25 x26) h nx =
 C.fn 71 (.of 71) [x1, x2] h nx fun v1 h2 n3 =>
 sExt 0 v1 fun v4 =>
 sExt 1 v1 fun v5 =>
 sAlloc [(I 0), .nils] h2 n3 fun v6 h7 n8 =>
 sStore 2 v6 v4 h7 n8 fun v9 h10 n11 =>
 K (F14.fr x0 x1 x2 x3 x4 x5 x6 x7 x8 x9 x10 x11 x12 x13 x14 x15 v6 v5 x18 x19 x20 x21 x22 x23 x24 x25 x26) h10 n11 := by kernel_rfl
theorem F14.t13_s {O : Outs Prop} : IR.run F14.t13 C N O K (F14.fr x0 x1 x2 x3 x4 x5 x6 x7 x8 x9 x10 x11 x12 x13 x14 x15 x16 x17 x18 x19 x20 x21 x22 x23 x24 x25 x26) h nx =
 C.fn 72 (.of 72) [x1, x2] h nx fun v1 h2 n3 =>
 sExt 0 v1 fun v4 =>
 sExt 1 v1 fun v5 =>
 sAlloc [(I 0), .nils] h2 n3 fun v6 h7 n8 =>
 sStore 2 v6 v4 h7 n8 fun v9 h10 n11 =>
 K (F14.fr x0 x1 x2 x3 x4 x5 x6 x7 x8 x9 x10 x11 x12 x13 x14 x15 x16 x17 v6 v5 x20 x21 x22 x23 x24 x25 x26) h10 n11 := by kernel_rfl
theorem F14.t14_s {O : Outs Prop} : IR.run F14.t14 C N O K (F14.fr x0 x1 x2 x3 x4 x5 x6 x7 x8 x9 x10 x11 x12 x13 x14 x15 x16 x17 x18 x19 x20 x21 x22 x23 x24 x25 x26) h nx =
 C.fn 73 (.of 73) [x1] h nx fun v1 h2 n3 =>
 sExt 0 v1 fun v4 =>
 sExt 1 v1 fun v5 =>
 sAlloc [(I 0), .nils] h2 n3 fun v6 h7 n8 =>
 sStore 2 v6 v4 h7 n8 fun v9 h10 n11 =>
 K (F14.fr x0 x1 x2 x3 x4 x5 x6 x7 x8 x9 x10 x11 x12 x13 x14 x15 x16 x17 x18 x19 v6 v5 x22 x23 x24 x25 x26) h10 n11 := by kernel_rfl
theorem F14.t15_s {O : Outs Prop} {tm : T AV} : IR.run F14.t15 C N O K tm h nx = evOps F14.r12_0 C ⟨tm, []⟩ h nx (fun tm h nx => K tm.v h nx) := srun_reg ..
theorem F14.r12_0_g {r : List RO} {Kt : KTm} : evOps (.s (.loadN 2 (.t (.of 4))) :: .s (.mv (.t (.of 5))) :: .s (.loadN 2 (.t (.of 14))) :: .s (.mv (.t (.of 15))) :: .w .push none (.call (.c (.fn 74 (.of 74) [])) [(.s 3), (.s 2), (.s 1), (.s 0)]) :: r) C ⟨(F14.fr x0 x1 x2 x3 x4 x5 x6 x7 x8 x9 x10 x11 x12 x13 x14 x15 x16 x17 x18 x19 x20 x21 x22 x23 x24 x25 x26), []⟩ h nx Kt =
 sLoadN 2 x4 h fun v1 =>
 sLoadN 2 x14 h fun v2 =>
 C.fn 74 (.of 74) [v1, x5, v2, x15] h nx fun v3 h4 n5 =>
 evOps r C ⟨(F14.fr x0 x1 x2 x3 x4 x5 x6 x7 x8 x9 x10 x11 x12 x13 x14 x15 x16 x17 x18 x19 x20 x21 x22 x23 x24 x25 x26), v3 :: x15 :: v2 :: x5 :: v1 :: []⟩ h4 n5 Kt := by kernel_rfl
theorem F14.r12_0_s {Kt : KTm} : evOps F14.r12_0 C ⟨(F14.fr x0 x1 x2 x3 x4 x5 x6 x7 x8 x9 x10 x11 x12 x13 x14 x15 x16 x17 x18 x19 x20 x21 x22 x23 x24 x25 x26), []⟩ h nx Kt =
 sLoadN 2 x4 h fun v1 =>
 sLoadN 2 x14 h fun v2 =>
 C.fn 74 (.of 74) [v1, x5, v2, x15] h nx fun v3 h4 n5 =>
 evOps F14.r12_1 C ⟨(F14.fr x0 x1 x2 x3 x4 x5 x6 x7 x8 x9 x10 x11 x12 x13 x14 x15 x16 x17 x18 x19 x20 x21 x22 x23 x24 x25 x26), v3 :: x15 :: v2 :: x5 :: v1 :: []⟩ h4 n5 Kt := F14.r12_0_g
theorem F14.r12_1_g {s0 s1 s2 s3 s4 : AV} {r : List RO} {Kt : KTm} : evOps (.s (.not (.s 0)) :: .s (.mv (.s 0)) :: .p .push (some ((.s 0), false)) (.loadN 2 (.t (.of 6))) :: .p .push (some ((.s 1), false)) (.mv (.t (.of 7))) :: .p .push (some ((.s 2), false)) (.loadN 2 (.t (.of 16))) :: .p .push (some ((.s 3), false)) (.mv (.t (.of 17))) :: .w .push (some ((.s 4), false)) (.call (.c (.fn 74 (.of 74) [])) [(.s 3), (.s 2), (.s 1), (.s 0)]) :: r) C ⟨(F14.fr x0 x1 x2 x3 x4 x5 x6 x7 x8 x9 x10 x11 x12 x13 x14 x15 x16 x17 x18 x19 x20 x21 x22 x23 x24 x25 x26), s0 :: s1 :: s2 :: s3 :: s4 :: []⟩ h nx Kt =
 sNot s0 fun v1 =>
 sG v1 false (fun k => sLoadN 2 x6 h k) fun v2 =>
 sG v1 false (fun k => k x7) fun v3 =>
 sG v1 false (fun k => sLoadN 2 x16 h k) fun v4 =>
 sG v1 false (fun k => k x17) fun v5 =>
 sGW v1 false (fun k => C.fn 74 (.of 74) [v2, v3, v4, v5] h nx k) h nx fun v6 h7 n8 =>
 evOps r C ⟨(F14.fr x0 x1 x2 x3 x4 x5 x6 x7 x8 x9 x10 x11 x12 x13 x14 x15 x16 x17 x18 x19 x20 x21 x22 x23 x24 x25 x26), v6 :: v5 :: v4 :: v3 :: v2 :: v1 :: v1 :: s0 :: s1 :: s2 :: s3 :: s4 :: []⟩ h7 n8 Kt := by kernel_rfl
theorem F14.r12_1_s {s0 s1 s2 s3 s4 : AV} {Kt : KTm} : evOps F14.r12_1 C ⟨(F14.fr x0 x1 x2 x3 x4 x5 x6 x7 x8 x9 x10 x11 x12 x13 x14 x15 x16 x17 x18 x19 x20 x21 x22 x23 x24 x25 x26), s0 :: s1 :: s2 :: s3 :: s4 :: []⟩ h nx Kt =
 sNot s0 fun v1 =>
 sG v1 false (fun k => sLoadN 2 x6 h k) fun v2 =>
 sG v1 false (fun k => k x7) fun v3 =>
 sG v1 false (fun k => sLoadN 2 x16 h k) fun v4 =>
 sG v1 false (fun k => k x17) fun v5 =>
 sGW v1 false (fun k => C.fn 74 (.of 74) [v2, v3, v4, v5] h nx k) h nx fun v6 h7 n8 =>
 evOps F14.r12_2 C ⟨(F14.fr x0 x1 x2 x3 x4 x5 x6 x7 x8 x9 x10 x11 x12 x13 x14 x15 x16 x17 x18 x19 x20 x21 x22 x23 x24 x25 x26), v6 :: v5 :: v4 :: v3 :: v2 :: v1 :: v1 :: s0 :: s1 :: s2 :: s3 :: s4 :: []⟩ h7 n8 Kt := F14.r12_1_g
theorem F14.r12_2_g {s0 s1 s2 s3 s4 s5 s6 s7 s8 s9 s10 s11 : AV} {r : List RO} {Kt : KTm} : evOps (.p .push (some ((.s 5), false)) (.not (.s 0)) :: .s (.pick (.s 6) (.c (.bool true)) (.s 0)) :: .s (.mv (.s 0)) :: .p .push (some ((.s 0), false)) (.loadN 2 (.t (.of 8))) :: .p .push (some ((.s 1), false)) (.mv (.t (.of 9))) :: .p .push (some ((.s 2), false)) (.loadN 2 (.t (.of 18))) :: .p .push (some ((.s 3), false)) (.mv (.t (.of 19))) :: .w .push (some ((.s 4), false)) (.call (.c (.fn 74 (.of 74) [])) [(.s 3), (.s 2), (.s 1), (.s 0)]) :: r) C ⟨(F14.fr x0 x1 x2 x3 x4 x5 x6 x7 x8 x9 x10 x11 x12 x13 x14 x15 x16 x17 x18 x19 x20 x21 x22 x23 x24 x25 x26), s0 :: s1 :: s2 :: s3 :: s4 :: s5 :: s6 :: s7 :: s8 :: s9 :: s10 :: s11 :: []⟩ h nx Kt =
 sG s5 false (fun k => sNot s0 k) fun v1 =>
 sPick s5 (.bool true) v1 fun v2 =>
 sG v2 false (fun k => sLoadN 2 x8 h k) fun v3 =>
 sG v2 false (fun k => k x9) fun v4 =>
 sG v2 false (fun k => sLoadN 2 x18 h k) fun v5 =>
 sG v2 false (fun k => k x19) fun v6 =>
 sGW v2 false (fun k => C.fn 74 (.of 74) [v3, v4, v5, v6] h nx k) h nx fun v7 h8 n9 =>
 evOps r C ⟨(F14.fr x0 x1 x2 x3 x4 x5 x6 x7 x8 x9 x10 x11 x12 x13 x14 x15 x16 x17 x18 x19 x20 x21 x22 x23 x24 x25 x26), v7 :: v6 :: v5 :: v4 :: v3 :: v2 :: v2 :: v1 :: s0 :: s1 :: s2 :: s3 :: s4 :: s5 :: s6 :: s7 :: s8 :: s9 :: s10 :: s11 :: []⟩ h8 n9 Kt := by kernel_rfl
theorem F14.r12_2_s {s0 s1 s2 s3 s4 s5 s6 s7 s8 s9 s10 s11 : AV} {Kt : KTm} : evOps F14.r12_2 C ⟨(F14.fr x0 x1 x2 x3 x4 x5 x6 x7 x8 x9 x10 x11 x12 x13 x14 x15 x16 x17 x18 x19 x20 x21 x22 x23 x24 x25 x26), s0 :: s1 :: s2 :: s3 :: s4 :: s5 :: s6 :: s7 :: s8 :: s9 :: s10 :: s11 :: []⟩ h nx Kt =
 sG s5 false (fun k => sNot s0 k) fun v1 =>
 sPick s5 (.bool true) v1 fun v2 =>
 sG v2 false (fun k => sLoadN 2 x8 h k) fun v3 =>
 sG v2 false (fun k => k x9) fun v4 =>
 sG v2 false (fun k => sLoadN 2 x18 h k) fun v5 =>
 sG v2 false (fun k => k x19) fun v6 =>
 sGW v2 false (fun k => C.fn 74 (.of 74) [v3, v4, v5, v6] h nx k) h nx fun v7 h8 n9 =>
 evOps F14.r12_3 C ⟨(F14.fr x0 x1 x2 x3 x4 x5 x6 x7 x8 x9 x10 x11 x12 x13 x14 x15 x16 x17 x18 x19 x20 x21 x22 x23 x24 x25 x26), v7 :: v6 :: v5 :: v4 :: v3 :: v2 :: v2 :: v1 :: s0 :: s1 :: s2 :: s3 :: s4 :: s5 :: s6 :: s7 :: s8 :: s9 :: s10 :: s11 :: []⟩ h8 n9 Kt := F14.r12_2_g
theorem F14.r12_3_g {s0 s1 s2 s3 s4 s5 s6 s7 s8 s9 s10 s11 s12 s13 s14 s15 s16 s17 s18 s19 : AV} {r : List RO} {Kt : KTm} : evOps (.p .push (some ((.s 5), false)) (.not (.s 0)) :: .s (.pick (.s 6) (.c (.bool true)) (.s 0)) :: .s (.mv (.s 0)) :: .p .push (some ((.s 0), false)) (.loadN 2 (.t (.of 12))) :: .p .push (some ((.s 1), false)) (.mv (.t (.of 13))) :: .p .push (some ((.s 2), false)) (.loadN 2 (.t (.of 20))) :: .p .push (some ((.s 3), false)) (.mv (.t (.of 21))) :: .w .push (some ((.s 4), false)) (.call (.c (.fn 74 (.of 74) [])) [(.s 3), (.s 2), (.s 1), (.s 0)]) :: r) C ⟨(F14.fr x0 x1 x2 x3 x4 x5 x6 x7 x8 x9 x10 x11 x12 x13 x14 x15 x16 x17 x18 x19 x20 x21 x22 x23 x24 x25 x26), s0 :: s1 :: s2 :: s3 :: s4 :: s5 :: s6 :: s7 :: s8 :: s9 :: s10 :: s11 :: s12 :: s13 :: s14 :: s15 :: s16 :: s17 :: s18 :: s19 :: []⟩ h nx Kt =
 sG s5 false (fun k => sNot s0 k) fun v1 =>
 sPick s5 (.bool true) v1 fun v2 =>
 sG v2 false (fun k => sLoadN 2 x12 h k) fun v3 =>
 sG v2 false (fun k => k x13) fun v4 =>
 sG v2 false (fun k => sLoadN 2 x20 h k) fun v5 =>
 sG v2 false (fun k => k x21) fun v6 =>
 sGW v2 false (fun k => C.fn 74 (.of 74) [v3, v4, v5, v6] h nx k) h nx fun v7 h8 n9 =>
 evOps r C ⟨(F14.fr x0 x1 x2 x3 x4 x5 x6 x7 x8 x9 x10 x11 x12 x13 x14 x15 x16 x17 x18 x19 x20 x21 x22 x23 x24 x25 x26), v7 :: v6 :: v5 :: v4 :: v3 :: v2 :: v2 :: v1 :: s0 :: s1 :: s2 :: s3 :: s4 :: s5 :: s6 :: s7 :: s8 :: s9 :: s10 :: s11 :: s12 :: s13 :: s14 :: s15 :: s16 :: s17 :: s18 :: s19 :: []⟩ h8 n9 Kt := by kernel_rfl
theorem F14.r12_3_s {s0 s1 s2 s3 s4 s5 s6 s7 s8 s9 s10 s11 s12 s13 s14 s15 s16 s17 s18 s19 : AV} {Kt : KTm} : evOps F14.r12_3 C ⟨(F14.fr x0 x1 x2 x3 x4 x5 x6 x7 x8 x9 x10 x11 x12 x13 x14 x15 x16 x17 x18 x19 x20 x21 x22 x23 x24 x25 x26), s0 :: s1 :: s2 :: s3 :: s4 :: s5 :: s6 :: s7 :: s8 :: s9 :: s10 :: s11 :: s12 :: s13 :: s14 :: s15 :: s16 :: s17 :: s18 :: s19 :: []⟩ h nx Kt =
 sG s5 false (fun k => sNot s0 k) fun v1 =>
 sPick s5 (.bool true) v1 fun v2 =>
 sG v2 false (fun k => sLoadN 2 x12 h k) fun v3 =>
 sG v2 false (fun k => k x13) fun v4 =>
 sG v2 false (fun k => sLoadN 2 x20 h k) fun v5 =>
 sG v2 false (fun k => k x21) fun v6 =>
 sGW v2 false (fun k => C.fn 74 (.of 74) [v3, v4, v5, v6] h nx k) h nx fun v7 h8 n9 =>
 evOps F14.r12_4 C ⟨(F14.fr x0 x1 x2 x3 x4 x5 x6 x7 x8 x9 x10 x11 x12 x13 x14 x15 x16 x17 x18 x19 x20 x21 x22 x23 x24 x25 x26), v7 :: v6 :: v5 :: v4 :: v3 :: v2 :: v2 :: v1 :: s0 :: s1 :: s2 :: s3 :: s4 :: s5 :: s6 :: s7 :: s8 :: s9 :: s10 :: s11 :: s12 :: s13 :: s14 :: s15 :: s16 :: s17 :: s18 :: s19 :: []⟩ h8 n9 Kt := F14.r12_3_g
theorem F14.r12_4_g {s0 s1 s2 s3 s4 s5 s6 s7 s8 s9 s10 s11 s12 s13 s14 s15 s16 s17 s18 s19 s20 s21 s22 s23 s24 s25 s26 s27 : AV} {Kt : KTm} : evOps (.p .push (some ((.s 5), false)) (.not (.s 0)) :: .q (.of 25) (.pick (.s 6) (.c (.bool true)) (.s 0)) :: []) C ⟨(F14.fr x0 x1 x2 x3 x4 x5 x6 x7 x8 x9 x10 x11 x12 x13 x14 x15 x16 x17 x18 x19 x20 x21 x22 x23 x24 x25 x26), s0 :: s1 :: s2 :: s3 :: s4 :: s5 :: s6 :: s7 :: s8 :: s9 :: s10 :: s11 :: s12 :: s13 :: s14 :: s15 :: s16 :: s17 :: s18 :: s19 :: s20 :: s21 :: s22 :: s23 :: s24 :: s25 :: s26 :: s27 :: []⟩ h nx Kt =
 sG s5 false (fun k => sNot s0 k) fun v1 =>
 sPick s5 (.bool true) v1 fun v2 =>
 Kt ⟨(F14.fr x0 x1 x2 x3 x4 x5 x6 x7 x8 x9 x10 x11 x12 x13 x14 x15 x16 x17 x18 x19 x20 x21 x22 x23 x24 v2 x26), v1 :: s0 :: s1 :: s2 :: s3 :: s4 :: s5 :: s6 :: s7 :: s8 :: s9 :: s10 :: s11 :: s12 :: s13 :: s14 :: s15 :: s16 :: s17 :: s18 :: s19 :: s20 :: s21 :: s22 :: s23 :: s24 :: s25 :: s26 :: s27 :: []⟩ h nx := by kernel_rfl
theorem F14.r12_4_s {s0 s1 s2 s3 s4 s5 s6 s7 s8 s9 s10 s11 s12 s13 s14 s15 s16 s17 s18 s19 s20 s21 s22 s23 s24 s25 s26 s27 : AV} {Kt : KTm} : evOps F14.r12_4 C ⟨(F14.fr x0 x1 x2 x3 x4 x5 x6 x7 x8 x9 x10 x11 x12 x13 x14 x15 x16 x17 x18 x19 x20 x21 x22 x23 x24 x25 x26), s0 :: s1 :: s2 :: s3 :: s4 :: s5 :: s6 :: s7 :: s8 :: s9 :: s10 :: s11 :: s12 :: s13 :: s14 :: s15 :: s16 :: s17 :: s18 :: s19 :: s20 :: s21 :: s22 :: s23 :: s24 :: s25 :: s26 :: s27 :: []⟩ h nx Kt =
 sG s5 false (fun k => sNot s0 k) fun v1 =>
 sPick s5 (.bool true) v1 fun v2 =>
 Kt ⟨(F14.fr x0 x1 x2 x3 x4 x5 x6 x7 x8 x9 x10 x11 x12 x13 x14 x15 x16 x17 x18 x19 x20 x21 x22 x23 x24 v2 x26), v1 :: s0 :: s1 :: s2 :: s3 :: s4 :: s5 :: s6 :: s7 :: s8 :: s9 :: s10 :: s11 :: s12 :: s13 :: s14 :: s15 :: s16 :: s17 :: s18 :: s19 :: s20 :: s21 :: s22 :: s23 :: s24 :: s25 :: s26 :: s27 :: []⟩ h nx := F14.r12_4_g
theorem F14.t18_s {O : Outs Prop} : IR.run F14.t18 C N O K (F14.fr x0 x1 x2 x3 x4 x5 x6 x7 x8 x9 x10 x11 x12 x13 x14 x15 x16 x17 x18 x19 x20 x21 x22 x23 x24 x25 x26) h nx = sCond x25 (IR.run F14.t17 C N O K (F14.fr x0 x1 x2 x3 x4 x5 x6 x7 x8 x9 x10 x11 x12 x13 x14 x15 x16 x17 x18 x19 x20 x21 x22 x23 x24 x25 x26) h nx) (IR.run .skip C N O K (F14.fr x0 x1 x2 x3 x4 x5 x6 x7 x8 x9 x10 x11 x12 x13 x14 x15 x16 x17 x18 x19 x20 x21 x22 x23 x24 x25 x26) h nx) := by
 have g : ∀ A B : IR, IR.run (.cond (.t (.of 25)) A B) C N O K (F14.fr x0 x1 x2 x3 x4 x5 x6 x7 x8 x9 x10 x11 x12 x13 x14 x15 x16 x17 x18 x19 x20 x21 x22 x23 x24 x25 x26) h nx = sCond x25 (IR.run A C N O K (F14.fr x0 x1 x2 x3 x4 x5 x6 x7 x8 x9 x10 x11 x12 x13 x14 x15 x16 x17 x18 x19 x20 x21 x22 x23 x24 x25 x26) h nx) (IR.run B C N O K (F14.fr x0 x1 x2 x3 x4 x5 x6 x7 x8 x9 x10 x11 x12 x13 x14 x15 x16 x17 x18 x19 x20 x21 x22 x23 x24 x25 x26) h nx) := fun A B => by kernel_rfl
 exact g _ _
theorem F14.t19_s {O : Outs Prop} {tm : T AV} : IR.run F14.t19 C N O K tm h nx = IR.run F14.t15 C N O (IR.run F14.t18 C N O K) tm h nx := srun_seq ..
theorem F14.t20_s {O : Outs Prop} : IR.run F14.t20 C N O K (F14.fr x0 x1 x2 x3 x4 x5 x6 x7 x8 x9 x10 x11 x12 x13 x14 x15 x16 x17 x18 x19 x20 x21 x22 x23 x24 x25 x26) h nx =
 sBin .gtr .int x1 (I 3) fun v1 =>
 sG v1 true (fun k => k x1) fun v2 =>
 sG v1 true (fun k => sBin .leq .int v2 (I 6) k) fun v3 =>
 sPick v1 v3 (.bool false) fun v4 =>
 K (F14.fr x0 x1 x2 x3 x4 x5 x6 x7 x8 x9 x10 x11 x12 x13 x14 x15 x16 x17 x18 x19 x20 x21 x22 x23 x24 x25 v4) h nx := by kernel_rfl
theorem F14.t21_s {O : Outs Prop} {tm : T AV} : IR.run F14.t21 C N O K tm h nx = evOps F14.r15_0 C ⟨tm, []⟩ h nx (fun tm h nx => K tm.v h nx) := srun_reg ..
theorem F14.r15_0_g {r : List RO} {Kt : KTm} : evOps (.s (.mv (.t (.of 11))) :: .s (.bin .eql .int (.s 0) (.c (I 0))) :: .s (.mv (.s 0)) :: .p .push (some ((.s 0), true)) (.faddr 0 (.t (.of 10))) :: .p .push (some ((.s 1), true)) (.load (.s 0)) :: .p .push (some ((.s 2), true)) (.mv (.t (.of 1))) :: .p .push (some ((.s 3), true)) (.mv (.t (.of 1))) :: .p .push (some ((.s 4), true)) (.bin .mul .int (.s 1) (.s 0)) :: r) C ⟨(F14.fr x0 x1 x2 x3 x4 x5 x6 x7 x8 x9 x10 x11 x12 x13 x14 x15 x16 x17 x18 x19 x20 x21 x22 x23 x24 x25 x26), []⟩ h nx Kt =
 sBin .eql .int x11 (I 0) fun v1 =>
 sG v1 true (fun k => sFaddr 0 x10 k) fun v2 =>
 sG v1 true (fun k => sLoad v2 h k) fun v3 =>
 sG v1 true (fun k => k x1) fun v4 =>
 sG v1 true (fun k => k x1) fun v5 =>
 sG v1 true (fun k => sBin .mul .int v4 v5 k) fun v6 =>
 evOps r C ⟨(F14.fr x0 x1 x2 x3 x4 x5 x6 x7 x8 x9 x10 x11 x12 x13 x14 x15 x16 x17 x18 x19 x20 x21 x22 x23 x24 x25 x26), v6 :: v5 :: v4 :: v3 :: v2 :: v1 :: v1 :: x11 :: []⟩ h nx Kt := by kernel_rfl
theorem F14.r15_0_s {Kt : KTm} : evOps F14.r15_0 C ⟨(F14.fr x0 x1 x2 x3 x4 x5 x6 x7 x8 x9 x10 x11 x12 x13 x14 x15 x16 x17 x18 x19 x20 x21 x22 x23 x24 x25 x26), []⟩ h nx Kt =
 sBin .eql .int x11 (I 0) fun v1 =>
 sG v1 true (fun k => sFaddr 0 x10 k) fun v2 =>
 sG v1 true (fun k => sLoad v2 h k) fun v3 =>
 sG v1 true (fun k => k x1) fun v4 =>
 sG v1 true (fun k => k x1) fun v5 =>
 sG v1 true (fun k => sBin .mul .int v4 v5 k) fun v6 =>
 evOps F14.r15_1 C ⟨(F14.fr x0 x1 x2 x3 x4 x5 x6 x7 x8 x9 x10 x11 x12 x13 x14 x15 x16 x17 x18 x19 x20 x21 x22 x23 x24 x25 x26), v6 :: v5 :: v4 :: v3 :: v2 :: v1 :: v1 :: x11 :: []⟩ h nx Kt := F14.r15_0_g
theorem F14.r15_1_g {s0 s1 s2 s3 s4 s5 s6 s7 : AV} {r : List RO} {Kt : KTm} : evOps (.p .push (some ((.s 5), true)) (.mv (.t (.of 1))) :: .p .push (some ((.s 6), true)) (.bin .mul .int (.s 1) (.s 0)) :: .p .push (some ((.s 7), true)) (.bin .eql .int (.s 5) (.s 0)) :: .s (.pick (.s 8) (.s 0) (.c (.bool false))) :: .s (.mv (.s 0)) :: .p .push (some ((.s 0), true)) (.faddr 1 (.t (.of 10))) :: .p .push (some ((.s 1), true)) (.load (.s 0)) :: .p .push (some ((.s 2), true)) (.len (.s 0)) :: r) C ⟨(F14.fr x0 x1 x2 x3 x4 x5 x6 x7 x8 x9 x10 x11 x12 x13 x14 x15 x16 x17 x18 x19 x20 x21 x22 x23 x24 x25 x26), s0 :: s1 :: s2 :: s3 :: s4 :: s5 :: s6 :: s7 :: []⟩ h nx Kt =
 sG s5 true (fun k => k x1) fun v1 =>
 sG s5 true (fun k => sBin .mul .int s0 v1 k) fun v2 =>
 sG s5 true (fun k => sBin .eql .int s3 v2 k) fun v3 =>
 sPick s5 v3 (.bool false) fun v4 =>
 sG v4 true (fun k => sFaddr 1 x10 k) fun v5 =>
 sG v4 true (fun k => sLoad v5 h k) fun v6 =>
 sG v4 true (fun k => sLen v6 k) fun v7 =>
 evOps r C ⟨(F14.fr x0 x1 x2 x3 x4 x5 x6 x7 x8 x9 x10 x11 x12 x13 x14 x15 x16 x17 x18 x19 x20 x21 x22 x23 x24 x25 x26), v7 :: v6 :: v5 :: v4 :: v4 :: v3 :: v2 :: v1 :: s0 :: s1 :: s2 :: s3 :: s4 :: s5 :: s6 :: s7 :: []⟩ h nx Kt := by kernel_rfl
theorem F14.r15_1_s {s0 s1 s2 s3 s4 s5 s6 s7 : AV} {Kt : KTm} : evOps F14.r15_1 C ⟨(F14.fr x0 x1 x2 x3 x4 x5 x6 x7 x8 x9 x10 x11 x12 x13 x14 x15 x16 x17 x18 x19 x20 x21 x22 x23 x24 x25 x26), s0 :: s1 :: s2 :: s3 :: s4 :: s5 :: s6 :: s7 :: []⟩ h nx Kt =
 sG s5 true (fun k => k x1) fun v1 =>
 sG s5 true (fun k => sBin .mul .int s0 v1 k) fun v2 =>
 sG s5 true (fun k => sBin .eql .int s3 v2 k) fun v3 =>
 sPick s5 v3 (.bool false) fun v4 =>
 sG v4 true (fun k => sFaddr 1 x10 k) fun v5 =>
 sG v4 true (fun k => sLoad v5 h k) fun v6 =>
 sG v4 true (fun k => sLen v6 k) fun v7 =>
 evOps F14.r15_2 C ⟨(F14.fr x0 x1 x2 x3 x4 x5 x6 x7 x8 x9 x10 x11 x12 x13 x14 x15 x16 x17 x18 x19 x20 x21 x22 x23 x24 x25 x26), v7 :: v6 :: v5 :: v4 :: v4 :: v3 :: v2 :: v1 :: s0 :: s1 :: s2 :: s3 :: s4 :: s5 :: s6 :: s7 :: []⟩ h nx Kt := F14.r15_1_g
theorem F14.r15_2_g {s0 s1 s2 s3 s4 s5 s6 s7 s8 s9 s10 s11 s12 s13 s14 s15 : AV} {r : List RO} {Kt : KTm} : evOps (.p .push (some ((.s 3), true)) (.mv (.t (.of 1))) :: .p .push (some ((.s 4), true)) (.bin .mul .int (.c (I 3)) (.s 0)) :: .p .push (some ((.s 5), true)) (.mv (.t (.of 1))) :: .p .push (some ((.s 6), true)) (.bin .mul .int (.s 1) (.s 0)) :: .p .push (some ((.s 7), true)) (.bin .add .int (.s 0) (.c (I 4))) :: .p .push (some ((.s 8), true)) (.bin .eql .int (.s 5) (.s 0)) :: .s (.pick (.s 9) (.s 0) (.c (.bool false))) :: .s (.mv (.s 0)) :: r) C ⟨(F14.fr x0 x1 x2 x3 x4 x5 x6 x7 x8 x9 x10 x11 x12 x13 x14 x15 x16 x17 x18 x19 x20 x21 x22 x23 x24 x25 x26), s0 :: s1 :: s2 :: s3 :: s4 :: s5 :: s6 :: s7 :: s8 :: s9 :: s10 :: s11 :: s12 :: s13 :: s14 :: s15 :: []⟩ h nx Kt =
 sG s3 true (fun k => k x1) fun v1 =>
 sG s3 true (fun k => sBin .mul .int (I 3) v1 k) fun v2 =>
 sG s3 true (fun k => k x1) fun v3 =>
 sG s3 true (fun k => sBin .mul .int v2 v3 k) fun v4 =>
 sG s3 true (fun k => sBin .add .int v4 (I 4) k) fun v5 =>
 sG s3 true (fun k => sBin .eql .int s0 v5 k) fun v6 =>
 sPick s3 v6 (.bool false) fun v7 =>
 evOps r C ⟨(F14.fr x0 x1 x2 x3 x4 x5 x6 x7 x8 x9 x10 x11 x12 x13 x14 x15 x16 x17 x18 x19 x20 x21 x22 x23 x24 x25 x26), v7 :: v7 :: v6 :: v5 :: v4 :: v3 :: v2 :: v1 :: s0 :: s1 :: s2 :: s3 :: s4 :: s5 :: s6 :: s7 :: s8 :: s9 :: s10 :: s11 :: s12 :: s13 :: s14 :: s15 :: []⟩ h nx Kt := by kernel_rfl
theorem F14.r15_2_s {s0 s1 s2 s3 s4 s5 s6 s7 s8 s9 s10 s11 s12 s13 s14 s15 : AV} {Kt : KTm} : evOps F14.r15_2 C ⟨(F14.fr x0 x1 x2 x3 x4 x5 x6 x7 x8 x9 x10 x11 x12 x13 x14 x15 x16 x17 x18 x19 x20 x21 x22 x23 x24 x25 x26), s0 :: s1 :: s2 :: s3 :: s4 :: s5 :: s6 :: s7 :: s8 :: s9 :: s10 :: s11 :: s12 :: s13 :: s14 :: s15 :: []⟩ h nx Kt =
 sG s3 true (fun k => k x1) fun v1 =>
 sG s3 true (fun k => sBin .mul .int (I 3) v1 k) fun v2 =>
 sG s3 true (fun k => k x1) fun v3 =>
 sG s3 true (fun k => sBin .mul .int v2 v3 k) fun v4 =>
 sG s3 true (fun k => sBin .add .int v4 (I 4) k) fun v5 =>
 sG s3 true (fun k => sBin .eql .int s0 v5 k) fun v6 =>
 sPick s3 v6 (.bool false) fun v7 =>
 evOps F14.r15_3 C ⟨(F14.fr x0 x1 x2 x3 x4 x5 x6 x7 x8 x9 x10 x11 x12 x13 x14 x15 x16 x17 x18 x19 x20 x21 x22 x23 x24 x25 x26), v7 :: v7 :: v6 :: v5 :: v4 :: v3 :: v2 :: v1 :: s0 :: s1 :: s2 :: s3 :: s4 :: s5 :: s6 :: s7 :: s8 :: s9 :: s10 :: s11 :: s12 :: s13 :: s14 :: s15 :: []⟩ h nx Kt := F14.r15_2_g
theorem F14.r15_3_g {s0 s1 s2 s3 s4 s5 s6 s7 s8 s9 s10 s11 s12 s13 s14 s15 s16 s17 s18 s19 s20 s21 s22 s23 : AV} {r : List RO} {Kt : KTm} : evOps (.w .push (some ((.s 0), true)) (.call (.c (.fn 17 (.of 17) [])) []) :: r) C ⟨(F14.fr x0 x1 x2 x3 x4 x5 x6 x7 x8 x9 x10 x11 x12 x13 x14 x15 x16 x17 x18 x19 x20 x21 x22 x23 x24 x25 x26), s0 :: s1 :: s2 :: s3 :: s4 :: s5 :: s6 :: s7 :: s8 :: s9 :: s10 :: s11 :: s12 :: s13 :: s14 :: s15 :: s16 :: s17 :: s18 :: s19 :: s20 :: s21 :: s22 :: s23 :: []⟩ h nx Kt =
 sGW s0 true (fun k => C.fn 17 (.of 17) [] h nx k) h nx fun v1 h2 n3 =>
 evOps r C ⟨(F14.fr x0 x1 x2 x3 x4 x5 x6 x7 x8 x9 x10 x11 x12 x13 x14 x15 x16 x17 x18 x19 x20 x21 x22 x23 x24 x25 x26), v1 :: s0 :: s1 :: s2 :: s3 :: s4 :: s5 :: s6 :: s7 :: s8 :: s9 :: s10 :: s11 :: s12 :: s13 :: s14 :: s15 :: s16 :: s17 :: s18 :: s19 :: s20 :: s21 :: s22 :: s23 :: []⟩ h2 n3 Kt := by kernel_rfl
theorem F14.r15_3_s {s0 s1 s2 s3 s4 s5 s6 s7 s8 s9 s10 s11 s12 s13 s14 s15 s16 s17 s18 s19 s20 s21 s22 s23 : AV} {Kt : KTm} : evOps F14.r15_3 C ⟨(F14.fr x0 x1 x2 x3 x4 x5 x6 x7 x8 x9 x10 x11 x12 x13 x14 x15 x16 x17 x18 x19 x20 x21 x22 x23 x24 x25 x26), s0 :: s1 :: s2 :: s3 :: s4 :: s5 :: s6 :: s7 :: s8 :: s9 :: s10 :: s11 :: s12 :: s13 :: s14 :: s15 :: s16 :: s17 :: s18 :: s19 :: s20 :: s21 :: s22 :: s23 :: []⟩ h nx Kt =
 sGW s0 true (fun k => C.fn 17 (.of 17) [] h nx k) h nx fun v1 h2 n3 =>
 evOps F14.r15_4 C ⟨(F14.fr x0 x1 x2 x3 x4 x5 x6 x7 x8 x9 x10 x11 x12 x13 x14 x15 x16 x17 x18 x19 x20 x21 x22 x23 x24 x25 x26), v1 :: s0 :: s1 :: s2 :: s3 :: s4 :: s5 :: s6 :: s7 :: s8 :: s9 :: s10 :: s11 :: s12 :: s13 :: s14 :: s15 :: s16 :: s17 :: s18 :: s19 :: s20 :: s21 :: s22 :: s23 :: []⟩ h2 n3 Kt := F14.r15_3_g
theorem F14.r15_4_g {s0 s1 s2 s3 s4 s5 s6 s7 s8 s9 s10 s11 s12 s13 s14 s15 s16 s17 s18 s19 s20 s21 s22 s23 s24 : AV} {Kt : KTm} : evOps (.s (.pick (.s 1) (.s 0) (.c (.bool false))) :: .q (.of 3) (.mv (.s 0)) :: []) C ⟨(F14.fr x0 x1 x2 x3 x4 x5 x6 x7 x8 x9 x10 x11 x12 x13 x14 x15 x16 x17 x18 x19 x20 x21 x22 x23 x24 x25 x26), s0 :: s1 :: s2 :: s3 :: s4 :: s5 :: s6 :: s7 :: s8 :: s9 :: s10 :: s11 :: s12 :: s13 :: s14 :: s15 :: s16 :: s17 :: s18 :: s19 :: s20 :: s21 :: s22 :: s23 :: s24 :: []⟩ h nx Kt =
 sPick s1 s0 (.bool false) fun v1 =>
 Kt ⟨(F14.fr x0 x1 x2 v1 x4 x5 x6 x7 x8 x9 x10 x11 x12 x13 x14 x15 x16 x17 x18 x19 x20 x21 x22 x23 x24 x25 x26), v1 :: s0 :: s1 :: s2 :: s3 :: s4 :: s5 :: s6 :: s7 :: s8 :: s9 :: s10 :: s11 :: s12 :: s13 :: s14 :: s15 :: s16 :: s17 :: s18 :: s19 :: s20 :: s21 :: s22 :: s23 :: s24 :: []⟩ h nx := by kernel_rfl
theorem F14.r15_4_s {s0 s1 s2 s3 s4 s5 s6 s7 s8 s9 s10 s11 s12 s13 s14 s15 s16 s17 s18 s19 s20 s21 s22 s23 s24 : AV} {Kt : KTm} : evOps F14.r15_4 C ⟨(F14.fr x0 x1 x2 x3 x4 x5 x6 x7 x8 x9 x10 x11 x12 x13 x14 x15 x16 x17 x18 x19 x20 x21 x22 x23 x24 x25 x26), s0 :: s1 :: s2 :: s3 :: s4 :: s5 :: s6 :: s7 :: s8 :: s9 :: s10 :: s11 :: s12 :: s13 :: s14 :: s15 :: s16 :: s17 :: s18 :: s19 :: s20 :: s21 :: s22 :: s23 :: s24 :: []⟩ h nx Kt =
 sPick s1 s0 (.bool false) fun v1 =>
 Kt ⟨(F14.fr x0 x1 x2 v1 x4 x5 x6 x7 x8 x9 x10 x11 x12 x13 x14 x15 x16 x17 x18 x19 x20 x21 x22 x23 x24 x25 x26), v1 :: s0 :: s1 :: s2 :: s3 :: s4 :: s5 :: s6 :: s7 :: s8 :: s9 :: s10 :: s11 :: s12 :: s13 :: s14 :: s15 :: s16 :: s17 :: s18 :: s19 :: s20 :: s21 :: s22 :: s23 :: s24 :: []⟩ h nx := F14.r15_4_g
theorem F14.t22_s {O : Outs Prop} {tm : T AV} : IR.run F14.t22 C N O K tm h nx = IR.run F14.t21 C N O (IR.run .ret C N O K) tm h nx := srun_seq ..
theorem F14.t23_s {O : Outs Prop} : IR.run F14.t23 C N O K (F14.fr x0 x1 x2 x3 x4 x5 x6 x7 x8 x9 x10 x11 x12 x13 x14 x15 x16 x17 x18 x19 x20 x21 x22 x23 x24 x25 x26) h nx = sCond x26 (IR.run F14.t22 C N O K (F14.fr x0 x1 x2 x3 x4 x5 x6 x7 x8 x9 x10 x11 x12 x13 x14 x15 x16 x17 x18 x19 x20 x21 x22 x23 x24 x25 x26) h nx) (IR.run .skip C N O K (F14.fr x0 x1 x2 x3 x4 x5 x6 x7 x8 x9 x10 x11 x12 x13 x14 x15 x16 x17 x18 x19 x20 x21 x22 x23 x24 x25 x26) h nx) := by
 have g : ∀ A B : IR, IR.run (.cond (.t (.of 26)) A B) C N O K (F14.fr x0 x1 x2 x3 x4 x5 x6 x7 x8 x9 x10 x11 x12 x13 x14 x15 x16 x17 x18 x19 x20 x21 x22 x23 x24 x25 x26) h nx = sCond x26 (IR.run A C N O K (F14.fr x0 x1 x2 x3 x4 x5 x6 x7 x8 x9 x10 x11 x12 x13 x14 x15 x16 x17 x18 x19 x20 x21 x22 x23 x24 x25 x26) h nx) (IR.run B C N O K (F14.fr x0 x1 x2 x3 x4 x5 x6 x7 x8 x9 x10 x11 x12 x13 x14 x15 x16 x17 x18 x19 x20 x21 x22 x23 x24 x25 x26) h nx) := fun A B => by kernel_rfl
 exact g _ _
theorem F14.t24_s {O : Outs Prop} {tm : T AV} : IR.run F14.t24 C N O K tm h nx = IR.run F14.t20 C N O (IR.run F14.t23 C N O K) tm h nx := srun_seq ..
theorem F14.t25_s {O : Outs Prop} : IR.run F14.t25 C N O K (F14.fr x0 x1 x2 x3 x4 x5 x6 x7 x8 x9 x10 x11 x12 x13 x14 x15 x16 x17 x18 x19 x20 x21 x22 x23 x24 x25 x26) h nx =
 C.fn 75 (.of 75) [x1] h nx fun v1 h2 n3 =>
 sExt 0 v1 fun v4 =>
 sExt 1 v1 fun v5 =>
 sAlloc [(I 0), .nils] h2 n3 fun v6 h7 n8 =>
 sStore 2 v6 v4 h7 n8 fun v9 h10 n11 =>
 K (F14.fr x0 x1 x2 x3 x4 x5 x6 x7 x8 x9 x10 x11 x12 x13 x14 x15 x16 x17 x18 x19 x20 x21 v6 v5 x24 x25 x26) h10 n11 := by kernel_rfl
theorem F14.t26_s {O : Outs Prop} : IR.run F14.t26 C N O K (F14.fr x0 x1 x2 x3 x4 x5 x6 x7 x8 x9 x10 x11 x12 x13 x14 x15 x16 x17 x18 x19 x20 x21 x22 x23 x24 x25 x26) h nx =
 sLoadN 2 x10 h fun v1 =>
 sLoadN 2 x22 h fun v2 =>
 C.fn 74 (.of 74) [v1, x11, v2, x23] h nx fun v3 h4 n5 =>
 sGW v3 true (fun k => C.fn 17 (.of 17) [] h4 n5 k) h4 n5 fun v6 h7 n8 =>
 sPick v3 v6 (.bool false) fun v9 =>
 K (F14.fr x0 x1 x2 v9 x4 x5 x6 x7 x8 x9 x10 x11 x12 x13 x14 x15 x16 x17 x18 x19 x20 x21 x22 x23 x24 x25 x26) h7 n8 := by kernel_rfl
theorem F14.t27_s {O : Outs Prop} {tm : T AV} : IR.run F14.t27 C N O K tm h nx = IR.run F14.t26 C N O (IR.run .ret C N O K) tm h nx := srun_seq ..
theorem F14.t28_s {O : Outs Prop} {tm : T AV} : IR.run F14.t28 C N O K tm h nx = IR.run F14.t25 C N O (IR.run F14.t27 C N O K) tm h nx := srun_seq ..
theorem F14.t29_s {O : Outs Prop} {tm : T AV} : IR.run F14.t29 C N O K tm h nx = IR.run F14.t24 C N O (IR.run F14.t28 C N O K) tm h nx := srun_seq ..
theorem F14.t30_s {O : Outs Prop} {tm : T AV} : IR.run F14.t30 C N O K tm h nx = IR.run F14.t19 C N O (IR.run F14.t29 C N O K) tm h nx := srun_seq ..
theorem F14.t31_s {O : Outs Prop} {tm : T AV} : IR.run F14.t31 C N O K tm h nx = IR.run F14.t14 C N O (IR.run F14.t30 C N O K) tm h nx := srun_seq ..
theorem F14.t32_s {O : Outs Prop} {tm : T AV} : IR.run F14.t32 C N O K tm h nx = IR.run F14.t13 C N O (IR.run F14.t31 C N O K) tm h nx := srun_seq ..
theorem F14.t33_s {O : Outs Prop} {tm : T AV} : IR.run F14.t33 C N O K tm h nx = IR.run F14.t12 C N O (IR.run F14.t32 C N O K) tm h nx := srun_seq ..
theorem F14.t34_s {O : Outs Prop} {tm : T AV} : IR.run F14.t34 C N O K tm h nx = IR.run F14.t11 C N O (IR.run F14.t33 C N O K) tm h nx := srun_seq ..
theorem F14.t35_s {O : Outs Prop} {tm : T AV} : IR.run F14.t35 C N O K tm h nx = IR.run F14.t10 C N O (IR.run F14.t34 C N O K) tm h nx := srun_seq ..
theorem F14.t36_s {O : Outs Prop} {tm : T AV} : IR.run F14.t36 C N O K tm h nx = IR.run F14.t9 C N O (IR.run F14.t35 C N O K) tm h nx := srun_seq ..
theorem F14.t37_s {O : Outs Prop} {tm : T AV} : IR.run F14.t37 C N O K tm h nx = IR.run F14.t8 C N O (IR.run F14.t36 C N O K) tm h nx := srun_seq ..
theorem F14.t38_s {O : Outs Prop} {tm : T AV} : IR.run F14.t38 C N O K tm h nx = IR.run F14.t7 C N O (IR.run F14.t37 C N O K) tm h nx := srun_seq ..
theorem F14.t39_s {O : Outs Prop} {tm : T AV} : IR.run F14.t39 C N O K tm h nx = IR.run F14.t6 C N O (IR.run F14.t38 C N O K) tm h nx := srun_seq ..
theorem F14.t40_s {O : Outs Prop} {tm : T AV} : IR.run F14.t40 C N O K tm h nx = IR.run F14.t5 C N O (IR.run F14.t39 C N O K) tm h nx := srun_seq ..
theorem F14.t41_s {O : Outs Prop} {tm : T AV} : IR.run F14.t41 C N O K tm h nx = IR.run F14.t0 C N O (IR.run F14.t40 C N O K) tm h nx := srun_seq ..
theorem F14.tab : T.get none (.of 14) tbl = some F14 := by kernel_rfl
theorem F14.bind (k : T AV → OP) : bindArgs F14.params [a0, a1, a2] F14.init k = k (F14.fr a0 a1 a2 .undef .undef .undef .undef .undef .undef .undef .undef .undef .undef .undef .undef .undef .undef .undef .undef .undef .undef .undef .undef .undef .undef .undef .undef) := by kernel_rfl
theorem F14.body_eq : F14.body = F14.t41 := by kernel_rfl
theorem F14.go : callFn tbl N C (.of 14) [a0, a1, a2] h nx K0 = IR.run F14.t41 C N (fnO F14.res K0) (retK F14.res K0) (F14.fr a0 a1 a2 .undef .undef .undef .undef .undef .undef .undef .undef .undef .undef .undef .undef .undef .undef .undef .undef .undef .undef .undef .undef .undef .undef .undef .undef) h nx := by
 rw [callFn_of F14.tab, F14.bind, F14.body_eq]; kernel_rfl
theorem F14.ret : retK F14.res K0 (F14.fr x0 x1 x2 x3 x4 x5 x6 x7 x8 x9 x10 x11 x12 x13 x14 x15 x16 x17 x18 x19 x20 x21 x22 x23 x24 x25 x26) h nx = K0 x3 h nx := by kernel_rfl
end
end Go.Ev
namespace Go.Ev
open Go Go.Proofs
variable {B : Nat}
set_option maxRecDepth 100000
def Pair (f : Nat) (xa : List AV) (g : Nat) (bs : List AV) : Prop := ∃ (x y : Int) (v w : AV) (e bad : Int), v.cells = some [v] ∧ w.cells = some [w] ∧
 (∀ B, Pure Tryz.prog B f xa (· = .tup [.agg [I x, v], I e])) ∧ (∀ B, Pure Tryz.prog B g bs (· = .tup [.agg [I y, w], I bad])) ∧
 ∀ B, Pure Tryz.prog B 74 [.agg [I x, v], I e, .agg [I y, w], I bad] (· = .bool true)
theorem pair_err {f g : Nat} {xa bs : List AV} {e : Int} (he : e ≠ 0) (h1 : ∀ B, Pure Tryz.prog B f xa (· = noV e)) (h2 : ∀ B, Pure Tryz.prog B g bs (· = noV e)) : Pair f xa g bs :=
 ⟨0, 0, .nils, .nils, e, e, rfl, rfl, h1, h2, fun _ => system74e he rfl rfl (fun _ => rfl) rfl rfl rfl rfl⟩
def smallT (a : List (List Int)) : Bool := decide (a.length ≤ 1000) && a.all fun l => decide (l.length ≤ 1000)
theorem pair_ok {f g : Nat} {xa bs : List AV} {x : Int} {a : List (List Int)} (hs : smallT a = true) (h1 : ∀ B, Pure Tryz.prog B f xa (· = .tup [.agg [I x, encT a], I 0])) (h2 : ∀ B, Pure Tryz.prog B g bs (· = .tup [.agg [I x, encT a], I 0])) : Pair f xa g bs := by
 simp only [smallT, Bool.and_eq_true, decide_eq_true_eq, List.all_eq_true] at hs
 exact ⟨x, x, encT a, encT a, 0, 0, rfl, rfl, h1, h2, fun _ => system74o (by omega) fun l hl => by have := hs.2 l hl; omega⟩
theorem rows_small {r c : Nat} (hr : r ≤ 6) (hc : c ≤ 6) : smallT (rowsL r c) = true := by
 simp only [smallT, Bool.and_eq_true, decide_eq_true_eq, List.all_eq_true]
 refine ⟨by simp [rowsL]; omega, fun l hl => ?_⟩
 obtain ⟨i, _, rfl⟩ := List.mem_map.1 hl
 simp; omega
theorem cols_small {r c : Nat} (hr : r ≤ 6) (hc : c ≤ 6) : smallT (colsL r c) = true := by
 simp only [smallT, Bool.and_eq_true, decide_eq_true_eq, List.all_eq_true]
 refine ⟨by simp [colsL]; omega, fun l hl => ?_⟩
 obtain ⟨i, _, rfl⟩ := List.mem_map.1 hl
 simp; omega
theorem sq_small : ((List.range 3).all fun k => (List.range 7).all fun n => smallT (sqL k n)) = true := by decide +kernel
theorem cube_small : ((List.range 7).all fun n => smallT (cubeL n)) = true := by decide +kernel
theorem star_small : ((List.range 7).all fun n => smallT (starL5 n)) = true := by decide +kernel
theorem pair66 {r c : Int} (hr : r ≤ 6 ∨ 16 < r) (hc : c ≤ 6 ∨ 16 < c) : Pair 66 [I r, I c] 71 [I r, I c] := by
 by_cases e : rngE 1 16 [r, c] = 0
 case neg => exact pair_err e (fun _ => rows66e e) fun _ => ref71e e
 rw [rng2] at e
 have h : ¬ ((r < 1 ∨ 16 < r) ∨ (c < 1 ∨ 16 < c)) := fun q => by rw [if_pos q] at e; cases e
 obtain ⟨r, rfl⟩ : ∃ n : Nat, r = (n : Int) := ⟨r.toNat, by omega⟩
 obtain ⟨c, rfl⟩ : ∃ n : Nat, c = (n : Int) := ⟨c.toNat, by omega⟩
 exact pair_ok (rows_small (r := r) (c := c) (by omega) (by omega)) (fun _ => ok66_pure t66 (by omega) (by omega)) fun _ => ok66_pure t71 (by omega) (by omega)
theorem pair67 {r c : Int} (hr : r ≤ 6 ∨ 16 < r) (hc : c ≤ 6 ∨ 16 < c) : Pair 67 [I r, I c] 72 [I r, I c] := by
 by_cases e : rngE 1 16 [r, c] = 0
 case neg => exact pair_err e (fun _ => cols67e e) fun _ => ref72e e
 rw [rng2] at e
 have h : ¬ ((r < 1 ∨ 16 < r) ∨ (c < 1 ∨ 16 < c)) := fun q => by rw [if_pos q] at e; cases e
 obtain ⟨r, rfl⟩ : ∃ n : Nat, r = (n : Int) := ⟨r.toNat, by omega⟩
 obtain ⟨c, rfl⟩ : ∃ n : Nat, c = (n : Int) := ⟨c.toNat, by omega⟩
 exact pair_ok (cols_small (r := r) (c := c) (by omega) (by omega)) (fun _ => ok66_pure t67 (by omega) (by omega)) fun _ => ok66_pure t72 (by omega) (by omega)
theorem pair69 {n : Int} (hn : n ≤ 6 ∨ 16 < n) : Pair 69 [I n] 73 [I n] := by
 by_cases e : rngE 5 16 [n] = 0
 case neg => exact pair_err e (fun _ => star69e e) fun _ => ref73e e
 rw [rng1] at e
 have h : ¬ (n < 5 ∨ 16 < n) := fun q => by rw [if_pos q] at e; cases e
 obtain ⟨n, rfl⟩ : ∃ m : Nat, n = (m : Int) := ⟨n.toNat, by omega⟩
 have hm : n ∈ [5, 6] := by simp; omega
 exact pair_ok (List.all_eq_true.1 star_small n (List.mem_range.2 (by omega))) (fun _ => okN_pure t69 hm) fun _ => okN_pure t73 hm
theorem pair65 {s : List UInt8} {n : Int} (hn : n ≤ 6 ∨ 16 < n) : Pair 65 [.str s, I n] 70 [.str s, I n] := by
 by_cases e : sqE s n = 0
 case neg => exact pair_err e (fun _ => square65e e) fun _ => ref70e e
 by_cases hs : s ∈ kinds3
 case neg => rw [sqE, if_neg hs] at e; cases e
 rw [sqE, if_pos hs, rng1] at e
 have h : ¬ (n < 1 ∨ 16 < n) := fun q => by rw [if_pos q] at e; cases e
 obtain ⟨n, rfl⟩ : ∃ m : Nat, n = (m : Int) := ⟨n.toNat, by omega⟩
 have sm : ∀ k, k < 3 → smallT (sqL k n) = true := fun k hk => List.all_eq_true.1 (List.all_eq_true.1 sq_small k (List.mem_range.2 hk)) n (List.mem_range.2 (by omega))
 simp only [kinds3, List.mem_cons, List.not_mem_nil, or_false] at hs
 rcases hs with rfl | rfl | rfl
 ·exact pair_ok (sm 0 (by omega)) (fun _ => ok65_pure t65_0 (by omega)) fun _ => ok65_pure t70_0 (by omega)
 ·exact pair_ok (sm 1 (by omega)) (fun _ => ok65_pure t65_1 (by omega)) fun _ => ok65_pure t70_1 (by omega)
 ·exact pair_ok (sm 2 (by omega)) (fun _ => ok65_pure t65_2 (by omega)) fun _ => ok65_pure t70_2 (by omega)
theorem pair68 {n : Int} (hn : n ≤ 3 ∨ 6 < n) : Pair 68 [I n] 75 [I n] := by
 by_cases e : rngE 1 6 [n] = 0
 case neg => exact pair_err e (fun _ => cube68e e) fun _ => ref75e e
 rw [rng1] at e
 have h : ¬ (n < 1 ∨ 6 < n) := fun q => by rw [if_pos q] at e; cases e
 obtain ⟨n, rfl⟩ : ∃ m : Nat, n = (m : Int) := ⟨n.toNat, by omega⟩
 have hs := List.all_eq_true.1 cube_small n (List.mem_range.2 (by omega))
 exact pair_ok hs (fun _ => okN_pure t68a (by simp; omega)) fun _ => okN_pure t75 (by simp; omega)
theorem cube68 {n : Nat} {B : Nat} (hn : 4 ≤ n ∧ n ≤ 6) : Pure Tryz.prog B 68 [I (n : Int)] (· = cubeV n) := by
 have : n = 4 ∨ n = 5 ∨ n = 6 := by omega
 rcases this with rfl | rfl | rfl
 ·exact okN_pure t68a (by simp)
 ·exact okN_pure t68b (by simp)
 ·exact okN_pure t68c (by simp)
theorem cube_len {n : Nat} (hn : 4 ≤ n ∧ n ≤ 6) : (cubeL n).length = 3 * n * n + 4 := by
 have : n = 4 ∨ n = 5 ∨ n = 6 := by omega
 rcases this with rfl | rfl | rfl <;> decide +kernel
theorem sSlen_s (s : List UInt8) {K : AV → OP} : sSlen (.str s) K = K (I s.length) := by
 show (natK s.length fun n => K (.int .i64 (.ofNat n))) = _
 rw [natK_eq]; rfl
theorem sG_un (want : Bool) (op : (AV → OP) → OP) {K : AV → OP} : sG .undef want op K = K .undef := nr rfl
theorem F14.cond1 {C : Calls Prop} {Kt : KTm} {h : T Blk} {nx : Pa} {s : List UInt8} {n c : Int} {x3 x4 x5 x6 x7 x8 x9 x10 x11 x12 x13 x14 x15 x16 x17 x18 x19 x20 x21 x22 x23 x24 x25 x26 : AV}
  (hK : ∀ st, Kt ⟨F14.fr (.str s) (I n) (I c) x3 x4 x5 x6 x7 x8 x9 x10 x11 x12 x13 x14 x15 x16 x17 x18 x19 x20 x21 x22 x23 (.bool (decide ((40 < (s.length : Int) ∨ (6 < n ∧ n ≤ 16)) ∨ (6 < c ∧ c ≤ 16)))) x25 x26, st⟩ h nx = .ok True) :
  evOps F14.r1_0 C ⟨F14.fr (.str s) (I n) (I c) x3 x4 x5 x6 x7 x8 x9 x10 x11 x12 x13 x14 x15 x16 x17 x18 x19 x20 x21 x22 x23 x24 x25 x26, []⟩ h nx Kt = .ok True := by
 rw [F14.r1_0_s]
 by_cases c1 : (40 : Int) < (s.length : Int) <;> by_cases c2 : 6 < n <;> by_cases c3 : n ≤ 16 <;> by_cases c4 : 6 < c <;> by_cases c5 : c ≤ 16 <;>
  simp only [sSlen_s, sGtr, sLeq, sG_tt, sG_ff, sG_tf, sG_ft, sG_un, sPick_t, sPick_f, c1, c2, c3, c4, c5, decide_true, decide_false, F14.r1_1_s, F14.r1_2_s, true_or, false_or, or_true, or_false, true_and, false_and, and_true, and_false] at hK ⊢ <;> exact hK _
theorem F14.cond2 {C : Calls Prop} {h : T Blk} {nx : Pa} {x0 x2 x3 x4 x5 x6 x7 x8 x9 x10 x11 x12 x13 x14 x15 x16 x17 x18 x19 x20 x21 x22 x23 x24 x25 x26 : AV} {n : Int} {N : Nat} {O : Outs Prop} {K : Ks Prop}
  (hK : K (F14.fr x0 (I n) x2 x3 x4 x5 x6 x7 x8 x9 x10 x11 x12 x13 x14 x15 x16 x17 x18 x19 x20 x21 x22 x23 x24 x25 (.bool (decide (3 < n ∧ n ≤ 6)))) h nx = .ok True) :
  IR.run F14.t20 C N O K (F14.fr x0 (I n) x2 x3 x4 x5 x6 x7 x8 x9 x10 x11 x12 x13 x14 x15 x16 x17 x18 x19 x20 x21 x22 x23 x24 x25 x26) h nx = .ok True := by
 rw [F14.t20_s]
 by_cases c1 : 3 < n <;> by_cases c2 : n ≤ 6 <;> simp only [sGtr, sLeq, sG_tt, sG_ft, sPick_t, sPick_f, c1, c2, decide_true, decide_false, true_and, false_and, and_true, and_false] at hK ⊢ <;> exact hK
theorem law14 {s : List UInt8} {n c : Int} (haw : ∀ {B}, Pure Tryz.prog B 17 [] (· = .bool true)) : Pure Tryz.prog B 14 [.str s, I n, I c] (· = .bool true) := by
 refine pure_hp fun h nx K H0 hK => by_body tbl_ok dreg 1000 fun hf => ?_
 have awk : ∀ (h : T Blk) (nx : Pa) (Z : Kw Prop), Z (.bool true) h nx = .ok True → (CS Tryz.prog B).fn 17 (.of 17) [] h nx Z = .ok True := fun h nx Z hZ => haw _ _ _ _ fun v hv _ => by rw [hv]; exact hZ
 have ret : ∀ h1 nx1 L, Hp h h1 nx1 L → K (.bool true) h1 nx1 = .ok True := fun _ _ _ H => hK _ _ _ _ _ H (frz_fixd rfl) rfl
 rw [F14.go, F14.t41_s, F14.t0_s, F14.t40_s, F14.t5_s, F14.t1_s]
 refine F14.cond1 fun st => ?_
 dsimp only
 rw [F14.t4_s]
 by_cases c0 : (40 < (s.length : Int) ∨ (6 < n ∧ n ≤ 16)) ∨ (6 < c ∧ c ≤ 16)
 ·simp only [c0, decide_true, sCond_t]
  rw [F14.t3_s, F14.t2_s]
  refine awk _ _ _ ?_
  rw [srun_ret, fnO_rt, F14.ret]
  exact ret _ _ _ H0
 simp only [c0, decide_false, sCond_f]
 rw [srun_skip]
 have hn : n ≤ 6 ∨ 16 < n := by omega
 have hc : c ≤ 6 ∨ 16 < c := by omega
 obtain ⟨ax, ay, av, aw, ae, ab, a1, a2, a3, a4, a5⟩ := pair65 (s := s) hn
 obtain ⟨bx, by', bv, bw, be, bb, b1, b2, b3, b4, b5⟩ := pair66 hn hc
 obtain ⟨dx, dy, dv, dw, de, db, d1, d2, d3, d4, d5⟩ := pair67 hn hc
 obtain ⟨gx, gy, gv, gw, ge, gb, g1, g2, g3, g4, g5⟩ := pair69 hn
 have cube : ∃ (x : Int) (v : AV) (e : Int), v.cells = some [v] ∧ (∀ B, Pure Tryz.prog B 68 [I n] (· = .tup [.agg [I x, v], I e])) ∧ ((3 < n ∧ n ≤ 6) → e = 0 ∧ x = n * n * n ∧ ∀ op : AV → OP, sLen v op = op (I (3 * n * n + 4))) ∧
   (¬ (3 < n ∧ n ≤ 6) → ∃ (y : Int) (w : AV) (bad : Int), w.cells = some [w] ∧ (∀ B, Pure Tryz.prog B 75 [I n] (· = .tup [.agg [I y, w], I bad])) ∧ ∀ B, Pure Tryz.prog B 74 [.agg [I x, v], I e, .agg [I y, w], I bad] (· = .bool true)) := by
  by_cases q : 3 < n ∧ n ≤ 6
  ·obtain ⟨m, rfl⟩ : ∃ m : Nat, n = (m : Int) := ⟨n.toNat, by omega⟩
   refine ⟨((m * m * m : Nat) : Int), encT (cubeL m), 0, rfl, fun B => cube68 (by omega), fun _ => ⟨rfl, by simp, fun op => ?_⟩, fun k => absurd q k⟩
   rw [sLen_lst, cube_len (by omega)]; simp
  ·obtain ⟨x, y, v, w, e, bad, f1, f2, f3, f4, f5⟩ := pair68 (n := n) (by omega)
   exact ⟨x, v, e, f1, f3, fun k => absurd k q, fun _ => ⟨y, w, bad, f2, f4, f5⟩⟩
 obtain ⟨fx, fv, fe, f1, f2, f3, f4⟩ := cube
 rw [F14.t39_s, F14.t6_s]
 refine a3 B _ _ _ _ ?_
 rintro _ rfl _
 simp only [sExt0, sExt1]
 refine H0.alloc fun p1 h1 nx1 H1 => ?_
 refine H1.storeN (l2 := [I ax, av]) (k := 0) rfl rfl rfl fun h1 H1 => ?_
 rw [F14.t38_s, F14.t7_s]
 refine b3 B _ _ _ _ ?_
 rintro _ rfl _
 simp only [sExt0, sExt1]
 refine H1.alloc fun p2 h2 nx2 H2 => ?_
 refine H2.storeN (l2 := [I bx, bv]) (k := 0) rfl rfl rfl fun h2 H2 => ?_
 rw [F14.t37_s, F14.t8_s]
 refine d3 B _ _ _ _ ?_
 rintro _ rfl _
 simp only [sExt0, sExt1]
 refine H2.alloc fun p3 h3 nx3 H3 => ?_
 refine H3.storeN (l2 := [I dx, dv]) (k := 0) rfl rfl rfl fun h3 H3 => ?_
 rw [F14.t36_s, F14.t9_s]
 refine f2 B _ _ _ _ ?_
 rintro _ rfl _
 simp only [sExt0, sExt1]
 refine H3.alloc fun p4 h4 nx4 H4 => ?_
 refine H4.storeN (l2 := [I fx, fv]) (k := 0) rfl rfl rfl fun h4 H4 => ?_
 rw [F14.t35_s, F14.t10_s]
 refine g3 B _ _ _ _ ?_
 rintro _ rfl _
 simp only [sExt0, sExt1]
 refine H4.alloc fun p5 h5 nx5 H5 => ?_
 refine H5.storeN (l2 := [I gx, gv]) (k := 0) rfl rfl rfl fun h5 H5 => ?_
 rw [F14.t34_s, F14.t11_s]
 refine a4 B _ _ _ _ ?_
 rintro _ rfl _
 simp only [sExt0, sExt1]
 refine H5.alloc fun p6 h6 nx6 H6 => ?_
 refine H6.storeN (l2 := [I ay, aw]) (k := 0) rfl rfl rfl fun h6 H6 => ?_
 rw [F14.t33_s, F14.t12_s]
 refine b4 B _ _ _ _ ?_
 rintro _ rfl _
 simp only [sExt0, sExt1]
 refine H6.alloc fun p7 h7 nx7 H7 => ?_
 refine H7.storeN (l2 := [I by', bw]) (k := 0) rfl rfl rfl fun h7 H7 => ?_
 rw [F14.t32_s, F14.t13_s]
 refine d4 B _ _ _ _ ?_
 rintro _ rfl _
 simp only [sExt0, sExt1]
 refine H7.alloc fun p8 h8 nx8 H8 => ?_
 refine H8.storeN (l2 := [I dy, dw]) (k := 0) rfl rfl rfl fun h8 H8 => ?_
 rw [F14.t31_s, F14.t14_s]
 refine g4 B _ _ _ _ ?_
 rintro _ rfl _
 simp only [sExt0, sExt1]
 refine H8.alloc fun p9 h9 nx9 H9 => ?_
 refine H9.storeN (l2 := [I gy, gw]) (k := 0) rfl rfl rfl fun h9 H9 => ?_
 rw [F14.t30_s, F14.t19_s, F14.t15_s, F14.r12_0_s, H9.loadN (k := 8) (n := 2) rfl rfl, H9.loadN (k := 3) (n := 2) rfl rfl]
 refine a5 B _ _ _ _ ?_
 rintro _ rfl _
 rw [F14.r12_1_s]
 simp only [sNot_b, Bool.not_true, sG_ff, sGW_ff]
 rw [H9.loadN (k := 7) (n := 2) rfl rfl, H9.loadN (k := 2) (n := 2) rfl rfl]
 refine b5 B _ _ _ _ ?_
 rintro _ rfl _
 rw [F14.r12_2_s]
 simp only [sNot_b, Bool.not_true, sG_ff, sGW_ff, sPick_f]
 rw [H9.loadN (k := 6) (n := 2) rfl rfl, H9.loadN (k := 1) (n := 2) rfl rfl]
 refine d5 B _ _ _ _ ?_
 rintro _ rfl _
 rw [F14.r12_3_s]
 simp only [sNot_b, Bool.not_true, sG_ff, sGW_ff, sPick_f]
 rw [H9.loadN (k := 4) (n := 2) rfl rfl, H9.loadN (k := 0) (n := 2) rfl rfl]
 refine g5 B _ _ _ _ ?_
 rintro _ rfl _
 rw [F14.r12_4_s]
 simp only [sNot_b, Bool.not_true, sG_ff, sPick_f]
 rw [F14.t18_s, sCond_f, srun_skip, F14.t29_s, F14.t24_s]
 refine F14.cond2 ?_
 rw [F14.t23_s]
 by_cases q : 3 < n ∧ n ≤ 6
 ·obtain ⟨rfl, rfl, q3⟩ := f3 q
  simp only [q, and_self, decide_true, sCond_t]
  have hsq : 0 ≤ n * n ∧ n * n ≤ 36 := ⟨Int.mul_nonneg (by omega) (by omega), Int.le_trans (Int.mul_le_mul q.2 q.2 (by omega) (by omega)) (by omega)⟩
  have hcu : 0 ≤ n * n * n ∧ n * n * n ≤ 216 := ⟨Int.mul_nonneg hsq.1 (by omega), Int.le_trans (Int.mul_le_mul hsq.2 q.2 (by omega) (by omega)) (by omega)⟩
  have h3n : 0 ≤ 3 * n * n ∧ 3 * n * n ≤ 108 := by rw [Int.mul_assoc]; omega
  rw [F14.t22_s, F14.t21_s, F14.r15_0_s]
  simp only [sEql, decide_true, sG_tt, sFx]
  rw [H9.load (k := 5) (i := 0) rfl rfl, sMul (by omega), F14.r15_1_s]
  simp only [sG_tt]
  rw [sMul (by omega)]
  simp only [sEql, decide_true, sPick_t, sG_tt, sFx]
  rw [H9.load (k := 5) (i := 0 + 1) rfl rfl, q3, F14.r15_2_s]
  simp only [sG_tt]
  rw [sMul (by omega), sMul (by omega), sAdd (by omega)]
  simp only [sEql, decide_true, sPick_t]
  rw [F14.r15_3_s]
  simp only [sGW_tt]
  refine awk _ _ _ ?_
  rw [F14.r15_4_s]
  simp only [sPick_t]
  rw [srun_ret, fnO_rt, F14.ret]
  exact ret _ _ _ H9
 ·simp only [q, decide_false, sCond_f]
  obtain ⟨y, w, bad, w1, w2, w3⟩ := f4 q
  rw [srun_skip, F14.t28_s, F14.t25_s]
  refine w2 B _ _ _ _ ?_
  rintro _ rfl _
  simp only [sExt0, sExt1]
  refine H9.alloc fun p10 h10 nx10 H10 => ?_
  refine H10.storeN (l2 := [I y, w]) (k := 0) rfl rfl rfl fun h10 H10 => ?_
  rw [F14.t27_s, F14.t26_s, H10.loadN (k := 6) (n := 2) rfl rfl, H10.loadN (k := 0) (n := 2) rfl rfl]
  refine w3 B _ _ _ _ ?_
  rintro _ rfl _
  simp only [sGW_tt]
  refine awk _ _ _ ?_
  simp only [sPick_t]
  rw [srun_ret, fnO_rt, F14.ret]
  exact ret _ _ _ H10
end Go.Ev
