import Derived.Test.YtfgpjkchdelphaaGreatDoorWords
import Derived.Test.YtfgpjkchdelphaaGreatDoorIrT
import Derived.Test.YtfgpjkchdelphaaGreatDoorEvD
import Derived.KernelRfl
set_option linter.unusedSimpArgs false
set_option linter.unusedVariables false
namespace Go.Ev
open Go Go.Proofs
variable {B : Nat}
set_option maxRecDepth 100000
def nrm (f : List Int) : Bool := decide (srt f = upTo f.length)
def bim (n : Nat) (f : List Int) : Bool := mg 1 n f && pow2 n f
def prs (n : Nat) (f : List Int) : List Bool := [nrm f, mg 0 n f, mg 1 n f, mg 2 n f, asc n f, mper n f, bord n f, bim n f]
def kNorm : List UInt8 := [110, 111, 114, 109, 97, 108]
def kAssoc : List UInt8 := [97, 115, 115, 111, 99, 105, 97, 116, 105, 118, 101]
def kPerf : List UInt8 := [109, 111, 115, 116, 45, 112, 101, 114, 102, 101, 99, 116]
def kBord : List UInt8 := [98, 111, 114, 100, 101, 114, 101, 100]
def kBim : List UInt8 := [98, 105, 109, 97, 103, 105, 99]
def knm : List (List UInt8) := [kNorm, kindS 0, kindS 1, kindS 2, kAssoc, kPerf, kBord, kBim]
def kfn : List Nat := [220, 221, 222, 223, 224, 225, 226, 227]
def kf : List (List UInt8) → List Bool → List (List UInt8)
 | x :: l, b :: bs => if b then x :: kf l bs else kf l bs
 | _, _ => []
theorem kf_snoc : ∀ (l : List (List UInt8)) (bs : List Bool) (x : List UInt8) (b : Bool), l.length = bs.length → kf (l ++ [x]) (bs ++ [b]) = kf l bs ++ if b then [x] else []
 | [], [], x, b, _ => by cases b <;> rfl
 | y :: l, c :: bs, x, b, h => by
  show (if c then y :: kf (l ++ [x]) (bs ++ [b]) else kf (l ++ [x]) (bs ++ [b])) = _
  rw [kf_snoc l bs x b (by simpa using h)]
  cases c <;> rfl
 | [], _ :: _, _, _, h => by simp at h
 | _ :: _, [], _, _, h => by simp at h
theorem kf_len : ∀ (l : List (List UInt8)) (bs : List Bool), (kf l bs).length ≤ l.length
 | [], _ => by simp [kf]
 | x :: l, [] => by simp [kf]
 | x :: l, b :: bs => by
  have := kf_len l bs
  show (if b then x :: kf l bs else kf l bs).length ≤ _
  cases b <;> simp <;> omega
def kinR (n : Nat) (f : List Int) : List (List UInt8) := kf knm (prs n f)
theorem rdList_mid {t : T AV} {l : List AV} {off s : Nat} (h : rdList t 0 l.length = l) (hle : off + s ≤ l.length) : rdList t off s = (l.drop off).take s := by
 have e1 : l.drop off = rdList t off (l.length - off) := by
  have := rdList_drop t l.length off (by omega)
  rw [h, Nat.zero_add] at this; exact this
 rw [e1]
 apply List.ext_getElem?
 intro i
 by_cases hi : i < s
 ·rw [rdList_get _ _ _ _ hi, List.getElem?_take_of_lt hi, rdList_get _ _ _ _ (by omega)]
 ·rw [List.getElem?_eq_none (by simp; omega), List.getElem?_eq_none (by simp; omega)]
theorem Hp.loadNO {h0 h : T Blk} {nx : Pa} {L : List Ob} {k n off : Nat} {id : Pa} {l l2 : List AV} {op : AV → OP} (H : Hp h0 h nx L) (hk : L[k]? = some (.arr id l)) (hle : off + n ≤ l.length) (he : (l.drop off).take n = l2) : sLoadN n (.ptr id off) h op = op (.agg l2) := by
 obtain ⟨o, t, h1, h2⟩ := H.own _ (List.mem_of_getElem? hk)
 show asCells (T.get .no id h) (fun _ m t => bif Nat.ble (off + n) m then op (.agg (rdList t off n)) else .no 8) (.no 9) = _
 rw [h1]
 show (bif Nat.ble (off + n) l.length then op (.agg (rdList t off n)) else .no 8) = _
 rw [Nat.ble_eq_true_of_le hle, cond_true, rdList_mid h2 hle, he]
theorem clone142 (f : List Int) (hl : f.length ≤ 1000) (hp : 0 < f.length) : Pure Tryz.prog B 142 [encI f] (· = encI f) := by
 cases f with
 | nil => simp at hp
 | cons x t =>
  refine pure_hp fun h nx K H0 hK => by_body tbl_ok dreg 9 fun hf => ?_
  rw [F142.go]
  have e : ∀ A C : OP, (sBin .eql (.nil .sl) (encI (x :: t)) .nils fun v1 => sCond v1 A C) = C := fun A C => nr rfl
  rw [e]
  refine H0.copy (new := (x :: t).map I) (c := (x :: t).length) (fun h1 _ => rdLst 1) (by simp) fixdIL (by decide) (by omega) fun v X h' nx' H' _ _ hF => ?_
  exact hK _ _ _ _ _ H' (hF _ _ _ _ H' (by simp)) rfl
theorem nrm220 {n : Nat} {f : List Int} (hj : ∀ B, JOk Tryz.prog B hookS) (hl : f.length ≤ 100000) : Pure Tryz.prog B 220 [.agg [I (n : Int), encI f]] (· = .bool (nrm f)) := by
 refine pure_hp fun h nx K H0 hK => by_body tbl_ok dreg 100 fun hf' => ?_
 rw [F220.go]
 refine H0.box (l := [I (n : Int), encI f]) rfl fun bx h1 nx1 H1 => ?_
 simp only [sFx]
 rw [H1.load (k := 0) (i := 0 + 1) rfl rfl]
 refine isNormal136 hj hl _ _ _ _ ?_
 rintro _ rfl _
 exact hK _ _ _ _ _ H1 (frz_fixd rfl) rfl
theorem k221 {n : Nat} {f : List Int} (hs : SqOk n) (hf : FillOk n f) : Pure Tryz.prog B 221 [.agg [I (n : Int), encI f]] (· = .bool (mg 0 n f)) := by
 refine pure_hp fun h nx K H0 hK => by_body tbl_ok dreg 100 fun hf' => ?_
 rw [F221.go]
 refine H0.box (l := [I (n : Int), encI f]) rfl fun bx h1 nx1 H1 => ?_
 rw [H1.loadN (k := 0) (n := 2) rfl rfl]
 refine is144 (k := 0) hs (by omega) hf _ _ _ _ ?_
 rintro _ rfl _
 exact hK _ _ _ _ _ H1 (frz_fixd rfl) rfl
theorem k222 {n : Nat} {f : List Int} (hs : SqOk n) (hf : FillOk n f) : Pure Tryz.prog B 222 [.agg [I (n : Int), encI f]] (· = .bool (mg 1 n f)) := by
 refine pure_hp fun h nx K H0 hK => by_body tbl_ok dreg 100 fun hf' => ?_
 rw [F222.go]
 refine H0.box (l := [I (n : Int), encI f]) rfl fun bx h1 nx1 H1 => ?_
 rw [H1.loadN (k := 0) (n := 2) rfl rfl]
 refine is144 (k := 1) hs (by omega) hf _ _ _ _ ?_
 rintro _ rfl _
 exact hK _ _ _ _ _ H1 (frz_fixd rfl) rfl
theorem k223 {n : Nat} {f : List Int} (hs : SqOk n) (hf : FillOk n f) : Pure Tryz.prog B 223 [.agg [I (n : Int), encI f]] (· = .bool (mg 2 n f)) := by
 refine pure_hp fun h nx K H0 hK => by_body tbl_ok dreg 100 fun hf' => ?_
 rw [F223.go]
 refine H0.box (l := [I (n : Int), encI f]) rfl fun bx h1 nx1 H1 => ?_
 rw [H1.loadN (k := 0) (n := 2) rfl rfl]
 refine is144 (k := 2) hs (by omega) hf _ _ _ _ ?_
 rintro _ rfl _
 exact hK _ _ _ _ _ H1 (frz_fixd rfl) rfl
theorem bim227 {n : Nat} {f : List Int} (hs : SqOk n) (hf : FillOk n f) : Pure Tryz.prog B 227 [.agg [I (n : Int), encI f]] (· = .bool (bim n f)) := by
 refine pure_hp fun h nx K H0 hK => by_body tbl_ok dreg 100 fun hf' => ?_
 rw [F227.go]
 refine H0.box (l := [I (n : Int), encI f]) rfl fun bx h1 nx1 H1 => ?_
 rw [H1.loadN (k := 0) (n := 2) rfl rfl]
 refine is144 (k := 1) hs (by omega) hf _ _ _ _ ?_
 rintro _ rfl _
 cases c : mg 1 n f with
 | false =>
  simp only [sG_ft, sPick_f, sGW_ftN]
  exact hK _ _ _ _ _ H1 (frz_fixd rfl) (by rw [bim, c]; rfl)
 | true =>
  simp only [sG_tt, sGW_ttN]
  rw [H1.loadN (k := 0) (n := 2) rfl rfl]
  refine pow145 hs hf _ _ _ _ ?_
  rintro _ rfl _
  simp only [sPick_t]
  exact hK _ _ _ _ _ H1 (frz_fixd rfl) (by rw [bim, c, Bool.true_and])
noncomputable def ktab : List AV := [.str kNorm, .fn 220 (.of 220) [], .str (kindS 0), .fn 221 (.of 221) [], .str (kindS 1), .fn 222 (.of 222) [], .str (kindS 2), .fn 223 (.of 223) [], .str kAssoc, .fn 224 (.of 224) [], .str kPerf, .fn 225 (.of 225) [], .str kBord, .fn 226 (.of 226) [], .str kBim, .fn 227 (.of 227) []]
theorem kinds141 {h0 h : T Blk} {nx p : Pa} {L : List Ob} {K : Kw Prop} (H : Hp h0 h nx L) (hK : ∀ ka h' nx', Hp h0 h' nx' (.arr ka ktab :: L) → K (.sl ka 0 8 (some 8) 2) h' nx' = .ok True) : (CS Tryz.prog B).fn 141 p [] h nx K = .ok True := by
 refine CS_fn_mono (p := .of 141) (K := K) (by_body tbl_ok dreg 9 fun _ => ?_) fun _ _ _ _ q => q
 rw [F141.go]
 have sb : ∀ (s : List UInt8) (g : Nat) (p : Pa) (K : AV → OP), sBuild [(.str []), .nilf] [(0, 1, .str s), (1, 1, .fn g p [])] K = K (.agg [.str s, .fn g p []]) := fun s g p K => nr rfl
 simp only [sb]
 exact H.bslice (l := ktab) rfl hK
def sqErr (r c : Int) (f : List Int) : Int := if r ≠ c ∨ r < 0 ∨ 1000 < r ∨ (f.length : Int) ≠ r * r then 2 else if r < 1 ∨ 16 < r then 3 else if f.any farL then 3 else 0
theorem far_sq {r : Int} (h0 : 0 ≤ r) (h : r ≤ 1000) : 0 ≤ r * r ∧ r * r ≤ 1000000 := ⟨Int.mul_nonneg h0 h0, Int.le_trans (Int.mul_le_mul h h h0 (by omega)) (by omega)⟩
theorem refSq50 {r c : Int} {f : List Int} : Pure Tryz.prog B 50 [.agg [I r, I c, encI f]] (· = I (sqErr r c f)) := by
 refine pure_hp fun h nx K H0 hK => by_body tbl_ok dreg 100 fun hf' => ?_
 rw [F50.go, F50.t15_s, F50.t0_s]
 refine H0.box (l := [I r, I c, encI f]) rfl fun bx h1 nx1 H1 => ?_
 have l0 : ∀ op : AV → OP, sLoad (.ptr bx 0) h1 op = op (I r) := fun op => H1.load (k := 0) (i := 0) rfl rfl
 have l00 : ∀ op : AV → OP, sLoad (.ptr bx (0 + 0)) h1 op = op (I r) := l0
 have l1 : ∀ op : AV → OP, sLoad (.ptr bx (0 + 1)) h1 op = op (I c) := fun op => H1.load (k := 0) (i := 0 + 1) rfl rfl
 have l2 : ∀ op : AV → OP, sLoad (.ptr bx (0 + 2)) h1 op = op (encI f) := fun op => H1.load (k := 0) (i := 0 + 2) rfl rfl
 have end1 : ∀ x : Int, sqErr r c f = x → K (I x) h1 nx1 = .ok True := fun x hx => hK _ _ _ _ _ H1 (frz_fixd rfl) (by rw [hx])
 rw [F50.t14_s, F50.t5_s, F50.t1_s, F50.r1_0_s]
 have two : ∀ x4 x5 x6 x7 x8 x9 x10 : AV, True := fun _ _ _ _ _ _ _ => trivial
 by_cases c1 : r = c
 case neg =>
  have e : sqErr r c f = 2 := by rw [sqErr, if_pos (.inl c1)]
  simp only [sFx, l0, l00, l1, sNeq, c1, decide_false, Bool.not_false, sG_tf, sG_un, sPick_t, sPick_f, F50.r1_1_s, F50.r1_2_s, F50.r1_3_s]
  rw [F50.t4_s, sCond_t, F50.t3_s, F50.t2_s, srun_ret, fnO_rt, F50.ret]
  exact end1 2 e
 subst c1
 by_cases c2 : r < 0
 ·have e : sqErr r r f = 2 := by rw [sqErr, if_pos (.inr (.inl c2))]
  simp only [sFx, l0, l00, l1, sNeq, decide_true, Bool.not_true, sG_ff, sG_tf, sG_un, sPick_t, sPick_f, F50.r1_1_s, F50.r1_2_s, F50.r1_3_s, sLss, c2]
  rw [F50.t4_s, sCond_t, F50.t3_s, F50.t2_s, srun_ret, fnO_rt, F50.ret]
  exact end1 2 e
 by_cases c3 : r ≤ 1000
 case neg =>
  have e : sqErr r r f = 2 := by rw [sqErr, if_pos (.inr (.inr (.inl (by omega))))]
  simp only [sFx, l0, l00, l1, sNeq, decide_true, decide_false, Bool.not_true, sG_ff, sG_tf, sG_ft, sG_un, sPick_t, sPick_f, F50.r1_1_s, F50.r1_2_s, F50.r1_3_s, sLss, c2, sLeq, c3, sGtr, show 1000 < r by omega]
  rw [F50.t4_s, sCond_t, F50.t3_s, F50.t2_s, srun_ret, fnO_rt, F50.ret]
  exact end1 2 e
 have hsq := far_sq (r := r) (by omega) c3
 have mul : ∀ K : AV → OP, sBin .mul .int (I r) (I r) K = K (I (r * r)) := fun K => sMul (by omega)
 by_cases c4 : (f.length : Int) = r * r
 case neg =>
  have e : sqErr r r f = 2 := by rw [sqErr, if_pos (.inr (.inr (.inr c4)))]
  simp only [sFx, l0, l00, l1, l2, sNeq, decide_true, decide_false, Bool.not_true, Bool.not_false, sG_ff, sG_tf, sG_tt, sG_un, sPick_t, sPick_f, F50.r1_1_s, F50.r1_2_s, F50.r1_3_s, sLss, c2, sLeq, c3, sGtr, sLen_lst, mul, c4]
  rw [F50.t4_s, sCond_t, F50.t3_s, F50.t2_s, srun_ret, fnO_rt, F50.ret]
  exact end1 2 e
 have e0 : sqErr r r f = if r < 1 ∨ 16 < r then 3 else if f.any farL then 3 else 0 := by rw [sqErr, if_neg (by omega)]
 simp only [sFx, l0, l00, l1, l2, sNeq, decide_true, decide_false, Bool.not_true, Bool.not_false, sG_ff, sG_tf, sG_tt, sG_un, sPick_t, sPick_f, F50.r1_1_s, F50.r1_2_s, F50.r1_3_s, sLss, c2, sLeq, c3, sGtr, sLen_lst, mul, c4, show ¬ 1000 < r by omega]
 rw [F50.t4_s, sCond_f, srun_skip, F50.t13_s, F50.t10_s, F50.t6_s]
 by_cases c5 : r < 1
 ·simp only [sFx, l0, l00, sLss, c5, decide_true, sG_tf, sG_un, sPick_t, sPick_f]
  rw [F50.t9_s, sCond_t, F50.t8_s, F50.t7_s, srun_ret, fnO_rt, F50.ret]
  exact end1 3 (by rw [e0, if_pos (.inl c5)])
 by_cases c6 : 16 < r
 ·simp only [sFx, l0, l00, sLss, c5, decide_false, sG_ff, sGtr, c6, decide_true, sPick_f]
  rw [F50.t9_s, sCond_t, F50.t8_s, F50.t7_s, srun_ret, fnO_rt, F50.ret]
  exact end1 3 (by rw [e0, if_pos (.inr c6)])
 simp only [sFx, l0, l00, sLss, c5, decide_false, sG_ff, sGtr, c6, sPick_f]
 rw [F50.t9_s, sCond_f, srun_skip, F50.t12_s, F50.t11_s]
 simp only [sFx]
 rw [l2]
 have hsm : r * r ≤ 16 * 16 := Int.mul_le_mul (by omega) (by omega) (by omega) (by omega)
 refine numbers102 (by omega) _ _ _ _ ?_
 rintro _ rfl _
 rw [srun_ret, fnO_rt, F50.ret]
 exact end1 _ (by rw [e0, if_neg (by omega)])
theorem checkSq140 {r c : Int} {f : List Int} (hl : f.length ≤ 300) : Pure Tryz.prog B 140 [.agg [I r, I c, encI f]] (· = I (sqErr r c f)) := by
 refine pure_hp fun h nx K H0 hK => by_body tbl_ok dreg 100 fun hf' => ?_
 rw [F140.go, F140.t9_s, F140.t0_s]
 refine H0.box (l := [I r, I c, encI f]) rfl fun bx h1 nx1 H1 => ?_
 have l0 : ∀ op : AV → OP, sLoad (.ptr bx 0) h1 op = op (I r) := fun op => H1.load (k := 0) (i := 0) rfl rfl
 have l00 : ∀ op : AV → OP, sLoad (.ptr bx (0 + 0)) h1 op = op (I r) := l0
 have l1 : ∀ op : AV → OP, sLoad (.ptr bx (0 + 1)) h1 op = op (I c) := fun op => H1.load (k := 0) (i := 0 + 1) rfl rfl
 have l2 : ∀ op : AV → OP, sLoad (.ptr bx (0 + 2)) h1 op = op (encI f) := fun op => H1.load (k := 0) (i := 0 + 2) rfl rfl
 have end1 : ∀ x : Int, sqErr r c f = x → K (I x) h1 nx1 = .ok True := fun x hx => hK _ _ _ _ _ H1 (frz_fixd rfl) (by rw [hx])
 rw [F140.t8_s, F140.t5_s, F140.t1_s, F140.r1_0_s]
 by_cases c1 : r = c
 case neg =>
  have e : sqErr r c f = 2 := by rw [sqErr, if_pos (.inl c1)]
  simp only [sFx, l0, l00, l1, sNeq, c1, decide_false, Bool.not_false, sG_tf, sG_un, sPick_t, sPick_f, F140.r1_1_s, F140.r1_2_s, F140.r1_3_s]
  rw [F140.t4_s, sCond_t, F140.t3_s, F140.t2_s, srun_ret, fnO_rt, F140.ret]
  exact end1 2 e
 subst c1
 by_cases c2 : r < 0
 ·have e : sqErr r r f = 2 := by rw [sqErr, if_pos (.inr (.inl c2))]
  simp only [sFx, l0, l00, l1, sNeq, decide_true, Bool.not_true, sG_ff, sG_tf, sG_un, sPick_t, sPick_f, F140.r1_1_s, F140.r1_2_s, F140.r1_3_s, sLss, c2]
  rw [F140.t4_s, sCond_t, F140.t3_s, F140.t2_s, srun_ret, fnO_rt, F140.ret]
  exact end1 2 e
 by_cases c3 : 1048576 < r
 ·have e : sqErr r r f = 2 := by rw [sqErr, if_pos (.inr (.inr (.inl (by omega))))]
  simp only [sFx, l0, l00, l1, sNeq, decide_true, decide_false, Bool.not_true, sG_ff, sG_tf, sG_ft, sG_un, sPick_t, sPick_f, F140.r1_1_s, F140.r1_2_s, F140.r1_3_s, sLss, c2, c3, sGtr]
  rw [F140.t4_s, sCond_t, F140.t3_s, F140.t2_s, srun_ret, fnO_rt, F140.ret]
  exact end1 2 e
 have hsq : 0 ≤ r * r ∧ r * r ≤ 1048576 * 1048576 := ⟨Int.mul_nonneg (by omega) (by omega), Int.mul_le_mul (by omega) (by omega) (by omega) (by omega)⟩
 have mul : ∀ K : AV → OP, sBin .mul .int (I r) (I r) K = K (I (r * r)) := fun K => sMul (by omega)
 by_cases c4 : (f.length : Int) = r * r
 case neg =>
  have e : sqErr r r f = 2 := by rw [sqErr, if_pos (.inr (.inr (.inr c4)))]
  simp only [sFx, l0, l00, l1, l2, sNeq, decide_true, decide_false, Bool.not_true, Bool.not_false, sG_ff, sG_tf, sG_tt, sG_un, sPick_t, sPick_f, F140.r1_1_s, F140.r1_2_s, F140.r1_3_s, sLss, c2, c3, sGtr, sLen_lst, mul, c4]
  rw [F140.t4_s, sCond_t, F140.t3_s, F140.t2_s, srun_ret, fnO_rt, F140.ret]
  exact end1 2 e
 have hr1 : r ≤ 1000 := by
  by_cases q : r ≤ 1000
  ·exact q
  ·have : 1001 * 1001 ≤ r * r := Int.mul_le_mul (by omega) (by omega) (by omega) (by omega)
   omega
 have e0 : sqErr r r f = if r < 1 ∨ 16 < r then 3 else if f.any farL then 3 else 0 := by rw [sqErr, if_neg (by omega)]
 simp only [sFx, l0, l00, l1, l2, sNeq, decide_true, decide_false, Bool.not_true, Bool.not_false, sG_ff, sG_tf, sG_tt, sG_un, sPick_t, sPick_f, F140.r1_1_s, F140.r1_2_s, F140.r1_3_s, sLss, c2, c3, sGtr, sLen_lst, mul, c4]
 rw [F140.t4_s, sCond_f, srun_skip, F140.t7_s, F140.t6_s]
 simp only [sFx, l00, l2]
 refine H1.bslice (l := [I r]) rfl fun b h2 nx2 H2 => ?_
 have m2 : ∀ op : AV → OP, sLoad (.ptr bx (0 + 2)) h2 op = op (encI f) := fun op => H2.load (k := 1) (i := 0 + 2) rfl rfl
 simp only [m2, sSame_refl]
 refine from87 (l := [r]) rfl (by simp) H2 (k := 0) rfl ?_
 simp only [m2, sSame_refl]
 refine numbers183 (by omega) _ _ _ _ ?_
 rintro _ rfl _
 refine H2.bslice (l := [I (rngE 1 16 [r]), I (if f.any farL = true then 3 else 0)]) rfl fun b h3 nx3 H3 => ?_
 refine own_plain (l := [rngE 1 16 [r], if f.any farL = true then 3 else 0]) H3 (k := 0) rfl (fun B => first121 (by simp)) (fun v hv => by rw [hv]; exact .int _ _) ?_
 rintro _ rfl
 rw [srun_ret, fnO_rt, F140.ret]
 refine hK _ _ _ _ _ H3 (frz_fixd rfl) ?_
 rw [e0, rng1]
 by_cases c5 : r < 1 ∨ 16 < r
 ·simp [firstE, c5]
 ·simp only [firstE, c5, if_false, ne_eq, not_true_eq_false]
  by_cases c6 : f.any farL = true <;> simp [c6]
end Go.Ev
namespace Go.Ev
open Go Go.Proofs
variable {B : Nat}
set_option maxRecDepth 100000
abbrev encS (l : List (List UInt8)) : AV := .lst 1 l.length (l.map .str)
theorem round_ok {n : Nat} {f : List Int} (hj : ∀ B, JOk Tryz.prog B hookS) (hs : ∀ m, 1 ≤ m → m ≤ n → SqOk m) (hn : 1 ≤ n ∧ n ≤ 8) (hf : FillOk n f) : ∀ i, i < 8 → ∃ g nm, kfn[i]? = some g ∧ knm[i]? = some nm ∧ (ktab.drop (i * 2)).take 2 = [.str nm, .fn g (.of g) []] ∧ Pure Tryz.prog B g [.agg [I (n : Int), encI f]] (· = .bool ((prs n f).getD i false)) := by
 have hsn := hs n hn.1 (Nat.le_refl _)
 have hlen : f.length ≤ 64 := by rw [hf.len]; exact Nat.mul_le_mul hn.2 hn.2
 intro i hi
 match i, hi with
 | 0, _ => exact ⟨220, kNorm, rfl, rfl, rfl, nrm220 hj (by omega)⟩
 | 1, _ => exact ⟨221, kindS 0, rfl, rfl, rfl, k221 hsn hf⟩
 | 2, _ => exact ⟨222, kindS 1, rfl, rfl, rfl, k222 hsn hf⟩
 | 3, _ => exact ⟨223, kindS 2, rfl, rfl, rfl, k223 hsn hf⟩
 | 4, _ => exact ⟨224, kAssoc, rfl, rfl, rfl, asc224 hsn hf⟩
 | 5, _ => exact ⟨225, kPerf, rfl, rfl, rfl, mper225 hsn hf⟩
 | 6, _ => exact ⟨226, kBord, rfl, rfl, rfl, bord226 hs hn hf⟩
 | 7, _ => exact ⟨227, kBim, rfl, rfl, rfl, bim227 hsn hf⟩
theorem kf_next {n : Nat} {f : List Int} {i : Nat} (hi : i < 8) {nm : List UInt8} (h : knm[i]? = some nm) : kf (knm.take (i + 1)) ((prs n f).take (i + 1)) = kf (knm.take i) ((prs n f).take i) ++ if (prs n f).getD i false then [nm] else [] := by
 have hl : (prs n f).length = 8 := rfl
 have hb : (prs n f)[i]? = some ((prs n f).getD i false) := by rw [List.getD_eq_getElem?_getD, List.getElem?_eq_getElem (by omega)]; rfl
 rw [List.take_add_one, List.take_add_one, h, hb, Option.toList_some, Option.toList_some, kf_snoc]
 rw [List.length_take, List.length_take, hl]; rfl
theorem kinds51 {r : Int} {f : List Int} (hj : ∀ B, JOk Tryz.prog B hookS) (hs : ∀ m : Nat, 1 ≤ m → (m : Int) ≤ r → SqOk m) (hr : r ≤ 8) (hl : f.length ≤ 300) (he : sqErr r r f = 0) : Pure Tryz.prog B 51 [.agg [I r, I r, encI f]] (· = .tup [encS (kinR r.toNat f), I 0]) := by
  obtain ⟨hr1, hlen, hfar⟩ : 1 ≤ r ∧ (f.length : Int) = r * r ∧ f.any farL = false := by
    unfold sqErr at he
    by_cases c1 : r ≠ r ∨ r < 0 ∨ 1000 < r ∨ (f.length : Int) ≠ r * r
    · rw [if_pos c1] at he; cases he
    · rw [if_neg c1] at he
      by_cases c2 : r < 1 ∨ 16 < r
      · rw [if_pos c2] at he; cases he
      · rw [if_neg c2] at he
        cases c3 : f.any farL with
        | true => rw [c3] at he; cases he
        | false => exact ⟨by omega, by omega, rfl⟩
  obtain ⟨n, rfl⟩ : ∃ n : Nat, r = (n : Int) := ⟨r.toNat, by omega⟩
  rw [Int.toNat_natCast]
  have hf : FillOk n f := by
    refine ⟨by have : ((f.length : Nat) : Int) = ((n * n : Nat) : Int) := by rw [hlen]; simp
               omega, fun x hx => ?_⟩
    have := List.any_eq_false.1 hfar x hx
    simp only [farL, Bool.or_eq_true, decide_eq_true_eq] at this
    omega
  have hpos : 0 < f.length := by rw [hf.len]; exact Nat.mul_le_mul (show 1 ≤ n by omega) (show 1 ≤ n by omega)
  have hlen64 : f.length ≤ 64 := by rw [hf.len]; exact Nat.mul_le_mul (show n ≤ 8 by omega) (show n ≤ 8 by omega)
  refine pure_hp fun h nx K H0 hK => by_body tbl_ok dreg 100 fun hf' => ?_
  rw [F51.go]
  refine H0.box (l := [I (n : Int), I (n : Int), encI f]) rfl fun bx h1 nx1 H1 => ?_
  rw [H1.loadN (k := 0) (n := 3) rfl rfl]
  refine checkSq140 hl _ _ _ _ ?_
  rintro _ rfl _
  rw [he]
  simp only [sNeq, decide_true, Bool.not_true, sCond_f]
  refine kinds141 H1 fun ka h2 nx2 H2 => ?_
  simp only [sLen_sl]
  refine F51.L2 (fun m x5 x10 h' nx' => ∃ (i : Nat) (o : Option Pa), x10 = I i ∧ x5 = rowV o 1 (kf (knm.take i) ((prs n f).take i)).length ∧ 8 - i = m ∧ i ≤ 8 ∧ Hp h h' nx' [.gro o 1 (kf (knm.take i) ((prs n f).take i)).length ((kf (knm.take i) ((prs n f).take i)).map .str), .arr ka ktab, .arr bx [I (n : Int), I (n : Int), encI f]]) (m := 8) (by omega) ⟨0, none, rfl, rfl, rfl, by omega, H2.addGro 1⟩ ?_
  rintro m z5 z6 z10 z11 z12 h3 nx3 R ⟨i, o, rfl, rfl, rfl, hi, H3⟩ hR
  have e8 : (I ((8 : Nat) : Int)) = I 8 := rfl
  simp only [sLss]
  by_cases hlt : i < 8
  case neg =>
    simp only [show ¬ (i : Int) < ((8 : Nat) : Int) by omega, decide_false, sCond_f]
    obtain rfl : i = 8 := by omega
    rw [F51.k9]
    refine hK _ _ _ _ _ H3 (frz_tup2 (H3.frzGro (k := 0) rfl (fixdS _)) (frz_fixd rfl)) rfl
  simp only [show (i : Int) < ((8 : Nat) : Int) by omega, decide_true, sCond_t]
  obtain ⟨g, nm, q1, q2, q3, q4⟩ := round_ok (B := B) hj (fun m h1 h2 => hs m h1 (by omega)) (by omega) hf i hlt
  have hnext := kf_next (n := n) (f := f) hlt q2
  have hkl := kf_len (knm.take i) ((prs n f).take i)
  rw [List.length_take, show knm.length = 8 from rfl] at hkl
  rw [sIaddr_sl hlt, Nat.zero_add, H3.loadNO (k := 1) rfl (by show _ ≤ 16; omega) q3]
  refine H3.alloc fun rb h4 nx4 H4 => ?_
  refine H4.storeN (l2 := [.str nm, .fn g (.of g) []]) (k := 0) rfl rfl rfl fun h5 H5 => ?_
  simp only [sFx]
  have l1 : ∀ op : AV → OP, sLoad (.ptr rb (0 + 1)) h5 op = op (.fn g (.of g) []) := fun op => H5.load (k := 0) (i := 0 + 1) rfl rfl
  have l2 : ∀ op : AV → OP, sLoad (.ptr bx (0 + 0)) h5 op = op (I (n : Int)) := fun op => H5.load (k := 3) (i := 0) rfl rfl
  have l3 : ∀ op : AV → OP, sLoad (.ptr bx (0 + 2)) h5 op = op (encI f) := fun op => H5.load (k := 3) (i := 0 + 2) rfl rfl
  simp only [l1, l2, l3]
  refine clone142 f (by omega) hpos _ _ _ _ ?_
  rintro _ rfl _
  simp only [l1, l2, l3, sSame_refl]
  rw [show ∀ K : AV → OP, sBuild [(I 0), .nils] [(0, 1, I (n : Int)), (1, 1, encI f)] K = K (.agg [I (n : Int), encI f]) from fun K => sBuild2s rfl, sCall_fn]
  refine q4 _ _ _ _ ?_
  rintro _ rfl _
  cases c : (prs n f).getD i false with
  | false =>
    rw [sCond_f, sAdd (by omega)]
    rw [c, if_neg (by simp), List.append_nil] at hnext
    exact hR _ _ _ _ _ _ _ _ (by omega) ⟨i + 1, o, rfl, by rw [hnext], rfl, by omega, by rw [hnext]; exact H5.drop⟩
  | true =>
    rw [sCond_t, H5.load (k := 0) (i := 0) rfl rfl]
    rw [c, if_pos rfl] at hnext
    refine H5.bslice (l := [.str nm]) rfl fun tb h6 nx6 H6 => ?_
    refine H6.appN (k := 2) (o := o) (c := 1) (new := [.str nm]) rfl (HasArr.rd (l := [.str nm]) (n := 1) (H6.own _ (List.mem_cons_self ..)) rfl) rfl rfl (by decide) (by decide) (by omega) fun o' h7 nx7 _ H7 => ?_
    rw [sAdd (by omega)]
    refine hR _ _ _ _ _ _ _ _ (by omega) ⟨i + 1, o', rfl, by rw [hnext, List.length_append]; rfl, rfl, by omega, ?_⟩
    rw [hnext, List.length_append, List.map_append]
    exact H7.drop.drop
theorem getS {l : List (List UInt8)} {i : Nat} (h : i < l.length) : (l.map AV.str)[i]? = some (.str l[i]) := by rw [List.getElem?_map, List.getElem?_eq_getElem h]; rfl
theorem has54 {l : List (List UInt8)} {s : List UInt8} (hl : l.length ≤ 1000) : Pure Tryz.prog B 54 [encS l, .str s] (· = .bool (decide (s ∈ l))) := by
 intro p h nx K hK
 refine by_body tbl_ok dreg 10000 fun hf => ?_
 rw [F54.go]
 simp only [sLen_lst]
 refine F54.L1 (fun m x6 h' nx' => ∃ i : Nat, x6 = I i ∧ l.length - i = m ∧ i ≤ l.length ∧ h' = h ∧ nx' = nx ∧ s ∉ l.take i) (m := l.length) (by omega) ⟨0, rfl, rfl, by omega, rfl, rfl, by simp⟩ ?_
 rintro m z2 z3 z6 z7 z8 h nx R ⟨i, rfl, rfl, hi, rfl, rfl, hn⟩ hR
 simp only [sLss]
 by_cases hlt : i < l.length
 case neg =>
  simp only [show ¬ (i : Int) < (l.length : Int) by omega, decide_false, sCond_f]
  rw [F54.k8]
  rw [List.take_of_length_le (by omega)] at hn
  exact hK _ (by rw [decide_eq_false hn]) hf
 simp only [show (i : Int) < (l.length : Int) by omega, decide_true, sCond_t]
 rw [sIxL rfl hlt, ldL (getS hlt), sEqlS]
 by_cases c : l[i] = s
 ·simp only [c, decide_true, sCond_t]
  exact hK _ (by rw [decide_eq_true (by rw [← c]; exact List.getElem_mem hlt)]) hf
 ·simp only [c, decide_false, sCond_f]
  rw [sAdd (by omega)]
  refine hR _ _ _ _ _ _ _ _ (by omega) ⟨i + 1, rfl, rfl, by omega, rfl, rfl, ?_⟩
  rw [List.take_add_one, List.getElem?_eq_getElem hlt, Option.toList_some, List.mem_append, List.mem_singleton]
  exact fun q => q.elim hn fun e => c e.symm
theorem texts53 {a b : List (List UInt8)} (ha : a.length ≤ 1000) : Pure Tryz.prog B 53 [encS a, encS b] (· = .bool (decide (a = b))) := by
 intro p h nx K hK
 refine by_body tbl_ok dreg 10000 fun hf => ?_
 rw [F53.go]
 simp only [sLen_lst, sNeq]
 by_cases hl : a.length = b.length
 case neg =>
  simp only [show ¬ (a.length : Int) = (b.length : Int) by omega, decide_false, Bool.not_false, sCond_t]
  exact hK _ (by rw [decide_eq_false (fun e => hl (by rw [e]))]) hf
 simp only [show (a.length : Int) = (b.length : Int) by omega, decide_true, Bool.not_true, sCond_f]
 refine F53.L2 (fun m x6 h' nx' => ∃ i : Nat, x6 = I i ∧ a.length - i = m ∧ i ≤ a.length ∧ h' = h ∧ nx' = nx ∧ a.take i = b.take i) (m := a.length) (by omega) ⟨0, rfl, rfl, by omega, rfl, rfl, by simp⟩ ?_
 rintro m z2 z3 z6 z7 z8 h nx R ⟨i, rfl, rfl, hi, rfl, rfl, ht⟩ hR
 simp only [sLss]
 by_cases hlt : i < a.length
 case neg =>
  simp only [show ¬ (i : Int) < (b.length : Int) by omega, decide_false, sCond_f]
  rw [F53.k9]
  rw [List.take_of_length_le (by omega), List.take_of_length_le (by omega)] at ht
  exact hK _ (by rw [decide_eq_true ht]) hf
 have hb : i < b.length := by omega
 simp only [show (i : Int) < (b.length : Int) by omega, decide_true, sCond_t]
 rw [sIxL rfl hlt, ldL (getS hlt), sIxL rfl hb, ldL (getS hb), sNeqS]
 by_cases c : a[i] = b[i]
 ·simp only [c, decide_true, Bool.not_true, sCond_f]
  rw [sAdd (by omega)]
  refine hR _ _ _ _ _ _ _ _ (by omega) ⟨i + 1, rfl, rfl, by omega, rfl, rfl, ?_⟩
  rw [List.take_add_one, List.take_add_one, ht, List.getElem?_eq_getElem hlt, List.getElem?_eq_getElem hb, c]
 ·simp only [c, decide_false, Bool.not_false, sCond_t]
  refine hK _ ?_ hf
  rw [decide_eq_false]
  rintro rfl; exact c rfl
def butN (l : List (List UInt8)) : List (List UInt8) := l.filter fun s => !decide (s = kNorm)
theorem butN_next {l : List (List UInt8)} {i : Nat} (h : i < l.length) : butN (l.take (i + 1)) = butN (l.take i) ++ if l[i] = kNorm then [] else [l[i]] := by
 rw [butN, List.take_add_one, List.getElem?_eq_getElem h, Option.toList_some, List.filter_append]
 by_cases c : l[i] = kNorm
 ·rw [if_pos c, c]; rfl
 ·rw [if_neg c, List.filter_cons, if_pos (by simp [c])]; rfl
theorem but52 {l : List (List UInt8)} (hl : l.length ≤ 1000) : Pure Tryz.prog B 52 [encS l] (· = encS (butN l)) := by
 refine pure_hp fun h nx K H0 hK => by_body tbl_ok dreg 10000 fun hf' => ?_
 rw [F52.go]
 simp only [sLen_lst]
 refine F52.L1 (fun m x2 x6 h' nx' => ∃ (i : Nat) (o : Option Pa), x6 = I i ∧ x2 = rowV o 1 (butN (l.take i)).length ∧ l.length - i = m ∧ i ≤ l.length ∧ Hp h h' nx' [.gro o 1 (butN (l.take i)).length ((butN (l.take i)).map .str)]) (m := l.length) (by omega) ⟨0, none, rfl, rfl, rfl, by omega, H0.addGro 1⟩ ?_
 rintro m z2 z3 z6 z7 z8 h1 nx1 R ⟨i, o, rfl, rfl, rfl, hi, H1⟩ hR
 simp only [sLss]
 by_cases hlt : i < l.length
 case neg =>
  simp only [show ¬ (i : Int) < (l.length : Int) by omega, decide_false, sCond_f]
  rw [F52.k8]
  rw [List.take_of_length_le (by omega)] at H1 ⊢
  exact hK _ _ _ _ _ H1 (H1.frzGro (k := 0) rfl (fixdS _)) rfl
 simp only [show (i : Int) < (l.length : Int) by omega, decide_true, sCond_t]
 have hnext := butN_next hlt
 have hkl : (butN (l.take i)).length ≤ i := by
  have := List.length_filter_le (fun s => !decide (s = kNorm)) (l.take i)
  rw [List.length_take] at this
  exact Nat.le_trans this (Nat.min_le_left ..)
 rw [sIxL rfl hlt, ldL (getS hlt), show ([110, 111, 114, 109, 97, 108] : List UInt8) = kNorm from rfl, sNeqS]
 by_cases c : l[i] = kNorm
 ·simp only [c, decide_true, Bool.not_true, sCond_f]
  rw [sAdd (by omega)]
  rw [if_pos c, List.append_nil] at hnext
  exact hR _ _ _ _ _ _ _ _ (by omega) ⟨i + 1, o, rfl, by rw [hnext], rfl, by omega, by rw [hnext]; exact H1⟩
 ·simp only [c, decide_false, Bool.not_false, sCond_t]
  rw [if_neg c] at hnext
  refine H1.bslice (l := [.str l[i]]) rfl fun tb h6 nx6 H6 => ?_
  refine H6.appN (k := 1) (o := o) (c := 1) (new := [.str l[i]]) rfl (HasArr.rd (l := [.str l[i]]) (n := 1) (H6.own _ (List.mem_cons_self ..)) rfl) rfl rfl (by decide) (by decide) (by simp; omega) fun o' h7 nx7 _ H7 => ?_
  rw [sAdd (by omega)]
  refine hR _ _ _ _ _ _ _ _ (by omega) ⟨i + 1, o', rfl, by rw [hnext, List.length_append]; rfl, rfl, by omega, ?_⟩
  rw [hnext, List.length_append, List.map_append]
  exact H7.drop
end Go.Ev
namespace Go.Ev
set_option maxRecDepth 100000
def Cst (L : List (List Int)) (f : List Int) : Prop := ∀ l ∈ L, ∀ l' ∈ L, lineS l f = lineS l' f
theorem difA_neg {a : Int} : ∀ {S : List Int} {k : Nat}, difA a S k < 0 ↔ ∀ s ∈ S, s = a
 | [], k => by simp [difA]
 | x :: S, k => by
  by_cases c : x = a
  ·rw [difA, if_pos c, difA_neg (S := S)]
   simp [c]
  ·rw [difA, if_neg c]
   constructor
   ·intro h; omega
   ·intro h; exact absurd (h x (by simp)) c
theorem diff_cst {L : List (List Int)} {f : List Int} : diffI (sumsL L f) < 0 ↔ Cst L f := by
 rw [diffI, difA_neg]
 constructor
 ·intro h l hl l' hl'
  have h1 := h (lineS l f) (List.mem_map_of_mem hl)
  have h2 := h (lineS l' f) (List.mem_map_of_mem hl')
  rw [h1, h2]
 ·intro h s hs
  obtain ⟨l, hl, rfl⟩ := List.mem_map.1 hs
  cases L with
  | nil => simp at hl
  | cons a L => exact h l hl a (by simp)
theorem mg_iff {k n : Nat} {f : List Int} : mg k n f = true ↔ Cst (sqL k n) f := by rw [mg, decide_eq_true_eq, diff_cst]
theorem cst_all {L : List (List Int)} {f : List Int} : (∀ i, i < L.length → lineS (L.getD i []) f = lineS (L.getD 0 []) f) ↔ Cst L f := by
 constructor
 ·intro h l hl l' hl'
  obtain ⟨i, hi⟩ := List.mem_iff_getElem?.1 hl
  obtain ⟨j, hj⟩ := List.mem_iff_getElem?.1 hl'
  have h1 := h i (List.getElem?_eq_some_iff.1 hi).1
  have h2 := h j (List.getElem?_eq_some_iff.1 hj).1
  rw [List.getD_eq_getElem?_getD, hi] at h1
  rw [List.getD_eq_getElem?_getD, hj] at h2
  simp only [Option.getD_some] at h1 h2
  rw [h1, h2]
 ·intro h i hi
  have m : ∀ i, i < L.length → L.getD i [] ∈ L := fun i hi => by
   rw [List.getD_eq_getElem?_getD, List.getElem?_eq_getElem hi]; exact List.getElem_mem hi
  exact h _ (m i hi) _ (m 0 (by omega))
theorem pow2_iff {n : Nat} {f : List Int} : pow2 n f = true ↔ Cst (sqL 1 n) (sqF f) := by rw [pow2, decide_eq_true_eq, cst_all]
theorem lineS_foldl (f : List Int) : ∀ (l : List Int) (a : Int), l.foldl (fun s c => s + f.getD c.toNat 0) a = a + (l.map fun c => f.getD c.toNat 0).sum
 | [], a => by simp
 | c :: l, a => by rw [List.foldl_cons, lineS_foldl f l]; simp; omega
theorem lineS_sum (l f : List Int) : lineS l f = (l.map fun c => f.getD c.toNat 0).sum := by rw [lineS, lineS_foldl]; omega
theorem sum_perm {a b : List Int} (h : a.Perm b) : a.sum = b.sum := by
 induction h with
 | nil => rfl
 | cons x _ ih => simp [ih]
 | swap x y l => simp; omega
 | trans _ _ h1 h2 => rw [h1, h2]
theorem lineS_perm {l l' f : List Int} (h : l.Perm l') : lineS l f = lineS l' f := by rw [lineS_sum, lineS_sum]; exact sum_perm (h.map _)
def pull (N : Nat) (t : Nat → Nat) (f : List Int) : List Int := (List.range N).map fun i => f.getD (t i) 0
theorem pull_len (N : Nat) (t : Nat → Nat) (f : List Int) : (pull N t f).length = N := by simp [pull]
theorem pull_get {N : Nat} {t : Nat → Nat} {f : List Int} {i : Nat} (h : i < N) : (pull N t f).getD i 0 = f.getD (t i) 0 := by
 rw [pull, List.getD_eq_getElem?_getD, List.getElem?_map, List.getElem?_range h]; rfl
def tI (t : Nat → Nat) (c : Int) : Int := (t c.toNat : Int)
def cloB (L : List (List Int)) (N : Nat) (t : Nat → Nat) : Bool := L.all fun l => (l.all fun c => decide (0 ≤ c) && decide (c < (N : Int))) && L.any fun l' => (l.map (tI t)).isPerm l'
theorem lineS_pull {N : Nat} {t : Nat → Nat} {f l : List Int} (h : ∀ c ∈ l, 0 ≤ c ∧ c < (N : Int)) : lineS l (pull N t f) = lineS (l.map (tI t)) f := by
 rw [lineS_sum, lineS_sum, List.map_map]
 congr 1
 refine List.map_congr_left fun c hc => ?_
 have := h c hc
 rw [pull_get (by omega)]
 simp [tI]
theorem cst_pull {L : List (List Int)} {N : Nat} {t : Nat → Nat} {f : List Int} (hc : cloB L N t = true) (h : Cst L f) : Cst L (pull N t f) := by
 have key : ∀ l ∈ L, ∃ l' ∈ L, lineS l (pull N t f) = lineS l' f := by
  intro l hl
  have := List.all_eq_true.1 hc l hl
  simp only [Bool.and_eq_true, List.all_eq_true, decide_eq_true_eq, List.any_eq_true] at this
  obtain ⟨h1, l', hl', h2⟩ := this
  exact ⟨l', hl', by rw [lineS_pull h1]; exact lineS_perm (List.isPerm_iff.1 h2)⟩
 intro l hl l' hl'
 obtain ⟨a, ha, e1⟩ := key l hl
 obtain ⟨b, hb, e2⟩ := key l' hl'
 rw [e1, e2]
 exact h a ha b hb
def invB (N : Nat) (t : Nat → Nat) : Bool := (List.range N).all fun i => decide (t (t i) = i) && decide (t i < N)
theorem pull_pull {N : Nat} {t : Nat → Nat} {f : List Int} (hi : invB N t = true) (hf : f.length = N) : pull N t (pull N t f) = f := by
 apply List.ext_getElem?
 intro i
 by_cases h : i < N
 ·have := List.all_eq_true.1 hi i (List.mem_range.2 h)
  simp only [Bool.and_eq_true, decide_eq_true_eq] at this
  rw [pull, List.getElem?_map, List.getElem?_range h]
  simp only [Option.map_some]
  rw [pull_get this.2, this.1, List.getD_eq_getElem?_getD, List.getElem?_eq_getElem (by omega)]; rfl
 ·rw [List.getElem?_eq_none (by rw [pull_len]; omega), List.getElem?_eq_none (by omega)]
theorem cst_turn {L : List (List Int)} {N : Nat} {t : Nat → Nat} {f : List Int} (hc : cloB L N t = true) (hi : invB N t = true) (hf : f.length = N) : Cst L (pull N t f) ↔ Cst L f :=
 ⟨fun h => by have := cst_pull hc h; rwa [pull_pull hi hf] at this, cst_pull hc⟩
theorem sqF_pull {N : Nat} {t : Nat → Nat} {f : List Int} (hi : invB N t = true) (hf : f.length = N) : sqF (pull N t f) = pull N t (sqF f) := by
 rw [sqF, pull, pull, List.map_map]
 refine List.map_congr_left fun i hi' => ?_
 have := List.all_eq_true.1 hi i hi'
 simp only [Bool.and_eq_true, decide_eq_true_eq] at this
 rw [sqF_get (by omega)]; rfl
def ascL (n : Nat) : List (List Int) := (List.range (n * n)).map fun (i : Nat) => [(i : Int), ((n * n - 1 - i : Nat) : Int)]
def cellI (n r c : Nat) : Int := ((r % n * n + c % n : Nat) : Int)
theorem cellI_nat (n r c : Nat) : (cellI n r c).toNat = r % n * n + c % n := Int.toNat_natCast _
def blkL (n : Nat) : List (List Int) := (List.range (n * n)).map fun (i : Nat) => [cellI n (i / n) (i % n), cellI n (i / n) (i % n + 1), cellI n (i / n + 1) (i % n), cellI n (i / n + 1) (i % n + 1)]
def halL (n : Nat) : List (List Int) := (List.range (n * n)).map fun (i : Nat) => [cellI n (i / n) (i % n), cellI n (i / n + n / 2) (i % n + n / 2)]
theorem getD_map {N : Nat} {g : Nat → List Int} {i : Nat} (h : i < N) : ((List.range N).map g).getD i [] = g i := by
 rw [List.getD_eq_getElem?_getD, List.getElem?_map, List.getElem?_range h]; rfl
theorem lineS2 {a b : Int} {f : List Int} : lineS [a, b] f = f.getD a.toNat 0 + f.getD b.toNat 0 := by simp [lineS]
theorem lineS4 {a b c d : Int} {f : List Int} : lineS [a, b, c, d] f = f.getD a.toNat 0 + f.getD b.toNat 0 + f.getD c.toNat 0 + f.getD d.toNat 0 := by simp [lineS]
theorem asc_iff {n : Nat} {f : List Int} (hf : f.length = n * n) (hn : 0 < n) : asc n f = true ↔ Cst (sqL 1 n) f ∧ Cst (ascL n) f := by
 rw [asc, Bool.and_eq_true, mg_iff, decide_eq_true_eq, ← cst_all (L := ascL n)]
 have hl : (ascL n).length = n * n := by simp [ascL]
 have hp : 0 < n * n := Nat.mul_pos hn hn
 have e : ∀ i, i < n * n → lineS ((ascL n).getD i []) f = f.getD i 0 + f.getD (n * n - 1 - i) 0 := fun i hi => by
  rw [ascL, getD_map hi, lineS2]; simp
 rw [hf, hl]
 constructor
 ·rintro ⟨h1, h2⟩
  exact ⟨h1, fun i hi => by rw [e i hi, e 0 hp]; exact h2 i hi⟩
 ·rintro ⟨h1, h2⟩
  exact ⟨h1, fun i hi => by rw [← e i hi, ← e 0 hp]; exact h2 i hi⟩
theorem mper_iff {n : Nat} {f : List Int} (hf : f.length = n * n) (hn : 0 < n) : mper n f = true ↔ ¬ n % 2 = 1 ∧ Cst (sqL 2 n) f ∧ Cst (blkL n) f ∧ Cst (halL n) f := by
 rw [mper, Bool.and_eq_true, Bool.and_eq_true, Bool.and_eq_true, mg_iff, decide_eq_true_eq, decide_eq_true_eq, ← cst_all (L := blkL n), ← cst_all (L := halL n), Bool.not_eq_true', decide_eq_false_iff_not]
 have h1 : (blkL n).length = n * n := by simp [blkL]
 have h2 : (halL n).length = n * n := by simp [halL]
 have hp : 0 < n * n := Nat.mul_pos hn hn
 have e1 : ∀ i, i < n * n → lineS ((blkL n).getD i []) f = blkN n f i := fun i hi => by
  rw [blkL, getD_map hi, lineS4, cellI_nat, cellI_nat, cellI_nat, cellI_nat]; rfl
 have e2 : ∀ i, i < n * n → lineS ((halL n).getD i []) f = halN n f i := fun i hi => by
  rw [halL, getD_map hi, lineS2, cellI_nat, cellI_nat]; rfl
 rw [hf, h1, h2]
 constructor
 ·rintro ⟨q1, q2, q3, q4⟩
  exact ⟨q1, q2, fun i hi => by rw [e1 i hi, e1 0 hp]; exact q3 i hi, fun i hi => by rw [e2 i hi, e2 0 hp]; exact q4 i hi⟩
 ·rintro ⟨q1, q2, q3, q4⟩
  exact ⟨q1, q2, fun i hi => by rw [← e1 i hi, ← e1 0 hp]; exact q3 i hi, fun i hi => by rw [← e2 i hi, ← e2 0 hp]; exact q4 i hi⟩
end Go.Ev
namespace Go.Ev
set_option maxRecDepth 100000
theorem pull_comp {M N : Nat} {s t : Nat → Nat} {f : List Int} (h : ∀ j, j < M → s j < N) : pull M s (pull N t f) = pull M (fun j => t (s j)) f := by
 rw [pull, pull]
 refine List.map_congr_left fun j hj => ?_
 show (pull N t f).getD (s j) 0 = _
 rw [pull_get (h j (List.mem_range.1 hj))]
theorem pull_congr {M : Nat} {s t : Nat → Nat} {f : List Int} (h : ∀ j, j < M → s j = t j) : pull M s f = pull M t f := by
 rw [pull, pull]
 exact List.map_congr_left fun j hj => by rw [h j (List.mem_range.1 hj)]
def iota (n j : Nat) : Nat := (j / (n - 2) + 1) * n + 1 + j % (n - 2)
theorem drop_pull {f : List Int} {a m : Nat} (h : a + m ≤ f.length) : (f.drop a).take m = (List.range m).map fun t => f.getD (a + t) 0 := by
 apply List.ext_getElem?
 intro i
 by_cases hi : i < m
 ·rw [List.getElem?_take_of_lt hi, List.getElem?_drop, List.getElem?_map, List.getElem?_range hi]
  show _ = some (f.getD (a + i) 0)
  rw [List.getD_eq_getElem?_getD, List.getElem?_eq_getElem (show a + i < f.length by omega)]; rfl
 ·rw [List.getElem?_eq_none (by simp; omega), List.getElem?_eq_none (by simp; omega)]
theorem innerP_pull {n : Nat} {f : List Int} (hf : f.length = n * n) (hn : 3 ≤ n) : ∀ r, r ≤ n - 2 → innerP n f r = pull (r * (n - 2)) (iota n) f
 | 0, _ => by simp [innerP, pull]
 | r + 1, h => by
  have h1 : (r + 1) * n + n ≤ n * n := by
   have : (r + 1 + 1) * n ≤ n * n := Nat.mul_le_mul_right n (by omega)
   rw [Nat.add_mul (r + 1) 1 n, Nat.one_mul] at this; exact this
  have e0 : (r + 1) * (n - 2) = r * (n - 2) + (n - 2) := by rw [Nat.add_mul, Nat.one_mul]
  rw [innerP_succ, innerP_pull hf hn r (by omega), e0, pull, pull, List.range_add, List.map_append, List.map_map, drop_pull (by omega)]
  congr 1
  refine List.map_congr_left fun t ht => ?_
  have ht := List.mem_range.1 ht
  have e1 : (r * (n - 2) + t) / (n - 2) = r := by
   rw [Nat.mul_comm, Nat.mul_add_div (by omega), Nat.div_eq_of_lt ht, Nat.add_zero]
  have e2 : (r * (n - 2) + t) % (n - 2) = t := by
   rw [Nat.mul_comm, Nat.mul_add_mod, Nat.mod_eq_of_lt ht]
  simp only [Function.comp_apply, iota, e1, e2]
theorem innerL_pull {n : Nat} {f : List Int} (hf : f.length = n * n) (hn : 3 ≤ n) : innerL n f = pull ((n - 2) * (n - 2)) (iota n) f := innerP_pull hf hn _ (Nat.le_refl _)
theorem iota_in {n j : Nat} (hn : 3 ≤ n) (hj : j < (n - 2) * (n - 2)) : iota n j < n * n := by
 have h1 : j / (n - 2) < n - 2 := Nat.div_lt_of_lt_mul hj
 have h2 := Nat.mod_lt j (show 0 < n - 2 by omega)
 have : (j / (n - 2) + 1) * n ≤ (n - 2) * n := Nat.mul_le_mul_right n (by omega)
 have e : (n - 2) * n + n + n = n * n := by
  have : (n - 2 + 1 + 1) * n = n * n := by congr 1; omega
  rw [← this, Nat.add_mul, Nat.add_mul, Nat.one_mul]
 rw [iota]; omega
def tau1 (n i : Nat) : Nat := n * (i % n) + i / n
def tau2 (n i : Nat) : Nat := n * (n - 1 - i / n) + i % n
def turnB (t : Nat → Nat → Nat) (n : Nat) : Bool := invB (n * n) (t n) && cloB (sqL 0 n) (n * n) (t n) && cloB (sqL 1 n) (n * n) (t n) && cloB (sqL 2 n) (n * n) (t n) && cloB (ascL n) (n * n) (t n) &&
 (decide (n % 2 = 1) || (cloB (blkL n) (n * n) (t n) && cloB (halL n) (n * n) (t n))) && (decide (n < 3) || (List.range ((n - 2) * (n - 2))).all fun j => decide (t n (iota n j) = iota n (t (n - 2) j)))
theorem turn1 : ((List.range 6).all fun m => turnB tau1 (m + 1)) = true := by decide +kernel
theorem turn2 : ((List.range 6).all fun m => turnB tau2 (m + 1)) = true := by decide +kernel
structure TurnOk (t : Nat → Nat → Nat) (n : Nat) : Prop where
 inv : invB (n * n) (t n) = true
 sq : ∀ k, k < 3 → cloB (sqL k n) (n * n) (t n) = true
 asc : cloB (ascL n) (n * n) (t n) = true
 blk : ¬ n % 2 = 1 → cloB (blkL n) (n * n) (t n) = true ∧ cloB (halL n) (n * n) (t n) = true
 inn : 3 ≤ n → ∀ j, j < (n - 2) * (n - 2) → t n (iota n j) = iota n (t (n - 2) j)
theorem turn_ok {t : Nat → Nat → Nat} (h : ((List.range 6).all fun m => turnB t (m + 1)) = true) {n : Nat} (h1 : 1 ≤ n) (h2 : n ≤ 6) : TurnOk t n := by
 have h := List.all_eq_true.1 h (n - 1) (List.mem_range.2 (by omega))
 rw [show n - 1 + 1 = n by omega] at h
 simp only [turnB, Bool.and_eq_true, Bool.or_eq_true, decide_eq_true_eq, List.all_eq_true, List.mem_range] at h
 obtain ⟨⟨⟨⟨⟨⟨a1, a2⟩, a3⟩, a4⟩, a5⟩, a6⟩, a7⟩ := h
 refine ⟨a1, fun k hk => ?_, a5, fun q => a6.resolve_left q, fun q j hj => ?_⟩
 ·match k, hk with
  | 0, _ => exact a2
  | 1, _ => exact a3
  | 2, _ => exact a4
 ·exact (a7.resolve_left (by omega)) j hj
theorem bool_iff {a b : Bool} (h : a = true ↔ b = true) : a = b := by cases a <;> cases b <;> simp at h ⊢
theorem brd_turn {t : Nat → Nat → Nat} : ∀ (k n : Nat) (f : List Int), (∀ m, 1 ≤ m → m ≤ n → TurnOk t m) → 1 ≤ n → f.length = n * n → brd k n (pull (n * n) (t n) f) = brd k n f
 | 0, _, _, _, _, _ => rfl
 | k + 1, n, f, ht, hn, hf => by
  rw [brd, brd]
  by_cases c : n < 3
  ·rw [if_pos c, if_pos c]
  rw [if_neg c, if_neg c]
  have T := ht n hn (Nat.le_refl _)
  have T' := ht (n - 2) (by omega) (by omega)
  have e1 : mg 1 n (pull (n * n) (t n) f) = mg 1 n f := bool_iff (by rw [mg_iff, mg_iff]; exact cst_turn (T.sq 1 (by omega)) T.inv hf)
  have e2 : innerL n (pull (n * n) (t n) f) = pull ((n - 2) * (n - 2)) (t (n - 2)) (innerL n f) := by
   rw [innerL_pull (pull_len ..) (by omega), innerL_pull hf (by omega), pull_comp fun j hj => iota_in (by omega) hj, pull_comp]
   ·exact pull_congr fun j hj => T.inn (by omega) j hj
   ·intro j hj
    have := List.all_eq_true.1 T'.inv j (List.mem_range.2 hj)
    simp only [Bool.and_eq_true, decide_eq_true_eq] at this
    exact this.2
  rw [e1, e2, brd_turn k (n - 2) (innerL n f) (fun m h1 h2 => ht m h1 (by omega)) (by omega) (by rw [innerL_pull hf (by omega), pull_len])]
def prsT (n : Nat) (f : List Int) : List Bool := [mg 0 n f, mg 1 n f, mg 2 n f, asc n f, mper n f, bord n f, bim n f]
theorem prsT_eq {n : Nat} {f g : List Int} (hn : 0 < n) (hf : f.length = n * n) (hg : g.length = n * n) (h0 : ∀ k, k < 3 → (Cst (sqL k n) g ↔ Cst (sqL k n) f)) (h1 : Cst (ascL n) g ↔ Cst (ascL n) f) (h2 : ¬ n % 2 = 1 → (Cst (blkL n) g ↔ Cst (blkL n) f) ∧ (Cst (halL n) g ↔ Cst (halL n) f))
  (h3 : bord n g = bord n f) (h4 : Cst (sqL 1 n) f → (Cst (sqL 1 n) (sqF g) ↔ Cst (sqL 1 n) (sqF f))) : prsT n g = prsT n f := by
 have e : ∀ k, k < 3 → mg k n g = mg k n f := fun k hk => bool_iff (by rw [mg_iff, mg_iff]; exact h0 k hk)
 have e1 : asc n g = asc n f := bool_iff (by rw [asc_iff hg hn, asc_iff hf hn, h0 1 (by omega), h1])
 have e2 : mper n g = mper n f := bool_iff (by
  rw [mper_iff hg hn, mper_iff hf hn, h0 2 (by omega)]
  constructor
  ·rintro ⟨a, b, c, d⟩; exact ⟨a, b, (h2 a).1.1 c, (h2 a).2.1 d⟩
  ·rintro ⟨a, b, c, d⟩; exact ⟨a, b, (h2 a).1.2 c, (h2 a).2.2 d⟩)
 have e3 : bim n g = bim n f := bool_iff (by
  rw [bim, bim, Bool.and_eq_true, Bool.and_eq_true, mg_iff, mg_iff, pow2_iff, pow2_iff, h0 1 (by omega)]
  constructor
  ·rintro ⟨a, b⟩; exact ⟨a, (h4 a).1 b⟩
  ·rintro ⟨a, b⟩; exact ⟨a, (h4 a).2 b⟩)
 rw [prsT, prsT, e 0 (by omega), e 1 (by omega), e 2 (by omega), e1, e2, h3, e3]
theorem prs_turn {t : Nat → Nat → Nat} {n : Nat} {f : List Int} (ht : ∀ m, 1 ≤ m → m ≤ n → TurnOk t m) (hn : 1 ≤ n) (hf : f.length = n * n) : prsT n (pull (n * n) (t n) f) = prsT n f := by
 have T := ht n hn (Nat.le_refl _)
 refine prsT_eq hn hf (pull_len ..) (fun k hk => cst_turn (T.sq k hk) T.inv hf) (cst_turn T.asc T.inv hf) (fun q => ⟨cst_turn (T.blk q).1 T.inv hf, cst_turn (T.blk q).2 T.inv hf⟩) ?_ fun _ => ?_
 ·rw [bord, bord, brd_turn n n f ht hn hf]
 ·rw [sqF_pull T.inv hf]
  exact cst_turn (T.sq 1 (by omega)) T.inv (by simp [sqF, hf])
def addL (x : Int) (f : List Int) : List Int := f.map fun y => y + x
theorem addL_get {x : Int} {f : List Int} {i : Nat} (h : i < f.length) : (addL x f).getD i 0 = f.getD i 0 + x := by
 rw [List.getD_eq_getElem?_getD, List.getD_eq_getElem?_getD, addL, List.getElem?_map, List.getElem?_eq_getElem h]; rfl
theorem lineS_cons (c : Int) (l f : List Int) : lineS (c :: l) f = f.getD c.toNat 0 + lineS l f := by rw [lineS_sum, lineS_sum]; rfl
theorem lineS_add {x : Int} {f : List Int} : ∀ {l : List Int}, (∀ c ∈ l, 0 ≤ c ∧ c < (f.length : Int)) → lineS l (addL x f) = lineS l f + (l.length : Int) * x
 | [], _ => by simp [lineS]
 | c :: l, h => by
  have hc := h c (by simp)
  rw [lineS_cons, lineS_cons, addL_get (by omega), lineS_add fun d hd => h d (by simp [hd]), List.length_cons, Int.natCast_add, Int.add_mul]
  omega
theorem lineS_sqadd {x : Int} {f : List Int} : ∀ {l : List Int}, (∀ c ∈ l, 0 ≤ c ∧ c < (f.length : Int)) → lineS l (sqF (addL x f)) = lineS l (sqF f) + 2 * x * lineS l f + (l.length : Int) * (x * x)
 | [], _ => by simp [lineS]
 | c :: l, h => by
  have hc := h c (by simp)
  have hl : (addL x f).length = f.length := by simp [addL]
  rw [lineS_cons, lineS_cons, lineS_cons, sqF_get (by omega), sqF_get (by omega), addL_get (by omega), lineS_sqadd fun d hd => h d (by simp [hd]), List.length_cons, show (((l.length + 1 : Nat) : Int)) * (x * x) = (l.length : Int) * (x * x) + x * x by rw [Int.natCast_add, Int.add_mul]; simp]
  generalize f.getD c.toNat 0 = y
  generalize lineS l f = s
  generalize (l.length : Int) * (x * x) = q
  generalize lineS l (sqF f) = p
  have e1 : (y + x) * (y + x) = y * y + 2 * x * y + x * x := by
   rw [Int.add_mul, Int.mul_add, Int.mul_add, Int.mul_comm x y, Int.mul_assoc 2 x y, Int.mul_comm x y]; omega
  have e2 : 2 * x * (y + s) = 2 * x * y + 2 * x * s := Int.mul_add ..
  rw [e1, e2]; omega
def uniB (L : List (List Int)) (N w : Nat) : Bool := L.all fun l => decide (l.length = w) && l.all fun c => decide (0 ≤ c) && decide (c < (N : Int))
theorem uni_ok {L : List (List Int)} {N w : Nat} (h : uniB L N w = true) : ∀ l ∈ L, l.length = w ∧ ∀ c ∈ l, 0 ≤ c ∧ c < (N : Int) := fun l hl => by
 have := List.all_eq_true.1 h l hl
 simp only [Bool.and_eq_true, List.all_eq_true, decide_eq_true_eq] at this
 exact this
theorem cst_add {L : List (List Int)} {N w : Nat} {x : Int} {f : List Int} (hu : uniB L N w = true) (hf : f.length = N) : Cst L (addL x f) ↔ Cst L f := by
 have key : ∀ l ∈ L, lineS l (addL x f) = lineS l f + (w : Int) * x := fun l hl => by
  obtain ⟨h1, h2⟩ := uni_ok hu l hl
  rw [lineS_add (by rw [hf]; exact h2), h1]
 constructor
 ·intro h l hl l' hl'
  have := h l hl l' hl'
  rw [key l hl, key l' hl'] at this; omega
 ·intro h l hl l' hl'
  rw [key l hl, key l' hl', h l hl l' hl']
theorem cst_sqadd {L : List (List Int)} {N w : Nat} {x : Int} {f : List Int} (hu : uniB L N w = true) (hf : f.length = N) (hc : Cst L f) : Cst L (sqF (addL x f)) ↔ Cst L (sqF f) := by
 have key : ∀ l ∈ L, lineS l (sqF (addL x f)) = lineS l (sqF f) + 2 * x * lineS l f + (w : Int) * (x * x) := fun l hl => by
  obtain ⟨h1, h2⟩ := uni_ok hu l hl
  rw [lineS_sqadd (by rw [hf]; exact h2), h1]
 constructor
 ·intro h l hl l' hl'
  have := h l hl l' hl'
  rw [key l hl, key l' hl', hc l hl l' hl'] at this; omega
 ·intro h l hl l' hl'
  rw [key l hl, key l' hl', h l hl l' hl', hc l hl l' hl']
def uniA (n : Nat) : Bool := uniB (sqL 0 n) (n * n) n && uniB (sqL 1 n) (n * n) n && uniB (sqL 2 n) (n * n) n && uniB (ascL n) (n * n) 2 && uniB (blkL n) (n * n) 4 && uniB (halL n) (n * n) 2
theorem uni6 : ((List.range 6).all fun m => uniA (m + 1)) = true := by decide +kernel
structure UniOk (n : Nat) : Prop where
 sq : ∀ k, k < 3 → uniB (sqL k n) (n * n) n = true
 asc : uniB (ascL n) (n * n) 2 = true
 blk : uniB (blkL n) (n * n) 4 = true
 hal : uniB (halL n) (n * n) 2 = true
theorem uni_ok6 {n : Nat} (h1 : 1 ≤ n) (h2 : n ≤ 6) : UniOk n := by
 have h := List.all_eq_true.1 uni6 (n - 1) (List.mem_range.2 (by omega))
 rw [show n - 1 + 1 = n by omega] at h
 simp only [uniA, Bool.and_eq_true] at h
 obtain ⟨⟨⟨⟨⟨a1, a2⟩, a3⟩, a4⟩, a5⟩, a6⟩ := h
 refine ⟨fun k hk => ?_, a4, a5, a6⟩
 match k, hk with
 | 0, _ => exact a1
 | 1, _ => exact a2
 | 2, _ => exact a3
theorem pull_add {M N : Nat} {s : Nat → Nat} {x : Int} {f : List Int} (hf : f.length = N) (h : ∀ j, j < M → s j < N) : pull M s (addL x f) = addL x (pull M s f) := by
 have e : addL x (pull M s f) = (List.range M).map fun i => f.getD (s i) 0 + x := by rw [addL, pull, List.map_map]; rfl
 rw [e, pull]
 refine List.map_congr_left fun j hj => ?_
 exact addL_get (by rw [hf]; exact h j (List.mem_range.1 hj))
theorem brd_add {x : Int} : ∀ (k n : Nat) (f : List Int), (∀ m, 1 ≤ m → m ≤ n → UniOk m) → 1 ≤ n → f.length = n * n → brd k n (addL x f) = brd k n f
 | 0, _, _, _, _, _ => rfl
 | k + 1, n, f, hu, hn, hf => by
  rw [brd, brd]
  by_cases c : n < 3
  ·rw [if_pos c, if_pos c]
  rw [if_neg c, if_neg c]
  have U := hu n hn (Nat.le_refl _)
  have e1 : mg 1 n (addL x f) = mg 1 n f := bool_iff (by rw [mg_iff, mg_iff]; exact cst_add (U.sq 1 (by omega)) hf)
  have e2 : innerL n (addL x f) = addL x (innerL n f) := by
   rw [innerL_pull (by simp [addL, hf]) (by omega), innerL_pull hf (by omega), pull_add hf fun j hj => iota_in (by omega) hj]
  rw [e1, e2, brd_add k (n - 2) (innerL n f) (fun m h1 h2 => hu m h1 (by omega)) (by omega) (by rw [innerL_pull hf (by omega), pull_len])]
theorem prs_add {x : Int} {n : Nat} {f : List Int} (hu : ∀ m, 1 ≤ m → m ≤ n → UniOk m) (hn : 1 ≤ n) (hf : f.length = n * n) : prsT n (addL x f) = prsT n f := by
 have U := hu n hn (Nat.le_refl _)
 refine prsT_eq hn hf (by simp [addL, hf]) (fun k hk => cst_add (U.sq k hk) hf) (cst_add U.asc hf) (fun _ => ⟨cst_add U.blk hf, cst_add U.hal hf⟩) ?_ fun hc => cst_sqadd (U.sq 1 (by omega)) hf hc
 rw [bord, bord, brd_add n n f hu hn hf]
theorem butN_kf {n : Nat} {f : List Int} : butN (kinR n f) = kf knm.tail (prsT n f) := by
 rw [kinR, prs, prsT]
 generalize nrm f = b0
 generalize mg 0 n f = b1
 generalize mg 1 n f = b2
 generalize mg 2 n f = b3
 generalize asc n f = b4
 generalize mper n f = b5
 generalize bord n f = b6
 generalize bim n f = b7
 revert b0 b1 b2 b3 b4 b5 b6 b7
 decide +kernel
theorem mem_kf : ∀ b0 b1 b2 b3 b4 b5 b6 b7 : Bool, decide (kindS 0 ∈ kf knm [b0, b1, b2, b3, b4, b5, b6, b7]) = b1 ∧ decide (kindS 1 ∈ kf knm [b0, b1, b2, b3, b4, b5, b6, b7]) = b2 ∧ decide (kindS 2 ∈ kf knm [b0, b1, b2, b3, b4, b5, b6, b7]) = b3 ∧
  decide (kAssoc ∈ kf knm [b0, b1, b2, b3, b4, b5, b6, b7]) = b4 ∧ decide (kPerf ∈ kf knm [b0, b1, b2, b3, b4, b5, b6, b7]) = b5 ∧ decide (kBord ∈ kf knm [b0, b1, b2, b3, b4, b5, b6, b7]) = b6 ∧ decide (kBim ∈ kf knm [b0, b1, b2, b3, b4, b5, b6, b7]) = b7 := by decide +kernel
theorem cst_sub {L L' : List (List Int)} {f : List Int} (h : ∀ l ∈ L', l ∈ L) (hc : Cst L f) : Cst L' f := fun l hl l' hl' => hc l (h l hl) l' (h l' hl')
theorem sq_sub : ((List.range 9).all fun n => ((sqL 1 n).all fun l => (sqL 2 n).contains l) && (sqL 0 n).all fun l => (sqL 1 n).contains l) = true := by decide +kernel
theorem mg_sub {n : Nat} {f : List Int} (hn : n ≤ 8) : (mg 2 n f = true → mg 1 n f = true) ∧ (mg 1 n f = true → mg 0 n f = true) := by
 have h := List.all_eq_true.1 sq_sub n (List.mem_range.2 (by omega))
 simp only [Bool.and_eq_true, List.all_eq_true, List.contains_iff_mem] at h
 exact ⟨fun q => by rw [mg_iff] at q ⊢; exact cst_sub h.1 q, fun q => by rw [mg_iff] at q ⊢; exact cst_sub h.2 q⟩
theorem imp_kinds {n : Nat} {f : List Int} (hn : n ≤ 8) : (mg 2 n f = true → mg 1 n f = true) ∧ (asc n f = true → mg 1 n f = true) ∧ (mper n f = true → mg 2 n f = true) ∧ (bord n f = true → mg 1 n f = true) ∧ (bim n f = true → mg 1 n f = true) ∧ (mg 1 n f = true → mg 0 n f = true) := by
 refine ⟨(mg_sub hn).1, fun h => ?_, fun h => ?_, fun h => ?_, fun h => ?_, (mg_sub hn).2⟩
 ·rw [asc, Bool.and_eq_true] at h; exact h.1
 ·rw [mper, Bool.and_eq_true, Bool.and_eq_true] at h; exact h.2.1
 ·rw [bord, Bool.and_eq_true, decide_eq_true_eq] at h
  obtain ⟨h1, h2⟩ := h
  obtain ⟨k, rfl⟩ : ∃ k, n = k + 1 := ⟨n - 1, by omega⟩
  rw [brd, if_neg (by omega), Bool.and_eq_true] at h2
  exact h2.1
 ·rw [bim, Bool.and_eq_true] at h; exact h.1
end Go.Ev
namespace Go.Ev
open Go Go.Proofs
set_option maxRecDepth 100000
section
variable {N : Nat} {C : Calls Prop} {K0 : Kw Prop} {K : Ks Prop} {h : T Blk} {nx : Pa} {x0 x1 x2 x3 x4 x5 x6 x7 x8 x9 x10 x11 x12 x13 x14 x15 x16 x17 x18 x19 x20 x21 x22 x23 x24 x25 x26 x27 x28 x29 x30 x31 x32 x33 x34 a0 a1 : AV}
noncomputable def F10.t0 : IR := .reg [.w (.loc (.of 2)) none (.box (.t (.of 0))), .q (.of 3) (.mv (.c (.bool false)))]
noncomputable def F10.r1_2 : List RO := .p .push (some ((.s 1), false)) (.bin .lss .int (.s 0) (.c (I (-99999)))) :: .s (.pick (.s 2) (.c (.bool true)) (.s 0)) :: .s (.mv (.s 0)) :: .p .push (some ((.s 0), false)) (.mv (.t (.of 1))) :: .p .push (some ((.s 1), false)) (.bin .gtr .int (.s 0) (.c (I 99999))) :: .q (.of 17) (.pick (.s 2) (.c (.bool true)) (.s 0)) :: []
noncomputable def F10.r1_1 : List RO := .s (.bin .neq .int (.s 0) (.c (I 0))) :: .s (.mv (.s 0)) :: .p .push (some ((.s 0), false)) (.faddr 0 (.t (.of 2))) :: .p .push (some ((.s 1), false)) (.load (.s 0)) :: .p .push (some ((.s 2), false)) (.bin .gtr .int (.s 0) (.c (I 6))) :: .s (.pick (.s 3) (.c (.bool true)) (.s 0)) :: .s (.mv (.s 0)) :: .p .push (some ((.s 0), false)) (.mv (.t (.of 1))) :: F10.r1_2
noncomputable def F10.r1_0 : List RO := .s (.loadN 3 (.t (.of 2))) :: .w .push none (.call (.c (.fn 50 (.of 50) [])) [(.s 0)]) :: F10.r1_1
noncomputable def F10.t1 : IR := .reg F10.r1_0
noncomputable def F10.t2 : IR := .reg [.w .push none (.call (.c (.fn 17 (.of 17) [])) []), .q (.of 3) (.mv (.s 0))]
noncomputable def F10.t3 : IR := .seq F10.t2 .ret
noncomputable def F10.t4 : IR := .cond (.t (.of 17)) F10.t3 .skip
noncomputable def F10.t5 : IR := .seq F10.t1 F10.t4
noncomputable def F10.t6 : IR := .reg [.s (.faddr 0 (.t (.of 2))), .s (.load (.s 0)), .q (.of 4) (.mv (.s 0))]
noncomputable def F10.r4_6 : List RO := .w .none none (.store 3 (.t (.of 7)) (.s 0)) :: []
noncomputable def F10.r4_5 : List RO := .w .none none (.store 3 (.t (.of 6)) (.s 3)) :: F10.r4_6
noncomputable def F10.r4_4 : List RO := .w .none none (.store 3 (.t (.of 5)) (.s 6)) :: F10.r4_5
noncomputable def F10.r4_3 : List RO := .w (.loc (.of 7)) none (.alloc [(I 0), (I 0), .nils]) :: F10.r4_4
noncomputable def F10.r4_2 : List RO := .w (.loc (.of 6)) none (.alloc [(I 0), (I 0), .nils]) :: F10.r4_3
noncomputable def F10.r4_1 : List RO := .s (.build [(I 0), (I 0), .nils] [(0, 1, (.s 1)), (1, 1, (.s 0))]) :: .w (.loc (.of 5)) none (.alloc [(I 0), (I 0), .nils]) :: F10.r4_2
noncomputable def F10.r4_0 : List RO := .s (.mv (.t (.of 4))) :: .s (.mv (.t (.of 4))) :: .s (.build [(I 0), (I 0), .nils] [(0, 1, (.s 1)), (1, 1, (.s 0))]) :: .s (.mv (.t (.of 4))) :: .s (.mv (.t (.of 4))) :: .s (.build [(I 0), (I 0), .nils] [(0, 1, (.s 1)), (1, 1, (.s 0))]) :: .s (.mv (.t (.of 4))) :: .s (.mv (.t (.of 4))) :: F10.r4_1
noncomputable def F10.t7 : IR := .reg F10.r4_0
noncomputable def F10.t8 : IR := .reg [.s (.faddr 2 (.t (.of 2))), .q (.of 18) (.load (.s 0)), .q (.of 19) (.len (.t (.of 18))), .q (.of 20) (.mv (.c (I 0)))]
noncomputable def F10.t9 : IR := .reg [.q (.of 21) (.bin .lss .int (.t (.of 20)) (.t (.of 19)))]
noncomputable def F10.t10 : IR := .cond (.t (.of 21)) .skip (.exit 0)
noncomputable def F10.t11 : IR := .reg [.s (.mv (.t (.of 20))), .s (.iaddr 1 (.t (.of 18)) (.t (.of 20))), .s (.load (.s 0)), .q (.of 8) (.mv (.s 2)), .q (.of 9) (.mv (.s 0))]
noncomputable def F10.t12 : IR := .reg [.s (.mv (.t (.of 9))), .s (.bin .lss .int (.s 0) (.c (I (-999999)))), .s (.mv (.s 0)), .p .push (some ((.s 0), false)) (.mv (.t (.of 9))), .p .push (some ((.s 1), false)) (.bin .gtr .int (.s 0) (.c (I 999999))), .q (.of 22) (.pick (.s 2) (.c (.bool true)) (.s 0))]
noncomputable def F10.t13 : IR := .reg [.w .push none (.call (.c (.fn 17 (.of 17) [])) []), .q (.of 3) (.mv (.s 0))]
noncomputable def F10.t14 : IR := .seq F10.t13 .ret
noncomputable def F10.t15 : IR := .cond (.t (.of 22)) F10.t14 .skip
noncomputable def F10.t16 : IR := .seq F10.t12 F10.t15
noncomputable def F10.t17 : IR := .dreg [] [(.s (.faddr 2 (.t (.of 5))), 1, []), (.s (.load (.s 0)), 1, []), (.s (.faddr 2 (.t (.of 2))), 0, []), (.s (.load (.s 0)), 0, []), (.s (.mv (.t (.of 4))), 0, []), (.s (.mv (.t (.of 8))), 0, []), (.s (.mv (.t (.of 4))), 0, []), (.s (.bin .rem .int (.s 1) (.s 0)), 0, []), (.s (.bin .mul .int (.s 3) (.s 0)), 0, []), (.s (.mv (.t (.of 8))), 0, []), (.s (.mv (.t (.of 4))), 0, []), (.s (.bin .quo .int (.s 1) (.s 0)), 0, []), (.s (.bin .add .int (.s 3) (.s 0)), 0, []), (.s (.iaddr 1 (.s 9) (.s 0)), 0, []), (.s (.load (.s 0)), 0, []), (.w .push none (.bslice 1 1 [(I 0)] [(0, 1, (.s 0))]), 0, []), (.w .push none (.app 1 8 (.s 14) (.s 0)), 0, []), (.s (.faddr 2 (.t (.of 5))), 0, []), (.w .none none (.store 1 (.s 0) (.s 1)), 0, [])]
noncomputable def F10.t18 : IR := .dreg [] [(.s (.faddr 2 (.t (.of 6))), 1, []), (.s (.load (.s 0)), 1, []), (.s (.faddr 2 (.t (.of 2))), 0, []), (.s (.load (.s 0)), 0, []), (.s (.mv (.t (.of 4))), 0, []), (.s (.mv (.t (.of 4))), 0, []), (.s (.bin .sub .int (.s 0) (.c (I 1))), 0, []), (.s (.mv (.t (.of 8))), 0, []), (.s (.mv (.t (.of 4))), 0, []), (.s (.bin .quo .int (.s 1) (.s 0)), 0, []), (.s (.bin .sub .int (.s 3) (.s 0)), 0, []), (.s (.bin .mul .int (.s 6) (.s 0)), 0, []), (.s (.mv (.t (.of 8))), 0, []), (.s (.mv (.t (.of 4))), 0, []), (.s (.bin .rem .int (.s 1) (.s 0)), 0, []), (.s (.bin .add .int (.s 3) (.s 0)), 0, []), (.s (.iaddr 1 (.s 12) (.s 0)), 0, []), (.s (.load (.s 0)), 0, []), (.w .push none (.bslice 1 1 [(I 0)] [(0, 1, (.s 0))]), 0, []), (.w .push none (.app 1 8 (.s 17) (.s 0)), 0, []), (.s (.faddr 2 (.t (.of 6))), 0, []), (.w .none none (.store 1 (.s 0) (.s 1)), 0, [])]
noncomputable def F10.t19 : IR := .reg [.s (.faddr 2 (.t (.of 7))), .s (.load (.s 0)), .s (.mv (.t (.of 9))), .s (.mv (.t (.of 1))), .s (.bin .add .int (.s 1) (.s 0)), .w .push none (.bslice 1 1 [(I 0)] [(0, 1, (.s 0))]), .w .push none (.app 1 8 (.s 4) (.s 0)), .s (.faddr 2 (.t (.of 7))), .w .none none (.store 1 (.s 0) (.s 1))]
noncomputable def F10.t20 : IR := .seq F10.t18 F10.t19
noncomputable def F10.t21 : IR := .seq F10.t17 F10.t20
noncomputable def F10.t22 : IR := .seq F10.t16 F10.t21
noncomputable def F10.t23 : IR := .seq F10.t11 F10.t22
noncomputable def F10.t24 : IR := .block 1 F10.t23
noncomputable def F10.t25 : IR := .reg [.s (.bin .add .int (.t (.of 20)) (.c (I 1))), .q (.of 20) (.mv (.s 0))]
noncomputable def F10.t26 : IR := .seq F10.t24 F10.t25
noncomputable def F10.t27 : IR := .seq F10.t10 F10.t26
noncomputable def F10.t28 : IR := .seq F10.t9 F10.t27
noncomputable def F10.t29 : IR := .loop F10.t28
noncomputable def F10.t30 : IR := .block 0 F10.t29
noncomputable def F10.t31 : IR := .seq F10.t8 F10.t30
noncomputable def F10.t32 : IR := .reg [.s (.loadN 3 (.t (.of 2))), .w .push none (.call (.c (.fn 51 (.of 51) [])) [(.s 0)]), .s (.mv (.s 0)), .s (.ext 0 (.s 0)), .s (.ext 1 (.s 1)), .q (.of 10) (.mv (.s 1)), .q (.of 11) (.mv (.s 0))]
noncomputable def F10.t33 : IR := .reg [.s (.mv (.t (.of 11))), .q (.of 23) (.bin .neq .int (.s 0) (.c (I 0)))]
noncomputable def F10.t34 : IR := .reg [.q (.of 3) (.mv (.c (.bool false)))]
noncomputable def F10.t35 : IR := .seq F10.t34 .ret
noncomputable def F10.t36 : IR := .cond (.t (.of 23)) F10.t35 .skip
noncomputable def F10.t37 : IR := .seq F10.t33 F10.t36
noncomputable def F10.t38 : IR := .reg [.s (.mv (.t (.of 10))), .w .push none (.call (.c (.fn 52 (.of 52) [])) [(.s 0)]), .q (.of 12) (.mv (.s 0))]
noncomputable def F10.t39 : IR := .reg [.s (.loadN 3 (.t (.of 5))), .s (.loadN 3 (.t (.of 6))), .s (.loadN 3 (.t (.of 7))), .w (.loc (.of 24)) none (.bslice 3 3 [(I 0), (I 0), .nils] [(0, 3, (.s 2)), (3, 3, (.s 1)), (6, 3, (.s 0))]), .q (.of 25) (.len (.t (.of 24))), .q (.of 26) (.mv (.c (I 0)))]
noncomputable def F10.t40 : IR := .reg [.q (.of 27) (.bin .lss .int (.t (.of 26)) (.t (.of 25)))]
noncomputable def F10.t41 : IR := .cond (.t (.of 27)) .skip (.exit 2)
noncomputable def F10.t42 : IR := .reg [.s (.iaddr 3 (.t (.of 24)) (.t (.of 26))), .s (.loadN 3 (.s 0)), .w (.loc (.of 13)) none (.alloc [(I 0), (I 0), .nils]), .w .none none (.store 3 (.t (.of 13)) (.s 0))]
noncomputable def F10.t43 : IR := .reg [.s (.loadN 3 (.t (.of 13))), .w .push none (.call (.c (.fn 51 (.of 51) [])) [(.s 0)]), .s (.mv (.s 0)), .s (.ext 0 (.s 0)), .s (.ext 1 (.s 1)), .q (.of 14) (.mv (.s 1)), .q (.of 15) (.mv (.s 0))]
noncomputable def F10.t44 : IR := .reg [.s (.mv (.t (.of 15))), .q (.of 28) (.bin .neq .int (.s 0) (.c (I 0)))]
noncomputable def F10.t45 : IR := .reg [.q (.of 3) (.mv (.c (.bool false)))]
noncomputable def F10.t46 : IR := .seq F10.t45 .ret
noncomputable def F10.t47 : IR := .cond (.t (.of 28)) F10.t46 .skip
noncomputable def F10.t48 : IR := .seq F10.t44 F10.t47
noncomputable def F10.t49 : IR := .reg [.s (.mv (.t (.of 12))), .s (.mv (.t (.of 14))), .w .push none (.call (.c (.fn 52 (.of 52) [])) [(.s 0)]), .w .push none (.call (.c (.fn 53 (.of 53) [])) [(.s 2), (.s 0)]), .q (.of 29) (.not (.s 0))]
noncomputable def F10.t50 : IR := .reg [.q (.of 3) (.mv (.c (.bool false)))]
noncomputable def F10.t51 : IR := .seq F10.t50 .ret
noncomputable def F10.t52 : IR := .cond (.t (.of 29)) F10.t51 .skip
noncomputable def F10.t53 : IR := .seq F10.t49 F10.t52
noncomputable def F10.t54 : IR := .seq F10.t48 F10.t53
noncomputable def F10.t55 : IR := .seq F10.t43 F10.t54
noncomputable def F10.t56 : IR := .seq F10.t42 F10.t55
noncomputable def F10.t57 : IR := .block 3 F10.t56
noncomputable def F10.t58 : IR := .reg [.s (.bin .add .int (.t (.of 26)) (.c (I 1))), .q (.of 26) (.mv (.s 0))]
noncomputable def F10.t59 : IR := .seq F10.t57 F10.t58
noncomputable def F10.t60 : IR := .seq F10.t41 F10.t59
noncomputable def F10.t61 : IR := .seq F10.t40 F10.t60
noncomputable def F10.t62 : IR := .loop F10.t61
noncomputable def F10.t63 : IR := .block 2 F10.t62
noncomputable def F10.t64 : IR := .seq F10.t39 F10.t63
noncomputable def F10.t65 : IR := .reg [.w (.loc (.of 30)) none (.bslice 1 5 [(.str [])] [(0, 1, (.c (.str [112, 97, 110, 100, 105, 97, 103, 111, 110, 97, 108]))), (1, 1, (.c (.str [97, 115, 115, 111, 99, 105, 97, 116, 105, 118, 101]))), (2, 1, (.c (.str [109, 111, 115, 116, 45, 112, 101, 114, 102, 101, 99, 116]))), (3, 1, (.c (.str [98, 111, 114, 100, 101, 114, 101, 100]))), (4, 1, (.c (.str [98, 105, 109, 97, 103, 105, 99])))]), .q (.of 31) (.len (.t (.of 30))), .q (.of 32) (.mv (.c (I 0)))]
noncomputable def F10.t66 : IR := .reg [.q (.of 33) (.bin .lss .int (.t (.of 32)) (.t (.of 31)))]
noncomputable def F10.t67 : IR := .cond (.t (.of 33)) .skip (.exit 4)
noncomputable def F10.t68 : IR := .reg [.s (.iaddr 1 (.t (.of 30)) (.t (.of 32))), .s (.load (.s 0)), .q (.of 16) (.mv (.s 0))]
noncomputable def F10.t69 : IR := .reg [.s (.mv (.t (.of 10))), .s (.mv (.t (.of 16))), .w .push none (.call (.c (.fn 54 (.of 54) [])) [(.s 1), (.s 0)]), .s (.mv (.s 0)), .p .push (some ((.s 0), true)) (.mv (.t (.of 10))), .w .push (some ((.s 1), true)) (.call (.c (.fn 54 (.of 54) [])) [(.s 0), (.c (.str [109, 97, 103, 105, 99]))]), .p .push (some ((.s 2), true)) (.not (.s 0)), .q (.of 34) (.pick (.s 3) (.s 0) (.c (.bool false)))]
noncomputable def F10.t70 : IR := .reg [.q (.of 3) (.mv (.c (.bool false)))]
noncomputable def F10.t71 : IR := .seq F10.t70 .ret
noncomputable def F10.t72 : IR := .cond (.t (.of 34)) F10.t71 .skip
noncomputable def F10.t73 : IR := .seq F10.t69 F10.t72
noncomputable def F10.t74 : IR := .seq F10.t68 F10.t73
noncomputable def F10.t75 : IR := .block 5 F10.t74
noncomputable def F10.t76 : IR := .reg [.s (.bin .add .int (.t (.of 32)) (.c (I 1))), .q (.of 32) (.mv (.s 0))]
noncomputable def F10.t77 : IR := .seq F10.t75 F10.t76
noncomputable def F10.t78 : IR := .seq F10.t67 F10.t77
noncomputable def F10.t79 : IR := .seq F10.t66 F10.t78
noncomputable def F10.t80 : IR := .loop F10.t79
noncomputable def F10.t81 : IR := .block 4 F10.t80
noncomputable def F10.t82 : IR := .seq F10.t65 F10.t81
noncomputable def F10.r31_5 : List RO := .s (.pick (.s 1) (.s 0) (.c (.bool false))) :: .q (.of 3) (.mv (.s 0)) :: []
noncomputable def F10.r31_4 : List RO := .p .push (some ((.s 6), true)) (.pick (.s 2) (.c (.bool true)) (.s 0)) :: .s (.pick (.s 7) (.s 0) (.c (.bool false))) :: .s (.mv (.s 0)) :: .w .push (some ((.s 0), true)) (.call (.c (.fn 17 (.of 17) [])) []) :: F10.r31_5
noncomputable def F10.r31_3 : List RO := .p .push (some ((.s 2), true)) (.not (.s 0)) :: .p .push (some ((.s 3), true)) (.mv (.s 0)) :: .p .push (some ((.s 0), false)) (.mv (.t (.of 10))) :: .w .push (some ((.s 1), false)) (.call (.c (.fn 54 (.of 54) [])) [(.s 0), (.c (.str [112, 97, 110, 100, 105, 97, 103, 111, 110, 97, 108]))]) :: F10.r31_4
noncomputable def F10.r31_2 : List RO := .s (.pick (.s 2) (.c (.bool true)) (.s 0)) :: .s (.mv (.s 0)) :: .p .push (some ((.s 0), true)) (.mv (.t (.of 10))) :: .w .push (some ((.s 1), true)) (.call (.c (.fn 54 (.of 54) [])) [(.s 0), (.c (.str [109, 111, 115, 116, 45, 112, 101, 114, 102, 101, 99, 116]))]) :: F10.r31_3
noncomputable def F10.r31_1 : List RO := .s (.not (.s 0)) :: .s (.mv (.s 0)) :: .p .push (some ((.s 0), false)) (.mv (.t (.of 10))) :: .w .push (some ((.s 1), false)) (.call (.c (.fn 54 (.of 54) [])) [(.s 0), (.c (.str [115, 101, 109, 105, 109, 97, 103, 105, 99]))]) :: F10.r31_2
noncomputable def F10.r31_0 : List RO := .s (.mv (.t (.of 10))) :: .w .push none (.call (.c (.fn 54 (.of 54) [])) [(.s 0), (.c (.str [109, 97, 103, 105, 99]))]) :: F10.r31_1
noncomputable def F10.t83 : IR := .reg F10.r31_0
noncomputable def F10.t84 : IR := .seq F10.t83 .ret
noncomputable def F10.t85 : IR := .seq F10.t82 F10.t84
noncomputable def F10.t86 : IR := .seq F10.t64 F10.t85
noncomputable def F10.t87 : IR := .seq F10.t38 F10.t86
noncomputable def F10.t88 : IR := .seq F10.t37 F10.t87
noncomputable def F10.t89 : IR := .seq F10.t32 F10.t88
noncomputable def F10.t90 : IR := .seq F10.t31 F10.t89
noncomputable def F10.t91 : IR := .seq F10.t7 F10.t90
noncomputable def F10.t92 : IR := .seq F10.t6 F10.t91
noncomputable def F10.t93 : IR := .seq F10.t5 F10.t92
noncomputable def F10.t94 : IR := .seq F10.t0 F10.t93
theorem F10.t0_s {O : Outs Prop} : IR.run F10.t0 C N O K (F10.fr x0 x1 x2 x3 x4 x5 x6 x7 x8 x9 x10 x11 x12 x13 x14 x15 x16 x17 x18 x19 x20 x21 x22 x23 x24 x25 x26 x27 x28 x29 x30 x31 x32 x33 x34) h nx =
 sBox x0 h nx fun v1 h2 n3 =>
 K (F10.fr x0 x1 v1 (.bool false) x4 x5 x6 x7 x8 x9 x10 x11 x12 x13 x14 x15 x16 x17 x18 x19 x20 x21 x22 x23 x24 x25 x26 x27 x28 x29 x30 x31 x32 x33 x34) h2 n3 := by kernel_rfl
theorem F10.t1_s {O : Outs Prop} {tm : T AV} : IR.run F10.t1 C N O K tm h nx = evOps F10.r1_0 C ⟨tm, []⟩ h nx (fun tm h nx => K tm.v h nx) := srun_reg ..
theorem F10.r1_0_g {r : List RO} {Kt : KTm} : evOps (.s (.loadN 3 (.t (.of 2))) :: .w .push none (.call (.c (.fn 50 (.of 50) [])) [(.s 0)]) :: r) C ⟨(F10.fr x0 x1 x2 x3 x4 x5 x6 x7 x8 x9 x10 x11 x12 x13 x14 x15 x16 x17 x18 x19 x20 x21 x22 x23 x24 x25 x26 x27 x28 x29 x30 x31 x32 x33 x34), []⟩ h nx Kt =
 sLoadN 3 x2 h fun v1 =>
 C.fn 50 (.of 50) [v1] h nx fun v2 h3 n4 =>
 evOps r C ⟨(F10.fr x0 x1 x2 x3 x4 x5 x6 x7 x8 x9 x10 x11 x12 x13 x14 x15 x16 x17 x18 x19 x20 x21 x22 x23 x24 x25 x26 x27 x28 x29 x30 x31 x32 x33 x34), v2 :: v1 :: []⟩ h3 n4 Kt := by kernel_rfl
theorem F10.r1_0_s {Kt : KTm} : evOps F10.r1_0 C ⟨(F10.fr x0 x1 x2 x3 x4 x5 x6 x7 x8 x9 x10 x11 x12 x13 x14 x15 x16 x17 x18 x19 x20 x21 x22 x23 x24 x25 x26 x27 x28 x29 x30 x31 x32 x33 x34), []⟩ h nx Kt =
 sLoadN 3 x2 h fun v1 =>
 C.fn 50 (.of 50) [v1] h nx fun v2 h3 n4 =>
 evOps F10.r1_1 C ⟨(F10.fr x0 x1 x2 x3 x4 x5 x6 x7 x8 x9 x10 x11 x12 x13 x14 x15 x16 x17 x18 x19 x20 x21 x22 x23 x24 x25 x26 x27 x28 x29 x30 x31 x32 x33 x34), v2 :: v1 :: []⟩ h3 n4 Kt := F10.r1_0_g
theorem F10.r1_1_g {s0 s1 : AV} {r : List RO} {Kt : KTm} : evOps (.s (.bin .neq .int (.s 0) (.c (I 0))) :: .s (.mv (.s 0)) :: .p .push (some ((.s 0), false)) (.faddr 0 (.t (.of 2))) :: .p .push (some ((.s 1), false)) (.load (.s 0)) :: .p .push (some ((.s 2), false)) (.bin .gtr .int (.s 0) (.c (I 6))) :: .s (.pick (.s 3) (.c (.bool true)) (.s 0)) :: .s (.mv (.s 0)) :: .p .push (some ((.s 0), false)) (.mv (.t (.of 1))) :: r) C ⟨(F10.fr x0 x1 x2 x3 x4 x5 x6 x7 x8 x9 x10 x11 x12 x13 x14 x15 x16 x17 x18 x19 x20 x21 x22 x23 x24 x25 x26 x27 x28 x29 x30 x31 x32 x33 x34), s0 :: s1 :: []⟩ h nx Kt =
 sBin .neq .int s0 (I 0) fun v1 =>
 sG v1 false (fun k => sFaddr 0 x2 k) fun v2 =>
 sG v1 false (fun k => sLoad v2 h k) fun v3 =>
 sG v1 false (fun k => sBin .gtr .int v3 (I 6) k) fun v4 =>
 sPick v1 (.bool true) v4 fun v5 =>
 sG v5 false (fun k => k x1) fun v6 =>
 evOps r C ⟨(F10.fr x0 x1 x2 x3 x4 x5 x6 x7 x8 x9 x10 x11 x12 x13 x14 x15 x16 x17 x18 x19 x20 x21 x22 x23 x24 x25 x26 x27 x28 x29 x30 x31 x32 x33 x34), v6 :: v5 :: v5 :: v4 :: v3 :: v2 :: v1 :: v1 :: s0 :: s1 :: []⟩ h nx Kt := by kernel_rfl
theorem F10.r1_1_s {s0 s1 : AV} {Kt : KTm} : evOps F10.r1_1 C ⟨(F10.fr x0 x1 x2 x3 x4 x5 x6 x7 x8 x9 x10 x11 x12 x13 x14 x15 x16 x17 x18 x19 x20 x21 x22 x23 x24 x25 x26 x27 x28 x29 x30 x31 x32 x33 x34), s0 :: s1 :: []⟩ h nx Kt =
 sBin .neq .int s0 (I 0) fun v1 =>
 sG v1 false (fun k => sFaddr 0 x2 k) fun v2 =>
 sG v1 false (fun k => sLoad v2 h k) fun v3 =>
 sG v1 false (fun k => sBin .gtr .int v3 (I 6) k) fun v4 =>
 sPick v1 (.bool true) v4 fun v5 =>
 sG v5 false (fun k => k x1) fun v6 =>
 evOps F10.r1_2 C ⟨(F10.fr x0 x1 x2 x3 x4 x5 x6 x7 x8 x9 x10 x11 x12 x13 x14 x15 x16 x17 x18 x19 x20 x21 x22 x23 x24 x25 x26 x27 x28 x29 x30 x31 x32 x33 x34), v6 :: v5 :: v5 :: v4 :: v3 :: v2 :: v1 :: v1 :: s0 :: s1 :: []⟩ h nx Kt := F10.r1_1_g
theorem F10.r1_2_g {s0 s1 s2 s3 s4 s5 s6 s7 s8 s9 : AV} {Kt : KTm} : evOps (.p .push (some ((.s 1), false)) (.bin .lss .int (.s 0) (.c (I (-99999)))) :: .s (.pick (.s 2) (.c (.bool true)) (.s 0)) :: .s (.mv (.s 0)) :: .p .push (some ((.s 0), false)) (.mv (.t (.of 1))) :: .p .push (some ((.s 1), false)) (.bin .gtr .int (.s 0) (.c (I 99999))) :: .q (.of 17) (.pick (.s 2) (.c (.bool true)) (.s 0)) :: []) C ⟨(F10.fr x0 x1 x2 x3 x4 x5 x6 x7 x8 x9 x10 x11 x12 x13 x14 x15 x16 x17 x18 x19 x20 x21 x22 x23 x24 x25 x26 x27 x28 x29 x30 x31 x32 x33 x34), s0 :: s1 :: s2 :: s3 :: s4 :: s5 :: s6 :: s7 :: s8 :: s9 :: []⟩ h nx Kt =
 sG s1 false (fun k => sBin .lss .int s0 (I (-99999)) k) fun v1 =>
 sPick s1 (.bool true) v1 fun v2 =>
 sG v2 false (fun k => k x1) fun v3 =>
 sG v2 false (fun k => sBin .gtr .int v3 (I 99999) k) fun v4 =>
 sPick v2 (.bool true) v4 fun v5 =>
 Kt ⟨(F10.fr x0 x1 x2 x3 x4 x5 x6 x7 x8 x9 x10 x11 x12 x13 x14 x15 x16 v5 x18 x19 x20 x21 x22 x23 x24 x25 x26 x27 x28 x29 x30 x31 x32 x33 x34), v4 :: v3 :: v2 :: v2 :: v1 :: s0 :: s1 :: s2 :: s3 :: s4 :: s5 :: s6 :: s7 :: s8 :: s9 :: []⟩ h nx := by kernel_rfl
theorem F10.r1_2_s {s0 s1 s2 s3 s4 s5 s6 s7 s8 s9 : AV} {Kt : KTm} : evOps F10.r1_2 C ⟨(F10.fr x0 x1 x2 x3 x4 x5 x6 x7 x8 x9 x10 x11 x12 x13 x14 x15 x16 x17 x18 x19 x20 x21 x22 x23 x24 x25 x26 x27 x28 x29 x30 x31 x32 x33 x34), s0 :: s1 :: s2 :: s3 :: s4 :: s5 :: s6 :: s7 :: s8 :: s9 :: []⟩ h nx Kt =
 sG s1 false (fun k => sBin .lss .int s0 (I (-99999)) k) fun v1 =>
 sPick s1 (.bool true) v1 fun v2 =>
 sG v2 false (fun k => k x1) fun v3 =>
 sG v2 false (fun k => sBin .gtr .int v3 (I 99999) k) fun v4 =>
 sPick v2 (.bool true) v4 fun v5 =>
 Kt ⟨(F10.fr x0 x1 x2 x3 x4 x5 x6 x7 x8 x9 x10 x11 x12 x13 x14 x15 x16 v5 x18 x19 x20 x21 x22 x23 x24 x25 x26 x27 x28 x29 x30 x31 x32 x33 x34), v4 :: v3 :: v2 :: v2 :: v1 :: s0 :: s1 :: s2 :: s3 :: s4 :: s5 :: s6 :: s7 :: s8 :: s9 :: []⟩ h nx := F10.r1_2_g
theorem F10.t2_s {O : Outs Prop} : IR.run F10.t2 C N O K (F10.fr x0 x1 x2 x3 x4 x5 x6 x7 x8 x9 x10 x11 x12 x13 x14 x15 x16 x17 x18 x19 x20 x21 x22 x23 x24 x25 x26 x27 x28 x29 x30 x31 x32 x33 x34) h nx =
 C.fn 17 (.of 17) [] h nx fun v1 h2 n3 =>
 K (F10.fr x0 x1 x2 v1 x4 x5 x6 x7 x8 x9 x10 x11 x12 x13 x14 x15 x16 x17 x18 x19 x20 x21 x22 x23 x24 x25 x26 x27 x28 x29 x30 x31 x32 x33 x34) h2 n3 := by kernel_rfl
theorem F10.t3_s {O : Outs Prop} {tm : T AV} : IR.run F10.t3 C N O K tm h nx = IR.run F10.t2 C N O (IR.run .ret C N O K) tm h nx := srun_seq ..
theorem F10.t4_s {O : Outs Prop} : IR.run F10.t4 C N O K (F10.fr x0 x1 x2 x3 x4 x5 x6 x7 x8 x9 x10 x11 x12 x13 x14 x15 x16 x17 x18 x19 x20 x21 x22 x23 x24 x25 x26 x27 x28 x29 x30 x31 x32 x33 x34) h nx = sCond x17 (IR.run F10.t3 C N O K (F10.fr x0 x1 x2 x3 x4 x5 x6 x7 x8 x9 x10 x11 x12 x13 x14 x15 x16 x17 x18 x19 x20 x21 x22 x23 x24 x25 x26 x27 x28 x29 x30 x31 x32 x33 x34) h nx) (IR.run .skip C N O K (F10.fr x0 x1 x2 x3 x4 x5 x6 x7 x8 x9 x10 x11 x12 x13 x14 x15 x16 x17 x18 x19 x20 x21 x22 x23 x24 x25 x26 x27 x28 x29 x30 x31 x32 x33 x34) h nx) := by
 have g : ∀ A B : IR, IR.run (.cond (.t (.of 17)) A B) C N O K (F10.fr x0 x1 x2 x3 x4 x5 x6 x7 x8 x9 x10 x11 x12 x13 x14 x15 x16 x17 x18 x19 x20 x21 x22 x23 x24 x25 x26 x27 x28 x29 x30 x31 x32 x33 x34) h nx = sCond x17 (IR.run A C N O K (F10.fr x0 x1 x2 x3 x4 x5 x6 x7 x8 x9 x10 x11 x12 x13 x14 x15 x16 x17 x18 x19 x20 x21 x22 x23 x24 x25 x26 x27 x28 x29 x30 x31 x32 x33 x34) h nx) (IR.run B C N O K (F10.fr x0 x1 x2 x3 x4 x5 x6 x7 x8 x9 x10 x11 x12 x13 x14 x15 x16 x17 x18 x19 x20 x21 x22 x23 x24 x25 x26 x27 x28 x29 x30 x31 x32 x33 x34) h nx) := fun A B => by kernel_rfl
 exact g _ _
theorem F10.t5_s {O : Outs Prop} {tm : T AV} : IR.run F10.t5 C N O K tm h nx = IR.run F10.t1 C N O (IR.run F10.t4 C N O K) tm h nx := srun_seq ..
theorem F10.t6_s {O : Outs Prop} : IR.run F10.t6 C N O K (F10.fr x0 x1 x2 x3 x4 x5 x6 x7 x8 x9 x10 x11 x12 x13 x14 x15 x16 x17 x18 x19 x20 x21 x22 x23 x24 x25 x26 x27 x28 x29 x30 x31 x32 x33 x34) h nx =
 sFaddr 0 x2 fun v1 =>
 sLoad v1 h fun v2 =>
 K (F10.fr x0 x1 x2 x3 v2 x5 x6 x7 x8 x9 x10 x11 x12 x13 x14 x15 x16 x17 x18 x19 x20 x21 x22 x23 x24 x25 x26 x27 x28 x29 x30 x31 x32 x33 x34) h nx := by kernel_rfl
theorem F10.t7_s {O : Outs Prop} {tm : T AV} : IR.run F10.t7 C N O K tm h nx = evOps F10.r4_0 C ⟨tm, []⟩ h nx (fun tm h nx => K tm.v h nx) := srun_reg ..
theorem F10.r4_0_g {r : List RO} {Kt : KTm} : evOps (.s (.mv (.t (.of 4))) :: .s (.mv (.t (.of 4))) :: .s (.build [(I 0), (I 0), .nils] [(0, 1, (.s 1)), (1, 1, (.s 0))]) :: .s (.mv (.t (.of 4))) :: .s (.mv (.t (.of 4))) :: .s (.build [(I 0), (I 0), .nils] [(0, 1, (.s 1)), (1, 1, (.s 0))]) :: .s (.mv (.t (.of 4))) :: .s (.mv (.t (.of 4))) :: r) C ⟨(F10.fr x0 x1 x2 x3 x4 x5 x6 x7 x8 x9 x10 x11 x12 x13 x14 x15 x16 x17 x18 x19 x20 x21 x22 x23 x24 x25 x26 x27 x28 x29 x30 x31 x32 x33 x34), []⟩ h nx Kt =
 sBuild [(I 0), (I 0), .nils] [(0, 1, x4), (1, 1, x4)] fun v1 =>
 sBuild [(I 0), (I 0), .nils] [(0, 1, x4), (1, 1, x4)] fun v2 =>
 evOps r C ⟨(F10.fr x0 x1 x2 x3 x4 x5 x6 x7 x8 x9 x10 x11 x12 x13 x14 x15 x16 x17 x18 x19 x20 x21 x22 x23 x24 x25 x26 x27 x28 x29 x30 x31 x32 x33 x34), x4 :: x4 :: v2 :: x4 :: x4 :: v1 :: x4 :: x4 :: []⟩ h nx Kt := by kernel_rfl
theorem F10.r4_0_s {Kt : KTm} : evOps F10.r4_0 C ⟨(F10.fr x0 x1 x2 x3 x4 x5 x6 x7 x8 x9 x10 x11 x12 x13 x14 x15 x16 x17 x18 x19 x20 x21 x22 x23 x24 x25 x26 x27 x28 x29 x30 x31 x32 x33 x34), []⟩ h nx Kt =
 sBuild [(I 0), (I 0), .nils] [(0, 1, x4), (1, 1, x4)] fun v1 =>
 sBuild [(I 0), (I 0), .nils] [(0, 1, x4), (1, 1, x4)] fun v2 =>
 evOps F10.r4_1 C ⟨(F10.fr x0 x1 x2 x3 x4 x5 x6 x7 x8 x9 x10 x11 x12 x13 x14 x15 x16 x17 x18 x19 x20 x21 x22 x23 x24 x25 x26 x27 x28 x29 x30 x31 x32 x33 x34), x4 :: x4 :: v2 :: x4 :: x4 :: v1 :: x4 :: x4 :: []⟩ h nx Kt := F10.r4_0_g
theorem F10.r4_1_g {s0 s1 s2 s3 s4 s5 s6 s7 : AV} {r : List RO} {Kt : KTm} : evOps (.s (.build [(I 0), (I 0), .nils] [(0, 1, (.s 1)), (1, 1, (.s 0))]) :: .w (.loc (.of 5)) none (.alloc [(I 0), (I 0), .nils]) :: r) C ⟨(F10.fr x0 x1 x2 x3 x4 x5 x6 x7 x8 x9 x10 x11 x12 x13 x14 x15 x16 x17 x18 x19 x20 x21 x22 x23 x24 x25 x26 x27 x28 x29 x30 x31 x32 x33 x34), s0 :: s1 :: s2 :: s3 :: s4 :: s5 :: s6 :: s7 :: []⟩ h nx Kt =
 sBuild [(I 0), (I 0), .nils] [(0, 1, s1), (1, 1, s0)] fun v1 =>
 sAlloc [(I 0), (I 0), .nils] h nx fun v2 h3 n4 =>
 evOps r C ⟨(F10.fr x0 x1 x2 x3 x4 v2 x6 x7 x8 x9 x10 x11 x12 x13 x14 x15 x16 x17 x18 x19 x20 x21 x22 x23 x24 x25 x26 x27 x28 x29 x30 x31 x32 x33 x34), v1 :: s0 :: s1 :: s2 :: s3 :: s4 :: s5 :: s6 :: s7 :: []⟩ h3 n4 Kt := by kernel_rfl
theorem F10.r4_1_s {s0 s1 s2 s3 s4 s5 s6 s7 : AV} {Kt : KTm} : evOps F10.r4_1 C ⟨(F10.fr x0 x1 x2 x3 x4 x5 x6 x7 x8 x9 x10 x11 x12 x13 x14 x15 x16 x17 x18 x19 x20 x21 x22 x23 x24 x25 x26 x27 x28 x29 x30 x31 x32 x33 x34), s0 :: s1 :: s2 :: s3 :: s4 :: s5 :: s6 :: s7 :: []⟩ h nx Kt =
 sBuild [(I 0), (I 0), .nils] [(0, 1, s1), (1, 1, s0)] fun v1 =>
 sAlloc [(I 0), (I 0), .nils] h nx fun v2 h3 n4 =>
 evOps F10.r4_2 C ⟨(F10.fr x0 x1 x2 x3 x4 v2 x6 x7 x8 x9 x10 x11 x12 x13 x14 x15 x16 x17 x18 x19 x20 x21 x22 x23 x24 x25 x26 x27 x28 x29 x30 x31 x32 x33 x34), v1 :: s0 :: s1 :: s2 :: s3 :: s4 :: s5 :: s6 :: s7 :: []⟩ h3 n4 Kt := F10.r4_1_g
theorem F10.r4_2_g {s0 s1 s2 s3 s4 s5 s6 s7 s8 : AV} {r : List RO} {Kt : KTm} : evOps (.w (.loc (.of 6)) none (.alloc [(I 0), (I 0), .nils]) :: r) C ⟨(F10.fr x0 x1 x2 x3 x4 x5 x6 x7 x8 x9 x10 x11 x12 x13 x14 x15 x16 x17 x18 x19 x20 x21 x22 x23 x24 x25 x26 x27 x28 x29 x30 x31 x32 x33 x34), s0 :: s1 :: s2 :: s3 :: s4 :: s5 :: s6 :: s7 :: s8 :: []⟩ h nx Kt =
 sAlloc [(I 0), (I 0), .nils] h nx fun v1 h2 n3 =>
 evOps r C ⟨(F10.fr x0 x1 x2 x3 x4 x5 v1 x7 x8 x9 x10 x11 x12 x13 x14 x15 x16 x17 x18 x19 x20 x21 x22 x23 x24 x25 x26 x27 x28 x29 x30 x31 x32 x33 x34), s0 :: s1 :: s2 :: s3 :: s4 :: s5 :: s6 :: s7 :: s8 :: []⟩ h2 n3 Kt := by kernel_rfl
theorem F10.r4_2_s {s0 s1 s2 s3 s4 s5 s6 s7 s8 : AV} {Kt : KTm} : evOps F10.r4_2 C ⟨(F10.fr x0 x1 x2 x3 x4 x5 x6 x7 x8 x9 x10 x11 x12 x13 x14 x15 x16 x17 x18 x19 x20 x21 x22 x23 x24 x25 x26 x27 x28 x29 x30 x31 x32 x33 x34), s0 :: s1 :: s2 :: s3 :: s4 :: s5 :: s6 :: s7 :: s8 :: []⟩ h nx Kt =
 sAlloc [(I 0), (I 0), .nils] h nx fun v1 h2 n3 =>
 evOps F10.r4_3 C ⟨(F10.fr x0 x1 x2 x3 x4 x5 v1 x7 x8 x9 x10 x11 x12 x13 x14 x15 x16 x17 x18 x19 x20 x21 x22 x23 x24 x25 x26 x27 x28 x29 x30 x31 x32 x33 x34), s0 :: s1 :: s2 :: s3 :: s4 :: s5 :: s6 :: s7 :: s8 :: []⟩ h2 n3 Kt := F10.r4_2_g
theorem F10.r4_3_g {s0 s1 s2 s3 s4 s5 s6 s7 s8 : AV} {r : List RO} {Kt : KTm} : evOps (.w (.loc (.of 7)) none (.alloc [(I 0), (I 0), .nils]) :: r) C ⟨(F10.fr x0 x1 x2 x3 x4 x5 x6 x7 x8 x9 x10 x11 x12 x13 x14 x15 x16 x17 x18 x19 x20 x21 x22 x23 x24 x25 x26 x27 x28 x29 x30 x31 x32 x33 x34), s0 :: s1 :: s2 :: s3 :: s4 :: s5 :: s6 :: s7 :: s8 :: []⟩ h nx Kt =
 sAlloc [(I 0), (I 0), .nils] h nx fun v1 h2 n3 =>
 evOps r C ⟨(F10.fr x0 x1 x2 x3 x4 x5 x6 v1 x8 x9 x10 x11 x12 x13 x14 x15 x16 x17 x18 x19 x20 x21 x22 x23 x24 x25 x26 x27 x28 x29 x30 x31 x32 x33 x34), s0 :: s1 :: s2 :: s3 :: s4 :: s5 :: s6 :: s7 :: s8 :: []⟩ h2 n3 Kt := by kernel_rfl
theorem F10.r4_3_s {s0 s1 s2 s3 s4 s5 s6 s7 s8 : AV} {Kt : KTm} : evOps F10.r4_3 C ⟨(F10.fr x0 x1 x2 x3 x4 x5 x6 x7 x8 x9 x10 x11 x12 x13 x14 x15 x16 x17 x18 x19 x20 x21 x22 x23 x24 x25 x26 x27 x28 x29 x30 x31 x32 x33 x34), s0 :: s1 :: s2 :: s3 :: s4 :: s5 :: s6 :: s7 :: s8 :: []⟩ h nx Kt =
 sAlloc [(I 0), (I 0), .nils] h nx fun v1 h2 n3 =>
 evOps F10.r4_4 C ⟨(F10.fr x0 x1 x2 x3 x4 x5 x6 v1 x8 x9 x10 x11 x12 x13 x14 x15 x16 x17 x18 x19 x20 x21 x22 x23 x24 x25 x26 x27 x28 x29 x30 x31 x32 x33 x34), s0 :: s1 :: s2 :: s3 :: s4 :: s5 :: s6 :: s7 :: s8 :: []⟩ h2 n3 Kt := F10.r4_3_g
theorem F10.r4_4_g {s0 s1 s2 s3 s4 s5 s6 s7 s8 : AV} {r : List RO} {Kt : KTm} : evOps (.w .none none (.store 3 (.t (.of 5)) (.s 6)) :: r) C ⟨(F10.fr x0 x1 x2 x3 x4 x5 x6 x7 x8 x9 x10 x11 x12 x13 x14 x15 x16 x17 x18 x19 x20 x21 x22 x23 x24 x25 x26 x27 x28 x29 x30 x31 x32 x33 x34), s0 :: s1 :: s2 :: s3 :: s4 :: s5 :: s6 :: s7 :: s8 :: []⟩ h nx Kt =
 sStore 3 x5 s6 h nx fun v1 h2 n3 =>
 evOps r C ⟨(F10.fr x0 x1 x2 x3 x4 x5 x6 x7 x8 x9 x10 x11 x12 x13 x14 x15 x16 x17 x18 x19 x20 x21 x22 x23 x24 x25 x26 x27 x28 x29 x30 x31 x32 x33 x34), s0 :: s1 :: s2 :: s3 :: s4 :: s5 :: s6 :: s7 :: s8 :: []⟩ h2 n3 Kt := by kernel_rfl
theorem F10.r4_4_s {s0 s1 s2 s3 s4 s5 s6 s7 s8 : AV} {Kt : KTm} : evOps F10.r4_4 C ⟨(F10.fr x0 x1 x2 x3 x4 x5 x6 x7 x8 x9 x10 x11 x12 x13 x14 x15 x16 x17 x18 x19 x20 x21 x22 x23 x24 x25 x26 x27 x28 x29 x30 x31 x32 x33 x34), s0 :: s1 :: s2 :: s3 :: s4 :: s5 :: s6 :: s7 :: s8 :: []⟩ h nx Kt =
 sStore 3 x5 s6 h nx fun v1 h2 n3 =>
 evOps F10.r4_5 C ⟨(F10.fr x0 x1 x2 x3 x4 x5 x6 x7 x8 x9 x10 x11 x12 x13 x14 x15 x16 x17 x18 x19 x20 x21 x22 x23 x24 x25 x26 x27 x28 x29 x30 x31 x32 x33 x34), s0 :: s1 :: s2 :: s3 :: s4 :: s5 :: s6 :: s7 :: s8 :: []⟩ h2 n3 Kt := F10.r4_4_g
theorem F10.r4_5_g {s0 s1 s2 s3 s4 s5 s6 s7 s8 : AV} {r : List RO} {Kt : KTm} : evOps (.w .none none (.store 3 (.t (.of 6)) (.s 3)) :: r) C ⟨(F10.fr x0 x1 x2 x3 x4 x5 x6 x7 x8 x9 x10 x11 x12 x13 x14 x15 x16 x17 x18 x19 x20 x21 x22 x23 x24 x25 x26 x27 x28 x29 x30 x31 x32 x33 x34), s0 :: s1 :: s2 :: s3 :: s4 :: s5 :: s6 :: s7 :: s8 :: []⟩ h nx Kt =
 sStore 3 x6 s3 h nx fun v1 h2 n3 =>
 evOps r C ⟨(F10.fr x0 x1 x2 x3 x4 x5 x6 x7 x8 x9 x10 x11 x12 x13 x14 x15 x16 x17 x18 x19 x20 x21 x22 x23 x24 x25 x26 x27 x28 x29 x30 x31 x32 x33 x34), s0 :: s1 :: s2 :: s3 :: s4 :: s5 :: s6 :: s7 :: s8 :: []⟩ h2 n3 Kt := by kernel_rfl
theorem F10.r4_5_s {s0 s1 s2 s3 s4 s5 s6 s7 s8 : AV} {Kt : KTm} : evOps F10.r4_5 C ⟨(F10.fr x0 x1 x2 x3 x4 x5 x6 x7 x8 x9 x10 x11 x12 x13 x14 x15 x16 x17 x18 x19 x20 x21 x22 x23 x24 x25 x26 x27 x28 x29 x30 x31 x32 x33 x34), s0 :: s1 :: s2 :: s3 :: s4 :: s5 :: s6 :: s7 :: s8 :: []⟩ h nx Kt =
 sStore 3 x6 s3 h nx fun v1 h2 n3 =>
 evOps F10.r4_6 C ⟨(F10.fr x0 x1 x2 x3 x4 x5 x6 x7 x8 x9 x10 x11 x12 x13 x14 x15 x16 x17 x18 x19 x20 x21 x22 x23 x24 x25 x26 x27 x28 x29 x30 x31 x32 x33 x34), s0 :: s1 :: s2 :: s3 :: s4 :: s5 :: s6 :: s7 :: s8 :: []⟩ h2 n3 Kt := F10.r4_5_g
theorem F10.r4_6_g {s0 s1 s2 s3 s4 s5 s6 s7 s8 : AV} {Kt : KTm} : evOps (.w .none none (.store 3 (.t (.of 7)) (.s 0)) :: []) C ⟨(F10.fr x0 x1 x2 x3 x4 x5 x6 x7 x8 x9 x10 x11 x12 x13 x14 x15 x16 x17 x18 x19 x20 x21 x22 x23 x24 x25 x26 x27 x28 x29 x30 x31 x32 x33 x34), s0 :: s1 :: s2 :: s3 :: s4 :: s5 :: s6 :: s7 :: s8 :: []⟩ h nx Kt =
 sStore 3 x7 s0 h nx fun v1 h2 n3 =>
 Kt ⟨(F10.fr x0 x1 x2 x3 x4 x5 x6 x7 x8 x9 x10 x11 x12 x13 x14 x15 x16 x17 x18 x19 x20 x21 x22 x23 x24 x25 x26 x27 x28 x29 x30 x31 x32 x33 x34), s0 :: s1 :: s2 :: s3 :: s4 :: s5 :: s6 :: s7 :: s8 :: []⟩ h2 n3 := by kernel_rfl
theorem F10.r4_6_s {s0 s1 s2 s3 s4 s5 s6 s7 s8 : AV} {Kt : KTm} : evOps F10.r4_6 C ⟨(F10.fr x0 x1 x2 x3 x4 x5 x6 x7 x8 x9 x10 x11 x12 x13 x14 x15 x16 x17 x18 x19 x20 x21 x22 x23 x24 x25 x26 x27 x28 x29 x30 x31 x32 x33 x34), s0 :: s1 :: s2 :: s3 :: s4 :: s5 :: s6 :: s7 :: s8 :: []⟩ h nx Kt =
 sStore 3 x7 s0 h nx fun v1 h2 n3 =>
 Kt ⟨(F10.fr x0 x1 x2 x3 x4 x5 x6 x7 x8 x9 x10 x11 x12 x13 x14 x15 x16 x17 x18 x19 x20 x21 x22 x23 x24 x25 x26 x27 x28 x29 x30 x31 x32 x33 x34), s0 :: s1 :: s2 :: s3 :: s4 :: s5 :: s6 :: s7 :: s8 :: []⟩ h2 n3 := F10.r4_6_g
theorem F10.t8_s {O : Outs Prop} : IR.run F10.t8 C N O K (F10.fr x0 x1 x2 x3 x4 x5 x6 x7 x8 x9 x10 x11 x12 x13 x14 x15 x16 x17 x18 x19 x20 x21 x22 x23 x24 x25 x26 x27 x28 x29 x30 x31 x32 x33 x34) h nx =
 sFaddr 2 x2 fun v1 =>
 sLoad v1 h fun v2 =>
 sLen v2 fun v3 =>
 K (F10.fr x0 x1 x2 x3 x4 x5 x6 x7 x8 x9 x10 x11 x12 x13 x14 x15 x16 x17 v2 v3 (I 0) x21 x22 x23 x24 x25 x26 x27 x28 x29 x30 x31 x32 x33 x34) h nx := by kernel_rfl
theorem F10.t9_s {O : Outs Prop} : IR.run F10.t9 C N O K (F10.fr x0 x1 x2 x3 x4 x5 x6 x7 x8 x9 x10 x11 x12 x13 x14 x15 x16 x17 x18 x19 x20 x21 x22 x23 x24 x25 x26 x27 x28 x29 x30 x31 x32 x33 x34) h nx =
 sBin .lss .int x20 x19 fun v1 =>
 K (F10.fr x0 x1 x2 x3 x4 x5 x6 x7 x8 x9 x10 x11 x12 x13 x14 x15 x16 x17 x18 x19 x20 v1 x22 x23 x24 x25 x26 x27 x28 x29 x30 x31 x32 x33 x34) h nx := by kernel_rfl
theorem F10.t10_s {O : Outs Prop} : IR.run F10.t10 C N O K (F10.fr x0 x1 x2 x3 x4 x5 x6 x7 x8 x9 x10 x11 x12 x13 x14 x15 x16 x17 x18 x19 x20 x21 x22 x23 x24 x25 x26 x27 x28 x29 x30 x31 x32 x33 x34) h nx = sCond x21 (IR.run .skip C N O K (F10.fr x0 x1 x2 x3 x4 x5 x6 x7 x8 x9 x10 x11 x12 x13 x14 x15 x16 x17 x18 x19 x20 x21 x22 x23 x24 x25 x26 x27 x28 x29 x30 x31 x32 x33 x34) h nx) (IR.run (.exit 0) C N O K (F10.fr x0 x1 x2 x3 x4 x5 x6 x7 x8 x9 x10 x11 x12 x13 x14 x15 x16 x17 x18 x19 x20 x21 x22 x23 x24 x25 x26 x27 x28 x29 x30 x31 x32 x33 x34) h nx) := by
 have g : ∀ A B : IR, IR.run (.cond (.t (.of 21)) A B) C N O K (F10.fr x0 x1 x2 x3 x4 x5 x6 x7 x8 x9 x10 x11 x12 x13 x14 x15 x16 x17 x18 x19 x20 x21 x22 x23 x24 x25 x26 x27 x28 x29 x30 x31 x32 x33 x34) h nx = sCond x21 (IR.run A C N O K (F10.fr x0 x1 x2 x3 x4 x5 x6 x7 x8 x9 x10 x11 x12 x13 x14 x15 x16 x17 x18 x19 x20 x21 x22 x23 x24 x25 x26 x27 x28 x29 x30 x31 x32 x33 x34) h nx) (IR.run B C N O K (F10.fr x0 x1 x2 x3 x4 x5 x6 x7 x8 x9 x10 x11 x12 x13 x14 x15 x16 x17 x18 x19 x20 x21 x22 x23 x24 x25 x26 x27 x28 x29 x30 x31 x32 x33 x34) h nx) := fun A B => by kernel_rfl
 exact g _ _
theorem F10.t11_s {O : Outs Prop} : IR.run F10.t11 C N O K (F10.fr x0 x1 x2 x3 x4 x5 x6 x7 x8 x9 x10 x11 x12 x13 x14 x15 x16 x17 x18 x19 x20 x21 x22 x23 x24 x25 x26 x27 x28 x29 x30 x31 x32 x33 x34) h nx =
 sIaddr 1 x18 x20 fun v1 =>
 sLoad v1 h fun v2 =>
 K (F10.fr x0 x1 x2 x3 x4 x5 x6 x7 x20 v2 x10 x11 x12 x13 x14 x15 x16 x17 x18 x19 x20 x21 x22 x23 x24 x25 x26 x27 x28 x29 x30 x31 x32 x33 x34) h nx := by kernel_rfl
theorem F10.t12_s {O : Outs Prop} : IR.run F10.t12 C N O K (F10.fr x0 x1 x2 x3 x4 x5 x6 x7 x8 x9 x10 x11 x12 x13 x14 x15 x16 x17 x18 x19 x20 x21 x22 x23 x24 x25 x26 x27 x28 x29 x30 x31 x32 x33 x34) h nx =
 sBin .lss .int x9 (I (-999999)) fun v1 =>
 sG v1 false (fun k => k x9) fun v2 =>
 sG v1 false (fun k => sBin .gtr .int v2 (I 999999) k) fun v3 =>
 sPick v1 (.bool true) v3 fun v4 =>
 K (F10.fr x0 x1 x2 x3 x4 x5 x6 x7 x8 x9 x10 x11 x12 x13 x14 x15 x16 x17 x18 x19 x20 x21 v4 x23 x24 x25 x26 x27 x28 x29 x30 x31 x32 x33 x34) h nx := by kernel_rfl
theorem F10.t13_s {O : Outs Prop} : IR.run F10.t13 C N O K (F10.fr x0 x1 x2 x3 x4 x5 x6 x7 x8 x9 x10 x11 x12 x13 x14 x15 x16 x17 x18 x19 x20 x21 x22 x23 x24 x25 x26 x27 x28 x29 x30 x31 x32 x33 x34) h nx =
 C.fn 17 (.of 17) [] h nx fun v1 h2 n3 =>
 K (F10.fr x0 x1 x2 v1 x4 x5 x6 x7 x8 x9 x10 x11 x12 x13 x14 x15 x16 x17 x18 x19 x20 x21 x22 x23 x24 x25 x26 x27 x28 x29 x30 x31 x32 x33 x34) h2 n3 := by kernel_rfl
theorem F10.t14_s {O : Outs Prop} {tm : T AV} : IR.run F10.t14 C N O K tm h nx = IR.run F10.t13 C N O (IR.run .ret C N O K) tm h nx := srun_seq ..
theorem F10.t15_s {O : Outs Prop} : IR.run F10.t15 C N O K (F10.fr x0 x1 x2 x3 x4 x5 x6 x7 x8 x9 x10 x11 x12 x13 x14 x15 x16 x17 x18 x19 x20 x21 x22 x23 x24 x25 x26 x27 x28 x29 x30 x31 x32 x33 x34) h nx = sCond x22 (IR.run F10.t14 C N O K (F10.fr x0 x1 x2 x3 x4 x5 x6 x7 x8 x9 x10 x11 x12 x13 x14 x15 x16 x17 x18 x19 x20 x21 x22 x23 x24 x25 x26 x27 x28 x29 x30 x31 x32 x33 x34) h nx) (IR.run .skip C N O K (F10.fr x0 x1 x2 x3 x4 x5 x6 x7 x8 x9 x10 x11 x12 x13 x14 x15 x16 x17 x18 x19 x20 x21 x22 x23 x24 x25 x26 x27 x28 x29 x30 x31 x32 x33 x34) h nx) := by
 have g : ∀ A B : IR, IR.run (.cond (.t (.of 22)) A B) C N O K (F10.fr x0 x1 x2 x3 x4 x5 x6 x7 x8 x9 x10 x11 x12 x13 x14 x15 x16 x17 x18 x19 x20 x21 x22 x23 x24 x25 x26 x27 x28 x29 x30 x31 x32 x33 x34) h nx = sCond x22 (IR.run A C N O K (F10.fr x0 x1 x2 x3 x4 x5 x6 x7 x8 x9 x10 x11 x12 x13 x14 x15 x16 x17 x18 x19 x20 x21 x22 x23 x24 x25 x26 x27 x28 x29 x30 x31 x32 x33 x34) h nx) (IR.run B C N O K (F10.fr x0 x1 x2 x3 x4 x5 x6 x7 x8 x9 x10 x11 x12 x13 x14 x15 x16 x17 x18 x19 x20 x21 x22 x23 x24 x25 x26 x27 x28 x29 x30 x31 x32 x33 x34) h nx) := fun A B => by kernel_rfl
 exact g _ _
theorem F10.t16_s {O : Outs Prop} {tm : T AV} : IR.run F10.t16 C N O K tm h nx = IR.run F10.t12 C N O (IR.run F10.t15 C N O K) tm h nx := srun_seq ..
theorem F10.t17_s {O : Outs Prop} : IR.run F10.t17 C N O K (F10.fr x0 x1 x2 x3 x4 x5 x6 x7 x8 x9 x10 x11 x12 x13 x14 x15 x16 x17 x18 x19 x20 x21 x22 x23 x24 x25 x26 x27 x28 x29 x30 x31 x32 x33 x34) h nx =
 sFaddr 2 x5 fun v1 =>
 sLoad v1 h fun v2 =>
 sFaddr 2 x2 fun v3 =>
 sLoad v3 h fun v4 =>
 sBin .rem .int x8 x4 fun v5 =>
 sBin .mul .int x4 v5 fun v6 =>
 sBin .quo .int x8 x4 fun v7 =>
 sBin .add .int v6 v7 fun v8 =>
 sIaddr 1 v4 v8 fun v9 =>
 sLoad v9 h fun v10 =>
 sBslice 1 1 [(I 0)] [(0, 1, v10)] h nx fun v11 h12 n13 =>
 (sLoad v1 h12 fun v22 => sSame v22 v2 ((sFaddr 2 x5 fun v21 => sSame v21 v1 (sApp 1 8 v2 v11 h12 n13 fun v14 h15 n16 =>
 sFaddr 2 x5 fun v17 =>
 sStore 1 v17 v14 h15 n16 fun v18 h19 n20 =>
 K (F10.fr x0 x1 x2 x3 x4 x5 x6 x7 x8 x9 x10 x11 x12 x13 x14 x15 x16 x17 x18 x19 x20 x21 x22 x23 x24 x25 x26 x27 x28 x29 x30 x31 x32 x33 x34) h19 n20)))) := by kernel_rfl
theorem F10.t18_s {O : Outs Prop} : IR.run F10.t18 C N O K (F10.fr x0 x1 x2 x3 x4 x5 x6 x7 x8 x9 x10 x11 x12 x13 x14 x15 x16 x17 x18 x19 x20 x21 x22 x23 x24 x25 x26 x27 x28 x29 x30 x31 x32 x33 x34) h nx =
 sFaddr 2 x6 fun v1 =>
 sLoad v1 h fun v2 =>
 sFaddr 2 x2 fun v3 =>
 sLoad v3 h fun v4 =>
 sBin .sub .int x4 (I 1) fun v5 =>
 sBin .quo .int x8 x4 fun v6 =>
 sBin .sub .int v5 v6 fun v7 =>
 sBin .mul .int x4 v7 fun v8 =>
 sBin .rem .int x8 x4 fun v9 =>
 sBin .add .int v8 v9 fun v10 =>
 sIaddr 1 v4 v10 fun v11 =>
 sLoad v11 h fun v12 =>
 sBslice 1 1 [(I 0)] [(0, 1, v12)] h nx fun v13 h14 n15 =>
 (sLoad v1 h14 fun v24 => sSame v24 v2 ((sFaddr 2 x6 fun v23 => sSame v23 v1 (sApp 1 8 v2 v13 h14 n15 fun v16 h17 n18 =>
 sFaddr 2 x6 fun v19 =>
 sStore 1 v19 v16 h17 n18 fun v20 h21 n22 =>
 K (F10.fr x0 x1 x2 x3 x4 x5 x6 x7 x8 x9 x10 x11 x12 x13 x14 x15 x16 x17 x18 x19 x20 x21 x22 x23 x24 x25 x26 x27 x28 x29 x30 x31 x32 x33 x34) h21 n22)))) := by kernel_rfl
theorem F10.t19_s {O : Outs Prop} : IR.run F10.t19 C N O K (F10.fr x0 x1 x2 x3 x4 x5 x6 x7 x8 x9 x10 x11 x12 x13 x14 x15 x16 x17 x18 x19 x20 x21 x22 x23 x24 x25 x26 x27 x28 x29 x30 x31 x32 x33 x34) h nx =
 sFaddr 2 x7 fun v1 =>
 sLoad v1 h fun v2 =>
 sBin .add .int x9 x1 fun v3 =>
 sBslice 1 1 [(I 0)] [(0, 1, v3)] h nx fun v4 h5 n6 =>
 sApp 1 8 v2 v4 h5 n6 fun v7 h8 n9 =>
 sFaddr 2 x7 fun v10 =>
 sStore 1 v10 v7 h8 n9 fun v11 h12 n13 =>
 K (F10.fr x0 x1 x2 x3 x4 x5 x6 x7 x8 x9 x10 x11 x12 x13 x14 x15 x16 x17 x18 x19 x20 x21 x22 x23 x24 x25 x26 x27 x28 x29 x30 x31 x32 x33 x34) h12 n13 := by kernel_rfl
theorem F10.t20_s {O : Outs Prop} {tm : T AV} : IR.run F10.t20 C N O K tm h nx = IR.run F10.t18 C N O (IR.run F10.t19 C N O K) tm h nx := srun_seq ..
theorem F10.t21_s {O : Outs Prop} {tm : T AV} : IR.run F10.t21 C N O K tm h nx = IR.run F10.t17 C N O (IR.run F10.t20 C N O K) tm h nx := srun_seq ..
theorem F10.t22_s {O : Outs Prop} {tm : T AV} : IR.run F10.t22 C N O K tm h nx = IR.run F10.t16 C N O (IR.run F10.t21 C N O K) tm h nx := srun_seq ..
theorem F10.t23_s {O : Outs Prop} {tm : T AV} : IR.run F10.t23 C N O K tm h nx = IR.run F10.t11 C N O (IR.run F10.t22 C N O K) tm h nx := srun_seq ..
theorem F10.t24_s {O : Outs Prop} {tm : T AV} : IR.run F10.t24 C N O K tm h nx = IR.run F10.t23 C N (O.blk 1 K) K tm h nx := srun_block ..
theorem F10.t25_s {O : Outs Prop} : IR.run F10.t25 C N O K (F10.fr x0 x1 x2 x3 x4 x5 x6 x7 x8 x9 x10 x11 x12 x13 x14 x15 x16 x17 x18 x19 x20 x21 x22 x23 x24 x25 x26 x27 x28 x29 x30 x31 x32 x33 x34) h nx =
 sBin .add .int x20 (I 1) fun v1 =>
 K (F10.fr x0 x1 x2 x3 x4 x5 x6 x7 x8 x9 x10 x11 x12 x13 x14 x15 x16 x17 x18 x19 v1 x21 x22 x23 x24 x25 x26 x27 x28 x29 x30 x31 x32 x33 x34) h nx := by kernel_rfl
theorem F10.t26_s {O : Outs Prop} {tm : T AV} : IR.run F10.t26 C N O K tm h nx = IR.run F10.t24 C N O (IR.run F10.t25 C N O K) tm h nx := srun_seq ..
theorem F10.t27_s {O : Outs Prop} {tm : T AV} : IR.run F10.t27 C N O K tm h nx = IR.run F10.t10 C N O (IR.run F10.t26 C N O K) tm h nx := srun_seq ..
theorem F10.t28_s {O : Outs Prop} {tm : T AV} : IR.run F10.t28 C N O K tm h nx = IR.run F10.t9 C N O (IR.run F10.t27 C N O K) tm h nx := srun_seq ..
theorem F10.t29_L {O : Outs Prop} (Inv : Nat → AV → T Blk → Pa → Prop) {m : Nat} (hm : m < N) (hi : Inv m x20 h nx)
  (step : ∀ (m : Nat) (z3 z8 z9 z20 z21 z22 : AV) (h : T Blk) (nx : Pa) (R : Ks Prop), Inv m z20 h nx → (∀ (m' : Nat) (w3 w8 w9 w20 w21 w22 : AV) (h' : T Blk) (nx' : Pa), m' < m → Inv m' w20 h' nx' → R (F10.fr x0 x1 x2 w3 x4 x5 x6 x7 w8 w9 x10 x11 x12 x13 x14 x15 x16 x17 x18 x19 w20 w21 w22 x23 x24 x25 x26 x27 x28 x29 x30 x31 x32 x33 x34) h' nx' = .ok True) → IR.run F10.t28 C N O R (F10.fr x0 x1 x2 z3 x4 x5 x6 x7 z8 z9 x10 x11 x12 x13 x14 x15 x16 x17 x18 x19 z20 z21 z22 x23 x24 x25 x26 x27 x28 x29 x30 x31 x32 x33 x34) h nx = .ok True) :
  IR.run F10.t29 C N O K (F10.fr x0 x1 x2 x3 x4 x5 x6 x7 x8 x9 x10 x11 x12 x13 x14 x15 x16 x17 x18 x19 x20 x21 x22 x23 x24 x25 x26 x27 x28 x29 x30 x31 x32 x33 x34) h nx = .ok True := by
 rw [F10.t29]
 refine loop_ok (fun m tm h nx => ∃ z3 z8 z9 z20 z21 z22, tm = (F10.fr x0 x1 x2 z3 x4 x5 x6 x7 z8 z9 x10 x11 x12 x13 x14 x15 x16 x17 x18 x19 z20 z21 z22 x23 x24 x25 x26 x27 x28 x29 x30 x31 x32 x33 x34) ∧ Inv m z20 h nx) ?_ hm ⟨_, _, _, _, _, _, rfl, hi⟩
 rintro m tm h nx R ⟨z3, z8, z9, z20, z21, z22, rfl, hi⟩ hR
 exact step m z3 z8 z9 z20 z21 z22 h nx R hi fun m' w3 w8 w9 w20 w21 w22 h' nx' hlt hi' => hR m' _ h' nx' hlt ⟨_, _, _, _, _, _, rfl, hi'⟩
theorem F10.t30_s {O : Outs Prop} {tm : T AV} : IR.run F10.t30 C N O K tm h nx = IR.run F10.t29 C N (O.blk 0 K) K tm h nx := srun_block ..
theorem F10.t31_s {O : Outs Prop} {tm : T AV} : IR.run F10.t31 C N O K tm h nx = IR.run F10.t8 C N O (IR.run F10.t30 C N O K) tm h nx := srun_seq ..
theorem F10.t32_s {O : Outs Prop} : IR.run F10.t32 C N O K (F10.fr x0 x1 x2 x3 x4 x5 x6 x7 x8 x9 x10 x11 x12 x13 x14 x15 x16 x17 x18 x19 x20 x21 x22 x23 x24 x25 x26 x27 x28 x29 x30 x31 x32 x33 x34) h nx =
 sLoadN 3 x2 h fun v1 =>
 C.fn 51 (.of 51) [v1] h nx fun v2 h3 n4 =>
 sExt 0 v2 fun v5 =>
 sExt 1 v2 fun v6 =>
 K (F10.fr x0 x1 x2 x3 x4 x5 x6 x7 x8 x9 v5 v6 x12 x13 x14 x15 x16 x17 x18 x19 x20 x21 x22 x23 x24 x25 x26 x27 x28 x29 x30 x31 x32 x33 x34) h3 n4 := by kernel_rfl
theorem F10.t33_s {O : Outs Prop} : IR.run F10.t33 C N O K (F10.fr x0 x1 x2 x3 x4 x5 x6 x7 x8 x9 x10 x11 x12 x13 x14 x15 x16 x17 x18 x19 x20 x21 x22 x23 x24 x25 x26 x27 x28 x29 x30 x31 x32 x33 x34) h nx =
 sBin .neq .int x11 (I 0) fun v1 =>
 K (F10.fr x0 x1 x2 x3 x4 x5 x6 x7 x8 x9 x10 x11 x12 x13 x14 x15 x16 x17 x18 x19 x20 x21 x22 v1 x24 x25 x26 x27 x28 x29 x30 x31 x32 x33 x34) h nx := by kernel_rfl
theorem F10.t36_s {O : Outs Prop} : IR.run F10.t36 C N O K (F10.fr x0 x1 x2 x3 x4 x5 x6 x7 x8 x9 x10 x11 x12 x13 x14 x15 x16 x17 x18 x19 x20 x21 x22 x23 x24 x25 x26 x27 x28 x29 x30 x31 x32 x33 x34) h nx = sCond x23 (IR.run F10.t35 C N O K (F10.fr x0 x1 x2 x3 x4 x5 x6 x7 x8 x9 x10 x11 x12 x13 x14 x15 x16 x17 x18 x19 x20 x21 x22 x23 x24 x25 x26 x27 x28 x29 x30 x31 x32 x33 x34) h nx) (IR.run .skip C N O K (F10.fr x0 x1 x2 x3 x4 x5 x6 x7 x8 x9 x10 x11 x12 x13 x14 x15 x16 x17 x18 x19 x20 x21 x22 x23 x24 x25 x26 x27 x28 x29 x30 x31 x32 x33 x34) h nx) := by
 have g : ∀ A B : IR, IR.run (.cond (.t (.of 23)) A B) C N O K (F10.fr x0 x1 x2 x3 x4 x5 x6 x7 x8 x9 x10 x11 x12 x13 x14 x15 x16 x17 x18 x19 x20 x21 x22 x23 x24 x25 x26 x27 x28 x29 x30 x31 x32 x33 x34) h nx = sCond x23 (IR.run A C N O K (F10.fr x0 x1 x2 x3 x4 x5 x6 x7 x8 x9 x10 x11 x12 x13 x14 x15 x16 x17 x18 x19 x20 x21 x22 x23 x24 x25 x26 x27 x28 x29 x30 x31 x32 x33 x34) h nx) (IR.run B C N O K (F10.fr x0 x1 x2 x3 x4 x5 x6 x7 x8 x9 x10 x11 x12 x13 x14 x15 x16 x17 x18 x19 x20 x21 x22 x23 x24 x25 x26 x27 x28 x29 x30 x31 x32 x33 x34) h nx) := fun A B => by kernel_rfl
 exact g _ _
theorem F10.t37_s {O : Outs Prop} {tm : T AV} : IR.run F10.t37 C N O K tm h nx = IR.run F10.t33 C N O (IR.run F10.t36 C N O K) tm h nx := srun_seq ..
theorem F10.t38_s {O : Outs Prop} : IR.run F10.t38 C N O K (F10.fr x0 x1 x2 x3 x4 x5 x6 x7 x8 x9 x10 x11 x12 x13 x14 x15 x16 x17 x18 x19 x20 x21 x22 x23 x24 x25 x26 x27 x28 x29 x30 x31 x32 x33 x34) h nx =
 C.fn 52 (.of 52) [x10] h nx fun v1 h2 n3 =>
 K (F10.fr x0 x1 x2 x3 x4 x5 x6 x7 x8 x9 x10 x11 v1 x13 x14 x15 x16 x17 x18 x19 x20 x21 x22 x23 x24 x25 x26 x27 x28 x29 x30 x31 x32 x33 x34) h2 n3 := by kernel_rfl
theorem F10.t39_s {O : Outs Prop} : IR.run F10.t39 C N O K (F10.fr x0 x1 x2 x3 x4 x5 x6 x7 x8 x9 x10 x11 x12 x13 x14 x15 x16 x17 x18 x19 x20 x21 x22 x23 x24 x25 x26 x27 x28 x29 x30 x31 x32 x33 x34) h nx =
 sLoadN 3 x5 h fun v1 =>
 sLoadN 3 x6 h fun v2 =>
 sLoadN 3 x7 h fun v3 =>
 sBslice 3 3 [(I 0), (I 0), .nils] [(0, 3, v1), (3, 3, v2), (6, 3, v3)] h nx fun v4 h5 n6 =>
 sLen v4 fun v7 =>
 K (F10.fr x0 x1 x2 x3 x4 x5 x6 x7 x8 x9 x10 x11 x12 x13 x14 x15 x16 x17 x18 x19 x20 x21 x22 x23 v4 v7 (I 0) x27 x28 x29 x30 x31 x32 x33 x34) h5 n6 := by kernel_rfl
theorem F10.t40_s {O : Outs Prop} : IR.run F10.t40 C N O K (F10.fr x0 x1 x2 x3 x4 x5 x6 x7 x8 x9 x10 x11 x12 x13 x14 x15 x16 x17 x18 x19 x20 x21 x22 x23 x24 x25 x26 x27 x28 x29 x30 x31 x32 x33 x34) h nx =
 sBin .lss .int x26 x25 fun v1 =>
 K (F10.fr x0 x1 x2 x3 x4 x5 x6 x7 x8 x9 x10 x11 x12 x13 x14 x15 x16 x17 x18 x19 x20 x21 x22 x23 x24 x25 x26 v1 x28 x29 x30 x31 x32 x33 x34) h nx := by kernel_rfl
theorem F10.t41_s {O : Outs Prop} : IR.run F10.t41 C N O K (F10.fr x0 x1 x2 x3 x4 x5 x6 x7 x8 x9 x10 x11 x12 x13 x14 x15 x16 x17 x18 x19 x20 x21 x22 x23 x24 x25 x26 x27 x28 x29 x30 x31 x32 x33 x34) h nx = sCond x27 (IR.run .skip C N O K (F10.fr x0 x1 x2 x3 x4 x5 x6 x7 x8 x9 x10 x11 x12 x13 x14 x15 x16 x17 x18 x19 x20 x21 x22 x23 x24 x25 x26 x27 x28 x29 x30 x31 x32 x33 x34) h nx) (IR.run (.exit 2) C N O K (F10.fr x0 x1 x2 x3 x4 x5 x6 x7 x8 x9 x10 x11 x12 x13 x14 x15 x16 x17 x18 x19 x20 x21 x22 x23 x24 x25 x26 x27 x28 x29 x30 x31 x32 x33 x34) h nx) := by
 have g : ∀ A B : IR, IR.run (.cond (.t (.of 27)) A B) C N O K (F10.fr x0 x1 x2 x3 x4 x5 x6 x7 x8 x9 x10 x11 x12 x13 x14 x15 x16 x17 x18 x19 x20 x21 x22 x23 x24 x25 x26 x27 x28 x29 x30 x31 x32 x33 x34) h nx = sCond x27 (IR.run A C N O K (F10.fr x0 x1 x2 x3 x4 x5 x6 x7 x8 x9 x10 x11 x12 x13 x14 x15 x16 x17 x18 x19 x20 x21 x22 x23 x24 x25 x26 x27 x28 x29 x30 x31 x32 x33 x34) h nx) (IR.run B C N O K (F10.fr x0 x1 x2 x3 x4 x5 x6 x7 x8 x9 x10 x11 x12 x13 x14 x15 x16 x17 x18 x19 x20 x21 x22 x23 x24 x25 x26 x27 x28 x29 x30 x31 x32 x33 x34) h nx) := fun A B => by kernel_rfl
 exact g _ _
theorem F10.t42_s {O : Outs Prop} : IR.run F10.t42 C N O K (F10.fr x0 x1 x2 x3 x4 x5 x6 x7 x8 x9 x10 x11 x12 x13 x14 x15 x16 x17 x18 x19 x20 x21 x22 x23 x24 x25 x26 x27 x28 x29 x30 x31 x32 x33 x34) h nx =
 sIaddr 3 x24 x26 fun v1 =>
 sLoadN 3 v1 h fun v2 =>
 sAlloc [(I 0), (I 0), .nils] h nx fun v3 h4 n5 =>
 sStore 3 v3 v2 h4 n5 fun v6 h7 n8 =>
 K (F10.fr x0 x1 x2 x3 x4 x5 x6 x7 x8 x9 x10 x11 x12 v3 x14 x15 x16 x17 x18 x19 x20 x21 x22 x23 x24 x25 x26 x27 x28 x29 x30 x31 x32 x33 x34) h7 n8 := by kernel_rfl
theorem F10.t43_s {O : Outs Prop} : IR.run F10.t43 C N O K (F10.fr x0 x1 x2 x3 x4 x5 x6 x7 x8 x9 x10 x11 x12 x13 x14 x15 x16 x17 x18 x19 x20 x21 x22 x23 x24 x25 x26 x27 x28 x29 x30 x31 x32 x33 x34) h nx =
 sLoadN 3 x13 h fun v1 =>
 C.fn 51 (.of 51) [v1] h nx fun v2 h3 n4 =>
 sExt 0 v2 fun v5 =>
 sExt 1 v2 fun v6 =>
 K (F10.fr x0 x1 x2 x3 x4 x5 x6 x7 x8 x9 x10 x11 x12 x13 v5 v6 x16 x17 x18 x19 x20 x21 x22 x23 x24 x25 x26 x27 x28 x29 x30 x31 x32 x33 x34) h3 n4 := by kernel_rfl
theorem F10.t44_s {O : Outs Prop} : IR.run F10.t44 C N O K (F10.fr x0 x1 x2 x3 x4 x5 x6 x7 x8 x9 x10 x11 x12 x13 x14 x15 x16 x17 x18 x19 x20 x21 x22 x23 x24 x25 x26 x27 x28 x29 x30 x31 x32 x33 x34) h nx =
 sBin .neq .int x15 (I 0) fun v1 =>
 K (F10.fr x0 x1 x2 x3 x4 x5 x6 x7 x8 x9 x10 x11 x12 x13 x14 x15 x16 x17 x18 x19 x20 x21 x22 x23 x24 x25 x26 x27 v1 x29 x30 x31 x32 x33 x34) h nx := by kernel_rfl
theorem F10.t47_s {O : Outs Prop} : IR.run F10.t47 C N O K (F10.fr x0 x1 x2 x3 x4 x5 x6 x7 x8 x9 x10 x11 x12 x13 x14 x15 x16 x17 x18 x19 x20 x21 x22 x23 x24 x25 x26 x27 x28 x29 x30 x31 x32 x33 x34) h nx = sCond x28 (IR.run F10.t46 C N O K (F10.fr x0 x1 x2 x3 x4 x5 x6 x7 x8 x9 x10 x11 x12 x13 x14 x15 x16 x17 x18 x19 x20 x21 x22 x23 x24 x25 x26 x27 x28 x29 x30 x31 x32 x33 x34) h nx) (IR.run .skip C N O K (F10.fr x0 x1 x2 x3 x4 x5 x6 x7 x8 x9 x10 x11 x12 x13 x14 x15 x16 x17 x18 x19 x20 x21 x22 x23 x24 x25 x26 x27 x28 x29 x30 x31 x32 x33 x34) h nx) := by
 have g : ∀ A B : IR, IR.run (.cond (.t (.of 28)) A B) C N O K (F10.fr x0 x1 x2 x3 x4 x5 x6 x7 x8 x9 x10 x11 x12 x13 x14 x15 x16 x17 x18 x19 x20 x21 x22 x23 x24 x25 x26 x27 x28 x29 x30 x31 x32 x33 x34) h nx = sCond x28 (IR.run A C N O K (F10.fr x0 x1 x2 x3 x4 x5 x6 x7 x8 x9 x10 x11 x12 x13 x14 x15 x16 x17 x18 x19 x20 x21 x22 x23 x24 x25 x26 x27 x28 x29 x30 x31 x32 x33 x34) h nx) (IR.run B C N O K (F10.fr x0 x1 x2 x3 x4 x5 x6 x7 x8 x9 x10 x11 x12 x13 x14 x15 x16 x17 x18 x19 x20 x21 x22 x23 x24 x25 x26 x27 x28 x29 x30 x31 x32 x33 x34) h nx) := fun A B => by kernel_rfl
 exact g _ _
theorem F10.t48_s {O : Outs Prop} {tm : T AV} : IR.run F10.t48 C N O K tm h nx = IR.run F10.t44 C N O (IR.run F10.t47 C N O K) tm h nx := srun_seq ..
theorem F10.t49_s {O : Outs Prop} : IR.run F10.t49 C N O K (F10.fr x0 x1 x2 x3 x4 x5 x6 x7 x8 x9 x10 x11 x12 x13 x14 x15 x16 x17 x18 x19 x20 x21 x22 x23 x24 x25 x26 x27 x28 x29 x30 x31 x32 x33 x34) h nx =
 C.fn 52 (.of 52) [x14] h nx fun v1 h2 n3 =>
 C.fn 53 (.of 53) [x12, v1] h2 n3 fun v4 h5 n6 =>
 sNot v4 fun v7 =>
 K (F10.fr x0 x1 x2 x3 x4 x5 x6 x7 x8 x9 x10 x11 x12 x13 x14 x15 x16 x17 x18 x19 x20 x21 x22 x23 x24 x25 x26 x27 x28 v7 x30 x31 x32 x33 x34) h5 n6 := by kernel_rfl
theorem F10.t52_s {O : Outs Prop} : IR.run F10.t52 C N O K (F10.fr x0 x1 x2 x3 x4 x5 x6 x7 x8 x9 x10 x11 x12 x13 x14 x15 x16 x17 x18 x19 x20 x21 x22 x23 x24 x25 x26 x27 x28 x29 x30 x31 x32 x33 x34) h nx = sCond x29 (IR.run F10.t51 C N O K (F10.fr x0 x1 x2 x3 x4 x5 x6 x7 x8 x9 x10 x11 x12 x13 x14 x15 x16 x17 x18 x19 x20 x21 x22 x23 x24 x25 x26 x27 x28 x29 x30 x31 x32 x33 x34) h nx) (IR.run .skip C N O K (F10.fr x0 x1 x2 x3 x4 x5 x6 x7 x8 x9 x10 x11 x12 x13 x14 x15 x16 x17 x18 x19 x20 x21 x22 x23 x24 x25 x26 x27 x28 x29 x30 x31 x32 x33 x34) h nx) := by
 have g : ∀ A B : IR, IR.run (.cond (.t (.of 29)) A B) C N O K (F10.fr x0 x1 x2 x3 x4 x5 x6 x7 x8 x9 x10 x11 x12 x13 x14 x15 x16 x17 x18 x19 x20 x21 x22 x23 x24 x25 x26 x27 x28 x29 x30 x31 x32 x33 x34) h nx = sCond x29 (IR.run A C N O K (F10.fr x0 x1 x2 x3 x4 x5 x6 x7 x8 x9 x10 x11 x12 x13 x14 x15 x16 x17 x18 x19 x20 x21 x22 x23 x24 x25 x26 x27 x28 x29 x30 x31 x32 x33 x34) h nx) (IR.run B C N O K (F10.fr x0 x1 x2 x3 x4 x5 x6 x7 x8 x9 x10 x11 x12 x13 x14 x15 x16 x17 x18 x19 x20 x21 x22 x23 x24 x25 x26 x27 x28 x29 x30 x31 x32 x33 x34) h nx) := fun A B => by kernel_rfl
 exact g _ _
theorem F10.t53_s {O : Outs Prop} {tm : T AV} : IR.run F10.t53 C N O K tm h nx = IR.run F10.t49 C N O (IR.run F10.t52 C N O K) tm h nx := srun_seq ..
theorem F10.t54_s {O : Outs Prop} {tm : T AV} : IR.run F10.t54 C N O K tm h nx = IR.run F10.t48 C N O (IR.run F10.t53 C N O K) tm h nx := srun_seq ..
theorem F10.t55_s {O : Outs Prop} {tm : T AV} : IR.run F10.t55 C N O K tm h nx = IR.run F10.t43 C N O (IR.run F10.t54 C N O K) tm h nx := srun_seq ..
theorem F10.t56_s {O : Outs Prop} {tm : T AV} : IR.run F10.t56 C N O K tm h nx = IR.run F10.t42 C N O (IR.run F10.t55 C N O K) tm h nx := srun_seq ..
theorem F10.t57_s {O : Outs Prop} {tm : T AV} : IR.run F10.t57 C N O K tm h nx = IR.run F10.t56 C N (O.blk 3 K) K tm h nx := srun_block ..
theorem F10.t58_s {O : Outs Prop} : IR.run F10.t58 C N O K (F10.fr x0 x1 x2 x3 x4 x5 x6 x7 x8 x9 x10 x11 x12 x13 x14 x15 x16 x17 x18 x19 x20 x21 x22 x23 x24 x25 x26 x27 x28 x29 x30 x31 x32 x33 x34) h nx =
 sBin .add .int x26 (I 1) fun v1 =>
 K (F10.fr x0 x1 x2 x3 x4 x5 x6 x7 x8 x9 x10 x11 x12 x13 x14 x15 x16 x17 x18 x19 x20 x21 x22 x23 x24 x25 v1 x27 x28 x29 x30 x31 x32 x33 x34) h nx := by kernel_rfl
theorem F10.t59_s {O : Outs Prop} {tm : T AV} : IR.run F10.t59 C N O K tm h nx = IR.run F10.t57 C N O (IR.run F10.t58 C N O K) tm h nx := srun_seq ..
theorem F10.t60_s {O : Outs Prop} {tm : T AV} : IR.run F10.t60 C N O K tm h nx = IR.run F10.t41 C N O (IR.run F10.t59 C N O K) tm h nx := srun_seq ..
theorem F10.t61_s {O : Outs Prop} {tm : T AV} : IR.run F10.t61 C N O K tm h nx = IR.run F10.t40 C N O (IR.run F10.t60 C N O K) tm h nx := srun_seq ..
theorem F10.t62_L {O : Outs Prop} (Inv : Nat → AV → T Blk → Pa → Prop) {m : Nat} (hm : m < N) (hi : Inv m x26 h nx)
  (step : ∀ (m : Nat) (z3 z13 z14 z15 z26 z27 z28 z29 : AV) (h : T Blk) (nx : Pa) (R : Ks Prop), Inv m z26 h nx → (∀ (m' : Nat) (w3 w13 w14 w15 w26 w27 w28 w29 : AV) (h' : T Blk) (nx' : Pa), m' < m → Inv m' w26 h' nx' → R (F10.fr x0 x1 x2 w3 x4 x5 x6 x7 x8 x9 x10 x11 x12 w13 w14 w15 x16 x17 x18 x19 x20 x21 x22 x23 x24 x25 w26 w27 w28 w29 x30 x31 x32 x33 x34) h' nx' = .ok True) → IR.run F10.t61 C N O R (F10.fr x0 x1 x2 z3 x4 x5 x6 x7 x8 x9 x10 x11 x12 z13 z14 z15 x16 x17 x18 x19 x20 x21 x22 x23 x24 x25 z26 z27 z28 z29 x30 x31 x32 x33 x34) h nx = .ok True) :
  IR.run F10.t62 C N O K (F10.fr x0 x1 x2 x3 x4 x5 x6 x7 x8 x9 x10 x11 x12 x13 x14 x15 x16 x17 x18 x19 x20 x21 x22 x23 x24 x25 x26 x27 x28 x29 x30 x31 x32 x33 x34) h nx = .ok True := by
 rw [F10.t62]
 refine loop_ok (fun m tm h nx => ∃ z3 z13 z14 z15 z26 z27 z28 z29, tm = (F10.fr x0 x1 x2 z3 x4 x5 x6 x7 x8 x9 x10 x11 x12 z13 z14 z15 x16 x17 x18 x19 x20 x21 x22 x23 x24 x25 z26 z27 z28 z29 x30 x31 x32 x33 x34) ∧ Inv m z26 h nx) ?_ hm ⟨_, _, _, _, _, _, _, _, rfl, hi⟩
 rintro m tm h nx R ⟨z3, z13, z14, z15, z26, z27, z28, z29, rfl, hi⟩ hR
 exact step m z3 z13 z14 z15 z26 z27 z28 z29 h nx R hi fun m' w3 w13 w14 w15 w26 w27 w28 w29 h' nx' hlt hi' => hR m' _ h' nx' hlt ⟨_, _, _, _, _, _, _, _, rfl, hi'⟩
theorem F10.t63_s {O : Outs Prop} {tm : T AV} : IR.run F10.t63 C N O K tm h nx = IR.run F10.t62 C N (O.blk 2 K) K tm h nx := srun_block ..
theorem F10.t64_s {O : Outs Prop} {tm : T AV} : IR.run F10.t64 C N O K tm h nx = IR.run F10.t39 C N O (IR.run F10.t63 C N O K) tm h nx := srun_seq ..
theorem F10.t65_s {O : Outs Prop} : IR.run F10.t65 C N O K (F10.fr x0 x1 x2 x3 x4 x5 x6 x7 x8 x9 x10 x11 x12 x13 x14 x15 x16 x17 x18 x19 x20 x21 x22 x23 x24 x25 x26 x27 x28 x29 x30 x31 x32 x33 x34) h nx =
 sBslice 1 5 [(.str [])] [(0, 1, (.str [112, 97, 110, 100, 105, 97, 103, 111, 110, 97, 108])), (1, 1, (.str [97, 115, 115, 111, 99, 105, 97, 116, 105, 118, 101])), (2, 1, (.str [109, 111, 115, 116, 45, 112, 101, 114, 102, 101, 99, 116])), (3, 1, (.str [98, 111, 114, 100, 101, 114, 101, 100])), (4, 1, (.str [98, 105, 109, 97, 103, 105, 99]))] h nx fun v1 h2 n3 =>
 sLen v1 fun v4 =>
 K (F10.fr x0 x1 x2 x3 x4 x5 x6 x7 x8 x9 x10 x11 x12 x13 x14 x15 x16 x17 x18 x19 x20 x21 x22 x23 x24 x25 x26 x27 x28 x29 v1 v4 (I 0) x33 x34) h2 n3 := by kernel_rfl
theorem F10.t66_s {O : Outs Prop} : IR.run F10.t66 C N O K (F10.fr x0 x1 x2 x3 x4 x5 x6 x7 x8 x9 x10 x11 x12 x13 x14 x15 x16 x17 x18 x19 x20 x21 x22 x23 x24 x25 x26 x27 x28 x29 x30 x31 x32 x33 x34) h nx =
 sBin .lss .int x32 x31 fun v1 =>
 K (F10.fr x0 x1 x2 x3 x4 x5 x6 x7 x8 x9 x10 x11 x12 x13 x14 x15 x16 x17 x18 x19 x20 x21 x22 x23 x24 x25 x26 x27 x28 x29 x30 x31 x32 v1 x34) h nx := by kernel_rfl
theorem F10.t67_s {O : Outs Prop} : IR.run F10.t67 C N O K (F10.fr x0 x1 x2 x3 x4 x5 x6 x7 x8 x9 x10 x11 x12 x13 x14 x15 x16 x17 x18 x19 x20 x21 x22 x23 x24 x25 x26 x27 x28 x29 x30 x31 x32 x33 x34) h nx = sCond x33 (IR.run .skip C N O K (F10.fr x0 x1 x2 x3 x4 x5 x6 x7 x8 x9 x10 x11 x12 x13 x14 x15 x16 x17 x18 x19 x20 x21 x22 x23 x24 x25 x26 x27 x28 x29 x30 x31 x32 x33 x34) h nx) (IR.run (.exit 4) C N O K (F10.fr x0 x1 x2 x3 x4 x5 x6 x7 x8 x9 x10 x11 x12 x13 x14 x15 x16 x17 x18 x19 x20 x21 x22 x23 x24 x25 x26 x27 x28 x29 x30 x31 x32 x33 x34) h nx) := by
 have g : ∀ A B : IR, IR.run (.cond (.t (.of 33)) A B) C N O K (F10.fr x0 x1 x2 x3 x4 x5 x6 x7 x8 x9 x10 x11 x12 x13 x14 x15 x16 x17 x18 x19 x20 x21 x22 x23 x24 x25 x26 x27 x28 x29 x30 x31 x32 x33 x34) h nx = sCond x33 (IR.run A C N O K (F10.fr x0 x1 x2 x3 x4 x5 x6 x7 x8 x9 x10 x11 x12 x13 x14 x15 x16 x17 x18 x19 x20 x21 x22 x23 x24 x25 x26 x27 x28 x29 x30 x31 x32 x33 x34) h nx) (IR.run B C N O K (F10.fr x0 x1 x2 x3 x4 x5 x6 x7 x8 x9 x10 x11 x12 x13 x14 x15 x16 x17 x18 x19 x20 x21 x22 x23 x24 x25 x26 x27 x28 x29 x30 x31 x32 x33 x34) h nx) := fun A B => by kernel_rfl
 exact g _ _
theorem F10.t68_s {O : Outs Prop} : IR.run F10.t68 C N O K (F10.fr x0 x1 x2 x3 x4 x5 x6 x7 x8 x9 x10 x11 x12 x13 x14 x15 x16 x17 x18 x19 x20 x21 x22 x23 x24 x25 x26 x27 x28 x29 x30 x31 x32 x33 x34) h nx =
 sIaddr 1 x30 x32 fun v1 =>
 sLoad v1 h fun v2 =>
 K (F10.fr x0 x1 x2 x3 x4 x5 x6 x7 x8 x9 x10 x11 x12 x13 x14 x15 v2 x17 x18 x19 x20 x21 x22 x23 x24 x25 x26 x27 x28 x29 x30 x31 x32 x33 x34) h nx := by kernel_rfl
theorem F10.t69_s {O : Outs Prop} : IR.run F10.t69 C N O K (F10.fr x0 x1 x2 x3 x4 x5 x6 x7 x8 x9 x10 x11 x12 x13 x14 x15 x16 x17 x18 x19 x20 x21 x22 x23 x24 x25 x26 x27 x28 x29 x30 x31 x32 x33 x34) h nx =
 C.fn 54 (.of 54) [x10, x16] h nx fun v1 h2 n3 =>
 sG v1 true (fun k => k x10) fun v4 =>
 sGW v1 true (fun k => C.fn 54 (.of 54) [v4, (.str [109, 97, 103, 105, 99])] h2 n3 k) h2 n3 fun v5 h6 n7 =>
 sG v1 true (fun k => sNot v5 k) fun v8 =>
 sPick v1 v8 (.bool false) fun v9 =>
 K (F10.fr x0 x1 x2 x3 x4 x5 x6 x7 x8 x9 x10 x11 x12 x13 x14 x15 x16 x17 x18 x19 x20 x21 x22 x23 x24 x25 x26 x27 x28 x29 x30 x31 x32 x33 v9) h6 n7 := by kernel_rfl
theorem F10.t72_s {O : Outs Prop} : IR.run F10.t72 C N O K (F10.fr x0 x1 x2 x3 x4 x5 x6 x7 x8 x9 x10 x11 x12 x13 x14 x15 x16 x17 x18 x19 x20 x21 x22 x23 x24 x25 x26 x27 x28 x29 x30 x31 x32 x33 x34) h nx = sCond x34 (IR.run F10.t71 C N O K (F10.fr x0 x1 x2 x3 x4 x5 x6 x7 x8 x9 x10 x11 x12 x13 x14 x15 x16 x17 x18 x19 x20 x21 x22 x23 x24 x25 x26 x27 x28 x29 x30 x31 x32 x33 x34) h nx) (IR.run .skip C N O K (F10.fr x0 x1 x2 x3 x4 x5 x6 x7 x8 x9 x10 x11 x12 x13 x14 x15 x16 x17 x18 x19 x20 x21 x22 x23 x24 x25 x26 x27 x28 x29 x30 x31 x32 x33 x34) h nx) := by
 have g : ∀ A B : IR, IR.run (.cond (.t (.of 34)) A B) C N O K (F10.fr x0 x1 x2 x3 x4 x5 x6 x7 x8 x9 x10 x11 x12 x13 x14 x15 x16 x17 x18 x19 x20 x21 x22 x23 x24 x25 x26 x27 x28 x29 x30 x31 x32 x33 x34) h nx = sCond x34 (IR.run A C N O K (F10.fr x0 x1 x2 x3 x4 x5 x6 x7 x8 x9 x10 x11 x12 x13 x14 x15 x16 x17 x18 x19 x20 x21 x22 x23 x24 x25 x26 x27 x28 x29 x30 x31 x32 x33 x34) h nx) (IR.run B C N O K (F10.fr x0 x1 x2 x3 x4 x5 x6 x7 x8 x9 x10 x11 x12 x13 x14 x15 x16 x17 x18 x19 x20 x21 x22 x23 x24 x25 x26 x27 x28 x29 x30 x31 x32 x33 x34) h nx) := fun A B => by kernel_rfl
 exact g _ _
theorem F10.t73_s {O : Outs Prop} {tm : T AV} : IR.run F10.t73 C N O K tm h nx = IR.run F10.t69 C N O (IR.run F10.t72 C N O K) tm h nx := srun_seq ..
theorem F10.t74_s {O : Outs Prop} {tm : T AV} : IR.run F10.t74 C N O K tm h nx = IR.run F10.t68 C N O (IR.run F10.t73 C N O K) tm h nx := srun_seq ..
theorem F10.t75_s {O : Outs Prop} {tm : T AV} : IR.run F10.t75 C N O K tm h nx = IR.run F10.t74 C N (O.blk 5 K) K tm h nx := srun_block ..
theorem F10.t76_s {O : Outs Prop} : IR.run F10.t76 C N O K (F10.fr x0 x1 x2 x3 x4 x5 x6 x7 x8 x9 x10 x11 x12 x13 x14 x15 x16 x17 x18 x19 x20 x21 x22 x23 x24 x25 x26 x27 x28 x29 x30 x31 x32 x33 x34) h nx =
 sBin .add .int x32 (I 1) fun v1 =>
 K (F10.fr x0 x1 x2 x3 x4 x5 x6 x7 x8 x9 x10 x11 x12 x13 x14 x15 x16 x17 x18 x19 x20 x21 x22 x23 x24 x25 x26 x27 x28 x29 x30 x31 v1 x33 x34) h nx := by kernel_rfl
theorem F10.t77_s {O : Outs Prop} {tm : T AV} : IR.run F10.t77 C N O K tm h nx = IR.run F10.t75 C N O (IR.run F10.t76 C N O K) tm h nx := srun_seq ..
theorem F10.t78_s {O : Outs Prop} {tm : T AV} : IR.run F10.t78 C N O K tm h nx = IR.run F10.t67 C N O (IR.run F10.t77 C N O K) tm h nx := srun_seq ..
theorem F10.t79_s {O : Outs Prop} {tm : T AV} : IR.run F10.t79 C N O K tm h nx = IR.run F10.t66 C N O (IR.run F10.t78 C N O K) tm h nx := srun_seq ..
theorem F10.t80_L {O : Outs Prop} (Inv : Nat → AV → T Blk → Pa → Prop) {m : Nat} (hm : m < N) (hi : Inv m x32 h nx)
  (step : ∀ (m : Nat) (z3 z16 z32 z33 z34 : AV) (h : T Blk) (nx : Pa) (R : Ks Prop), Inv m z32 h nx → (∀ (m' : Nat) (w3 w16 w32 w33 w34 : AV) (h' : T Blk) (nx' : Pa), m' < m → Inv m' w32 h' nx' → R (F10.fr x0 x1 x2 w3 x4 x5 x6 x7 x8 x9 x10 x11 x12 x13 x14 x15 w16 x17 x18 x19 x20 x21 x22 x23 x24 x25 x26 x27 x28 x29 x30 x31 w32 w33 w34) h' nx' = .ok True) → IR.run F10.t79 C N O R (F10.fr x0 x1 x2 z3 x4 x5 x6 x7 x8 x9 x10 x11 x12 x13 x14 x15 z16 x17 x18 x19 x20 x21 x22 x23 x24 x25 x26 x27 x28 x29 x30 x31 z32 z33 z34) h nx = .ok True) :
  IR.run F10.t80 C N O K (F10.fr x0 x1 x2 x3 x4 x5 x6 x7 x8 x9 x10 x11 x12 x13 x14 x15 x16 x17 x18 x19 x20 x21 x22 x23 x24 x25 x26 x27 x28 x29 x30 x31 x32 x33 x34) h nx = .ok True := by
 rw [F10.t80]
 refine loop_ok (fun m tm h nx => ∃ z3 z16 z32 z33 z34, tm = (F10.fr x0 x1 x2 z3 x4 x5 x6 x7 x8 x9 x10 x11 x12 x13 x14 x15 z16 x17 x18 x19 x20 x21 x22 x23 x24 x25 x26 x27 x28 x29 x30 x31 z32 z33 z34) ∧ Inv m z32 h nx) ?_ hm ⟨_, _, _, _, _, rfl, hi⟩
 rintro m tm h nx R ⟨z3, z16, z32, z33, z34, rfl, hi⟩ hR
 exact step m z3 z16 z32 z33 z34 h nx R hi fun m' w3 w16 w32 w33 w34 h' nx' hlt hi' => hR m' _ h' nx' hlt ⟨_, _, _, _, _, rfl, hi'⟩
theorem F10.t81_s {O : Outs Prop} {tm : T AV} : IR.run F10.t81 C N O K tm h nx = IR.run F10.t80 C N (O.blk 4 K) K tm h nx := srun_block ..
theorem F10.t82_s {O : Outs Prop} {tm : T AV} : IR.run F10.t82 C N O K tm h nx = IR.run F10.t65 C N O (IR.run F10.t81 C N O K) tm h nx := srun_seq ..
theorem F10.t83_s {O : Outs Prop} {tm : T AV} : IR.run F10.t83 C N O K tm h nx = evOps F10.r31_0 C ⟨tm, []⟩ h nx (fun tm h nx => K tm.v h nx) := srun_reg ..
theorem F10.r31_0_g {r : List RO} {Kt : KTm} : evOps (.s (.mv (.t (.of 10))) :: .w .push none (.call (.c (.fn 54 (.of 54) [])) [(.s 0), (.c (.str [109, 97, 103, 105, 99]))]) :: r) C ⟨(F10.fr x0 x1 x2 x3 x4 x5 x6 x7 x8 x9 x10 x11 x12 x13 x14 x15 x16 x17 x18 x19 x20 x21 x22 x23 x24 x25 x26 x27 x28 x29 x30 x31 x32 x33 x34), []⟩ h nx Kt =
 C.fn 54 (.of 54) [x10, (.str [109, 97, 103, 105, 99])] h nx fun v1 h2 n3 =>
 evOps r C ⟨(F10.fr x0 x1 x2 x3 x4 x5 x6 x7 x8 x9 x10 x11 x12 x13 x14 x15 x16 x17 x18 x19 x20 x21 x22 x23 x24 x25 x26 x27 x28 x29 x30 x31 x32 x33 x34), v1 :: x10 :: []⟩ h2 n3 Kt := by kernel_rfl
theorem F10.r31_0_s {Kt : KTm} : evOps F10.r31_0 C ⟨(F10.fr x0 x1 x2 x3 x4 x5 x6 x7 x8 x9 x10 x11 x12 x13 x14 x15 x16 x17 x18 x19 x20 x21 x22 x23 x24 x25 x26 x27 x28 x29 x30 x31 x32 x33 x34), []⟩ h nx Kt =
 C.fn 54 (.of 54) [x10, (.str [109, 97, 103, 105, 99])] h nx fun v1 h2 n3 =>
 evOps F10.r31_1 C ⟨(F10.fr x0 x1 x2 x3 x4 x5 x6 x7 x8 x9 x10 x11 x12 x13 x14 x15 x16 x17 x18 x19 x20 x21 x22 x23 x24 x25 x26 x27 x28 x29 x30 x31 x32 x33 x34), v1 :: x10 :: []⟩ h2 n3 Kt := F10.r31_0_g
theorem F10.r31_1_g {s0 s1 : AV} {r : List RO} {Kt : KTm} : evOps (.s (.not (.s 0)) :: .s (.mv (.s 0)) :: .p .push (some ((.s 0), false)) (.mv (.t (.of 10))) :: .w .push (some ((.s 1), false)) (.call (.c (.fn 54 (.of 54) [])) [(.s 0), (.c (.str [115, 101, 109, 105, 109, 97, 103, 105, 99]))]) :: r) C ⟨(F10.fr x0 x1 x2 x3 x4 x5 x6 x7 x8 x9 x10 x11 x12 x13 x14 x15 x16 x17 x18 x19 x20 x21 x22 x23 x24 x25 x26 x27 x28 x29 x30 x31 x32 x33 x34), s0 :: s1 :: []⟩ h nx Kt =
 sNot s0 fun v1 =>
 sG v1 false (fun k => k x10) fun v2 =>
 sGW v1 false (fun k => C.fn 54 (.of 54) [v2, (.str [115, 101, 109, 105, 109, 97, 103, 105, 99])] h nx k) h nx fun v3 h4 n5 =>
 evOps r C ⟨(F10.fr x0 x1 x2 x3 x4 x5 x6 x7 x8 x9 x10 x11 x12 x13 x14 x15 x16 x17 x18 x19 x20 x21 x22 x23 x24 x25 x26 x27 x28 x29 x30 x31 x32 x33 x34), v3 :: v2 :: v1 :: v1 :: s0 :: s1 :: []⟩ h4 n5 Kt := by kernel_rfl
theorem F10.r31_1_s {s0 s1 : AV} {Kt : KTm} : evOps F10.r31_1 C ⟨(F10.fr x0 x1 x2 x3 x4 x5 x6 x7 x8 x9 x10 x11 x12 x13 x14 x15 x16 x17 x18 x19 x20 x21 x22 x23 x24 x25 x26 x27 x28 x29 x30 x31 x32 x33 x34), s0 :: s1 :: []⟩ h nx Kt =
 sNot s0 fun v1 =>
 sG v1 false (fun k => k x10) fun v2 =>
 sGW v1 false (fun k => C.fn 54 (.of 54) [v2, (.str [115, 101, 109, 105, 109, 97, 103, 105, 99])] h nx k) h nx fun v3 h4 n5 =>
 evOps F10.r31_2 C ⟨(F10.fr x0 x1 x2 x3 x4 x5 x6 x7 x8 x9 x10 x11 x12 x13 x14 x15 x16 x17 x18 x19 x20 x21 x22 x23 x24 x25 x26 x27 x28 x29 x30 x31 x32 x33 x34), v3 :: v2 :: v1 :: v1 :: s0 :: s1 :: []⟩ h4 n5 Kt := F10.r31_1_g
theorem F10.r31_2_g {s0 s1 s2 s3 s4 s5 : AV} {r : List RO} {Kt : KTm} : evOps (.s (.pick (.s 2) (.c (.bool true)) (.s 0)) :: .s (.mv (.s 0)) :: .p .push (some ((.s 0), true)) (.mv (.t (.of 10))) :: .w .push (some ((.s 1), true)) (.call (.c (.fn 54 (.of 54) [])) [(.s 0), (.c (.str [109, 111, 115, 116, 45, 112, 101, 114, 102, 101, 99, 116]))]) :: r) C ⟨(F10.fr x0 x1 x2 x3 x4 x5 x6 x7 x8 x9 x10 x11 x12 x13 x14 x15 x16 x17 x18 x19 x20 x21 x22 x23 x24 x25 x26 x27 x28 x29 x30 x31 x32 x33 x34), s0 :: s1 :: s2 :: s3 :: s4 :: s5 :: []⟩ h nx Kt =
 sPick s2 (.bool true) s0 fun v1 =>
 sG v1 true (fun k => k x10) fun v2 =>
 sGW v1 true (fun k => C.fn 54 (.of 54) [v2, (.str [109, 111, 115, 116, 45, 112, 101, 114, 102, 101, 99, 116])] h nx k) h nx fun v3 h4 n5 =>
 evOps r C ⟨(F10.fr x0 x1 x2 x3 x4 x5 x6 x7 x8 x9 x10 x11 x12 x13 x14 x15 x16 x17 x18 x19 x20 x21 x22 x23 x24 x25 x26 x27 x28 x29 x30 x31 x32 x33 x34), v3 :: v2 :: v1 :: v1 :: s0 :: s1 :: s2 :: s3 :: s4 :: s5 :: []⟩ h4 n5 Kt := by kernel_rfl
theorem F10.r31_2_s {s0 s1 s2 s3 s4 s5 : AV} {Kt : KTm} : evOps F10.r31_2 C ⟨(F10.fr x0 x1 x2 x3 x4 x5 x6 x7 x8 x9 x10 x11 x12 x13 x14 x15 x16 x17 x18 x19 x20 x21 x22 x23 x24 x25 x26 x27 x28 x29 x30 x31 x32 x33 x34), s0 :: s1 :: s2 :: s3 :: s4 :: s5 :: []⟩ h nx Kt =
 sPick s2 (.bool true) s0 fun v1 =>
 sG v1 true (fun k => k x10) fun v2 =>
 sGW v1 true (fun k => C.fn 54 (.of 54) [v2, (.str [109, 111, 115, 116, 45, 112, 101, 114, 102, 101, 99, 116])] h nx k) h nx fun v3 h4 n5 =>
 evOps F10.r31_3 C ⟨(F10.fr x0 x1 x2 x3 x4 x5 x6 x7 x8 x9 x10 x11 x12 x13 x14 x15 x16 x17 x18 x19 x20 x21 x22 x23 x24 x25 x26 x27 x28 x29 x30 x31 x32 x33 x34), v3 :: v2 :: v1 :: v1 :: s0 :: s1 :: s2 :: s3 :: s4 :: s5 :: []⟩ h4 n5 Kt := F10.r31_2_g
theorem F10.r31_3_g {s0 s1 s2 s3 s4 s5 s6 s7 s8 s9 : AV} {r : List RO} {Kt : KTm} : evOps (.p .push (some ((.s 2), true)) (.not (.s 0)) :: .p .push (some ((.s 3), true)) (.mv (.s 0)) :: .p .push (some ((.s 0), false)) (.mv (.t (.of 10))) :: .w .push (some ((.s 1), false)) (.call (.c (.fn 54 (.of 54) [])) [(.s 0), (.c (.str [112, 97, 110, 100, 105, 97, 103, 111, 110, 97, 108]))]) :: r) C ⟨(F10.fr x0 x1 x2 x3 x4 x5 x6 x7 x8 x9 x10 x11 x12 x13 x14 x15 x16 x17 x18 x19 x20 x21 x22 x23 x24 x25 x26 x27 x28 x29 x30 x31 x32 x33 x34), s0 :: s1 :: s2 :: s3 :: s4 :: s5 :: s6 :: s7 :: s8 :: s9 :: []⟩ h nx Kt =
 sG s2 true (fun k => sNot s0 k) fun v1 =>
 sG s2 true (fun k => k v1) fun v2 =>
 sG v2 false (fun k => k x10) fun v3 =>
 sGW v2 false (fun k => C.fn 54 (.of 54) [v3, (.str [112, 97, 110, 100, 105, 97, 103, 111, 110, 97, 108])] h nx k) h nx fun v4 h5 n6 =>
 evOps r C ⟨(F10.fr x0 x1 x2 x3 x4 x5 x6 x7 x8 x9 x10 x11 x12 x13 x14 x15 x16 x17 x18 x19 x20 x21 x22 x23 x24 x25 x26 x27 x28 x29 x30 x31 x32 x33 x34), v4 :: v3 :: v2 :: v1 :: s0 :: s1 :: s2 :: s3 :: s4 :: s5 :: s6 :: s7 :: s8 :: s9 :: []⟩ h5 n6 Kt := by kernel_rfl
theorem F10.r31_3_s {s0 s1 s2 s3 s4 s5 s6 s7 s8 s9 : AV} {Kt : KTm} : evOps F10.r31_3 C ⟨(F10.fr x0 x1 x2 x3 x4 x5 x6 x7 x8 x9 x10 x11 x12 x13 x14 x15 x16 x17 x18 x19 x20 x21 x22 x23 x24 x25 x26 x27 x28 x29 x30 x31 x32 x33 x34), s0 :: s1 :: s2 :: s3 :: s4 :: s5 :: s6 :: s7 :: s8 :: s9 :: []⟩ h nx Kt =
 sG s2 true (fun k => sNot s0 k) fun v1 =>
 sG s2 true (fun k => k v1) fun v2 =>
 sG v2 false (fun k => k x10) fun v3 =>
 sGW v2 false (fun k => C.fn 54 (.of 54) [v3, (.str [112, 97, 110, 100, 105, 97, 103, 111, 110, 97, 108])] h nx k) h nx fun v4 h5 n6 =>
 evOps F10.r31_4 C ⟨(F10.fr x0 x1 x2 x3 x4 x5 x6 x7 x8 x9 x10 x11 x12 x13 x14 x15 x16 x17 x18 x19 x20 x21 x22 x23 x24 x25 x26 x27 x28 x29 x30 x31 x32 x33 x34), v4 :: v3 :: v2 :: v1 :: s0 :: s1 :: s2 :: s3 :: s4 :: s5 :: s6 :: s7 :: s8 :: s9 :: []⟩ h5 n6 Kt := F10.r31_3_g
theorem F10.r31_4_g {s0 s1 s2 s3 s4 s5 s6 s7 s8 s9 s10 s11 s12 s13 : AV} {r : List RO} {Kt : KTm} : evOps (.p .push (some ((.s 6), true)) (.pick (.s 2) (.c (.bool true)) (.s 0)) :: .s (.pick (.s 7) (.s 0) (.c (.bool false))) :: .s (.mv (.s 0)) :: .w .push (some ((.s 0), true)) (.call (.c (.fn 17 (.of 17) [])) []) :: r) C ⟨(F10.fr x0 x1 x2 x3 x4 x5 x6 x7 x8 x9 x10 x11 x12 x13 x14 x15 x16 x17 x18 x19 x20 x21 x22 x23 x24 x25 x26 x27 x28 x29 x30 x31 x32 x33 x34), s0 :: s1 :: s2 :: s3 :: s4 :: s5 :: s6 :: s7 :: s8 :: s9 :: s10 :: s11 :: s12 :: s13 :: []⟩ h nx Kt =
 sG s6 true (fun k => sPick s2 (.bool true) s0 k) fun v1 =>
 sPick s6 v1 (.bool false) fun v2 =>
 sGW v2 true (fun k => C.fn 17 (.of 17) [] h nx k) h nx fun v3 h4 n5 =>
 evOps r C ⟨(F10.fr x0 x1 x2 x3 x4 x5 x6 x7 x8 x9 x10 x11 x12 x13 x14 x15 x16 x17 x18 x19 x20 x21 x22 x23 x24 x25 x26 x27 x28 x29 x30 x31 x32 x33 x34), v3 :: v2 :: v2 :: v1 :: s0 :: s1 :: s2 :: s3 :: s4 :: s5 :: s6 :: s7 :: s8 :: s9 :: s10 :: s11 :: s12 :: s13 :: []⟩ h4 n5 Kt := by kernel_rfl
theorem F10.r31_4_s {s0 s1 s2 s3 s4 s5 s6 s7 s8 s9 s10 s11 s12 s13 : AV} {Kt : KTm} : evOps F10.r31_4 C ⟨(F10.fr x0 x1 x2 x3 x4 x5 x6 x7 x8 x9 x10 x11 x12 x13 x14 x15 x16 x17 x18 x19 x20 x21 x22 x23 x24 x25 x26 x27 x28 x29 x30 x31 x32 x33 x34), s0 :: s1 :: s2 :: s3 :: s4 :: s5 :: s6 :: s7 :: s8 :: s9 :: s10 :: s11 :: s12 :: s13 :: []⟩ h nx Kt =
 sG s6 true (fun k => sPick s2 (.bool true) s0 k) fun v1 =>
 sPick s6 v1 (.bool false) fun v2 =>
 sGW v2 true (fun k => C.fn 17 (.of 17) [] h nx k) h nx fun v3 h4 n5 =>
 evOps F10.r31_5 C ⟨(F10.fr x0 x1 x2 x3 x4 x5 x6 x7 x8 x9 x10 x11 x12 x13 x14 x15 x16 x17 x18 x19 x20 x21 x22 x23 x24 x25 x26 x27 x28 x29 x30 x31 x32 x33 x34), v3 :: v2 :: v2 :: v1 :: s0 :: s1 :: s2 :: s3 :: s4 :: s5 :: s6 :: s7 :: s8 :: s9 :: s10 :: s11 :: s12 :: s13 :: []⟩ h4 n5 Kt := F10.r31_4_g
theorem F10.r31_5_g {s0 s1 s2 s3 s4 s5 s6 s7 s8 s9 s10 s11 s12 s13 s14 s15 s16 s17 : AV} {Kt : KTm} : evOps (.s (.pick (.s 1) (.s 0) (.c (.bool false))) :: .q (.of 3) (.mv (.s 0)) :: []) C ⟨(F10.fr x0 x1 x2 x3 x4 x5 x6 x7 x8 x9 x10 x11 x12 x13 x14 x15 x16 x17 x18 x19 x20 x21 x22 x23 x24 x25 x26 x27 x28 x29 x30 x31 x32 x33 x34), s0 :: s1 :: s2 :: s3 :: s4 :: s5 :: s6 :: s7 :: s8 :: s9 :: s10 :: s11 :: s12 :: s13 :: s14 :: s15 :: s16 :: s17 :: []⟩ h nx Kt =
 sPick s1 s0 (.bool false) fun v1 =>
 Kt ⟨(F10.fr x0 x1 x2 v1 x4 x5 x6 x7 x8 x9 x10 x11 x12 x13 x14 x15 x16 x17 x18 x19 x20 x21 x22 x23 x24 x25 x26 x27 x28 x29 x30 x31 x32 x33 x34), v1 :: s0 :: s1 :: s2 :: s3 :: s4 :: s5 :: s6 :: s7 :: s8 :: s9 :: s10 :: s11 :: s12 :: s13 :: s14 :: s15 :: s16 :: s17 :: []⟩ h nx := by kernel_rfl
theorem F10.r31_5_s {s0 s1 s2 s3 s4 s5 s6 s7 s8 s9 s10 s11 s12 s13 s14 s15 s16 s17 : AV} {Kt : KTm} : evOps F10.r31_5 C ⟨(F10.fr x0 x1 x2 x3 x4 x5 x6 x7 x8 x9 x10 x11 x12 x13 x14 x15 x16 x17 x18 x19 x20 x21 x22 x23 x24 x25 x26 x27 x28 x29 x30 x31 x32 x33 x34), s0 :: s1 :: s2 :: s3 :: s4 :: s5 :: s6 :: s7 :: s8 :: s9 :: s10 :: s11 :: s12 :: s13 :: s14 :: s15 :: s16 :: s17 :: []⟩ h nx Kt =
 sPick s1 s0 (.bool false) fun v1 =>
 Kt ⟨(F10.fr x0 x1 x2 v1 x4 x5 x6 x7 x8 x9 x10 x11 x12 x13 x14 x15 x16 x17 x18 x19 x20 x21 x22 x23 x24 x25 x26 x27 x28 x29 x30 x31 x32 x33 x34), v1 :: s0 :: s1 :: s2 :: s3 :: s4 :: s5 :: s6 :: s7 :: s8 :: s9 :: s10 :: s11 :: s12 :: s13 :: s14 :: s15 :: s16 :: s17 :: []⟩ h nx := F10.r31_5_g
theorem F10.t84_s {O : Outs Prop} {tm : T AV} : IR.run F10.t84 C N O K tm h nx = IR.run F10.t83 C N O (IR.run .ret C N O K) tm h nx := srun_seq ..
theorem F10.t85_s {O : Outs Prop} {tm : T AV} : IR.run F10.t85 C N O K tm h nx = IR.run F10.t82 C N O (IR.run F10.t84 C N O K) tm h nx := srun_seq ..
theorem F10.t86_s {O : Outs Prop} {tm : T AV} : IR.run F10.t86 C N O K tm h nx = IR.run F10.t64 C N O (IR.run F10.t85 C N O K) tm h nx := srun_seq ..
theorem F10.t87_s {O : Outs Prop} {tm : T AV} : IR.run F10.t87 C N O K tm h nx = IR.run F10.t38 C N O (IR.run F10.t86 C N O K) tm h nx := srun_seq ..
theorem F10.t88_s {O : Outs Prop} {tm : T AV} : IR.run F10.t88 C N O K tm h nx = IR.run F10.t37 C N O (IR.run F10.t87 C N O K) tm h nx := srun_seq ..
theorem F10.t89_s {O : Outs Prop} {tm : T AV} : IR.run F10.t89 C N O K tm h nx = IR.run F10.t32 C N O (IR.run F10.t88 C N O K) tm h nx := srun_seq ..
theorem F10.t90_s {O : Outs Prop} {tm : T AV} : IR.run F10.t90 C N O K tm h nx = IR.run F10.t31 C N O (IR.run F10.t89 C N O K) tm h nx := srun_seq ..
theorem F10.t91_s {O : Outs Prop} {tm : T AV} : IR.run F10.t91 C N O K tm h nx = IR.run F10.t7 C N O (IR.run F10.t90 C N O K) tm h nx := srun_seq ..
theorem F10.t92_s {O : Outs Prop} {tm : T AV} : IR.run F10.t92 C N O K tm h nx = IR.run F10.t6 C N O (IR.run F10.t91 C N O K) tm h nx := srun_seq ..
theorem F10.t93_s {O : Outs Prop} {tm : T AV} : IR.run F10.t93 C N O K tm h nx = IR.run F10.t5 C N O (IR.run F10.t92 C N O K) tm h nx := srun_seq ..
theorem F10.t94_s {O : Outs Prop} {tm : T AV} : IR.run F10.t94 C N O K tm h nx = IR.run F10.t0 C N O (IR.run F10.t93 C N O K) tm h nx := srun_seq ..
theorem F10.tab : T.get none (.of 10) tbl = some F10 := by kernel_rfl
theorem F10.bind (k : T AV → OP) : bindArgs F10.params [a0, a1] F10.init k = k (F10.fr a0 a1 .undef .undef .undef .undef .undef .undef .undef .undef .undef .undef .undef .undef .undef .undef .undef .undef .undef .undef .undef .undef .undef .undef .undef .undef .undef .undef .undef .undef .undef .undef .undef .undef .undef) := by kernel_rfl
theorem F10.body_eq : F10.body = F10.t94 := by kernel_rfl
theorem F10.go : callFn tbl N C (.of 10) [a0, a1] h nx K0 = IR.run F10.t94 C N (fnO F10.res K0) (retK F10.res K0) (F10.fr a0 a1 .undef .undef .undef .undef .undef .undef .undef .undef .undef .undef .undef .undef .undef .undef .undef .undef .undef .undef .undef .undef .undef .undef .undef .undef .undef .undef .undef .undef .undef .undef .undef .undef .undef) h nx := by
 rw [callFn_of F10.tab, F10.bind, F10.body_eq]; kernel_rfl
theorem F10.ret : retK F10.res K0 (F10.fr x0 x1 x2 x3 x4 x5 x6 x7 x8 x9 x10 x11 x12 x13 x14 x15 x16 x17 x18 x19 x20 x21 x22 x23 x24 x25 x26 x27 x28 x29 x30 x31 x32 x33 x34) h nx = K0 x3 h nx := by kernel_rfl
end
end Go.Ev
namespace Go.Ev
open Go Go.Proofs
variable {B : Nat}
set_option maxRecDepth 100000
theorem kinds51o {h0 h : T Blk} {nx p : Pa} {L : List Ob} {o : Option Pa} {n : Nat} {g : List Int} {K : Kw Prop} (hj : ∀ B, JOk Tryz.prog B hookS) (hn : 1 ≤ n ∧ n ≤ 6) (he : sqErr n n g = 0) (hl : g.length ≤ 300) (H : Hp h0 h nx (.gro o 1 g.length (g.map I) :: L))
  (hK : ∀ h', Hp h0 h' nx L → K (.tup [encS (kinR n g), I 0]) h' nx = .ok True) : (CS Tryz.prog B).fn 51 p [.agg [I (n : Int), I (n : Int), rowV o 1 g.length]] h nx K = .ok True := by
 obtain ⟨h', hkeep, H1, HA⟩ := Hp.letAll (A := [.gro o 1 g.length (g.map I)]) H
 have hF : FrzN h' h (rowV o 1 g.length) (encI g) := HA.frzGro (k := 0) rfl fixdIL
 have hA : FrzN h' h (.agg [I (n : Int), I (n : Int), rowV o 1 g.length]) (.agg [I (n : Int), I (n : Int), encI g]) := Frz.agg _ _ rfl rfl fun j v v' h1 h2 => by
  match j, h1, h2 with
  | 0, h1, h2 => cases h1; cases h2; exact frz_fixd rfl
  | 1, h1, h2 => cases h1; cases h2; exact frz_fixd rfl
  | 2, h1, h2 => cases h1; cases h2; exact hF
  | j + 3, h1, h2 => simp at h1
 refine CS_let hkeep (.cons hA .nil) ?_
 refine kinds51 hj (fun m h1 h2 => sq_ok h1 (by omega)) (by omega) hl he _ _ _ _ ?_
 rintro _ rfl _
 rw [Int.toNat_natCast]
 exact hK h' H1
theorem sqErr_of {n : Nat} {g : List Int} (hn : 1 ≤ n ∧ n ≤ 6) (hl : g.length = n * n) (hb : ∀ x ∈ g, -999999999 ≤ x ∧ x ≤ 999999999) : sqErr n n g = 0 := by
 have e : g.any farL = false := List.any_eq_false.2 fun x hx => by
  have := hb x hx
  simp only [farL, Bool.or_eq_true, decide_eq_true_eq]; omega
 rw [sqErr, if_neg, if_neg (by omega), e]
 ·rfl
 ·rw [hl]; simp; omega
def five : List (List UInt8) := [kindS 2, kAssoc, kPerf, kBord, kBim]
theorem five_imp {n : Nat} {f : List Int} (hn : n ≤ 8) : ∀ s ∈ five, s ∈ kinR n f → kindS 1 ∈ kinR n f := by
 obtain ⟨q0, q1, q2, q3, q4, q5, q6⟩ := mem_kf (nrm f) (mg 0 n f) (mg 1 n f) (mg 2 n f) (asc n f) (mper n f) (bord n f) (bim n f)
 obtain ⟨i1, i2, i3, i4, i5, i6⟩ := imp_kinds (n := n) (f := f) hn
 have e : kinR n f = kf knm [nrm f, mg 0 n f, mg 1 n f, mg 2 n f, asc n f, mper n f, bord n f, bim n f] := rfl
 rw [← e] at q0 q1 q2 q3 q4 q5 q6
 intro s hs hk
 have m1 : mg 1 n f = true → kindS 1 ∈ kinR n f := fun h => by rw [h] at q1; exact of_decide_eq_true q1
 simp only [five, List.mem_cons, List.not_mem_nil, or_false] at hs
 rcases hs with rfl | rfl | rfl | rfl | rfl
 ·rw [decide_eq_true hk] at q2; exact m1 (i1 q2.symm)
 ·rw [decide_eq_true hk] at q3; exact m1 (i2 q3.symm)
 ·rw [decide_eq_true hk] at q4; exact m1 (i1 (i3 q4.symm))
 ·rw [decide_eq_true hk] at q5; exact m1 (i4 q5.symm)
 ·rw [decide_eq_true hk] at q6; exact m1 (i5 q6.symm)
theorem two_imp {n : Nat} {f : List Int} (hn : n ≤ 8) : (kindS 1 ∈ kinR n f → kindS 0 ∈ kinR n f) ∧ (kPerf ∈ kinR n f → kindS 2 ∈ kinR n f) := by
 obtain ⟨q0, q1, q2, q3, q4, q5, q6⟩ := mem_kf (nrm f) (mg 0 n f) (mg 1 n f) (mg 2 n f) (asc n f) (mper n f) (bord n f) (bim n f)
 obtain ⟨i1, i2, i3, i4, i5, i6⟩ := imp_kinds (n := n) (f := f) hn
 have e : kinR n f = kf knm [nrm f, mg 0 n f, mg 1 n f, mg 2 n f, asc n f, mper n f, bord n f, bim n f] := rfl
 rw [← e] at q0 q1 q2 q3 q4 q5 q6
 refine ⟨fun h => ?_, fun h => ?_⟩
 ·rw [decide_eq_true h] at q1; rw [i6 q1.symm] at q0; exact of_decide_eq_true q0
 ·rw [decide_eq_true h] at q4; rw [i3 q4.symm] at q2; exact of_decide_eq_true q2
theorem kinR_len (n : Nat) (f : List Int) : (kinR n f).length ≤ 8 := kf_len knm _
theorem take_pull {N : Nat} {t : Nat → Nat} {f : List Int} {i : Nat} (h : i < N) : (pull N t f).take (i + 1) = (pull N t f).take i ++ [f.getD (t i) 0] := by
 rw [List.take_add_one, pull, List.getElem?_map, List.getElem?_range h]; rfl
theorem mem_pull {N : Nat} {t : Nat → Nat} {f : List Int} (ht : ∀ i, i < N → t i < f.length) {x : Int} (h : x ∈ pull N t f) : x ∈ f := by
 obtain ⟨i, hi, rfl⟩ := List.mem_map.1 h
 exact List.mem_of_getElem? (getD_of (ht i (List.mem_range.1 hi)))
theorem tau1_in {n i : Nat} (hn : 0 < n) (hi : i < n * n) : tau1 n i < n * n := by
 have h1 := Nat.mod_lt i hn
 have h2 : i / n < n := Nat.div_lt_of_lt_mul hi
 have : n * (i % n) ≤ n * (n - 1) := Nat.mul_le_mul_left n (by omega)
 have e : n * (n - 1) + n = n * n := by
  have : n * (n - 1 + 1) = n * n := by rw [Nat.sub_add_cancel hn]
  rw [← this, Nat.mul_add, Nat.mul_one]
 rw [tau1]; omega
theorem tau2_in {n i : Nat} (hn : 0 < n) (hi : i < n * n) : tau2 n i < n * n := by
 have h1 := Nat.mod_lt i hn
 have : n * (n - 1 - i / n) ≤ n * (n - 1) := Nat.mul_le_mul_left n (Nat.sub_le _ _)
 have e : n * (n - 1) + n = n * n := by
  have : n * (n - 1 + 1) = n * n := by rw [Nat.sub_add_cancel hn]
  rw [← this, Nat.mul_add, Nat.mul_one]
 rw [tau2]; omega
theorem law10 {r c : Int} {f : List Int} {d : Int} (hj : ∀ B, JOk Tryz.prog B hookS) (haw : ∀ {B}, Pure Tryz.prog B 17 [] (· = .bool true)) : Pure Tryz.prog B 10 [.agg [I r, I c, encI f], I d] (· = .bool true) := by
 refine pure_hp fun h nx K H0 hK => by_body tbl_ok dreg 1000 fun hf => ?_
 have awk : ∀ (h : T Blk) (nx : Pa) (Z : Kw Prop), Z (.bool true) h nx = .ok True → (CS Tryz.prog B).fn 17 (.of 17) [] h nx Z = .ok True := fun h nx Z hZ => haw _ _ _ _ fun v hv _ => by rw [hv]; exact hZ
 have ret : ∀ {h1 nx1 L}, Hp h h1 nx1 L → K (.bool true) h1 nx1 = .ok True := fun H => hK _ _ _ _ _ H (frz_fixd rfl) rfl
 rw [F10.go, F10.t94_s, F10.t0_s]
 refine H0.box (l := [I r, I c, encI f]) rfl fun bx h1 nx1 H1 => ?_
 rw [F10.t93_s, F10.t5_s, F10.t1_s, F10.r1_0_s, H1.loadN (k := 0) (n := 3) rfl rfl]
 refine refSq50 _ _ _ _ ?_
 rintro _ rfl _
 have l0 : ∀ op : AV → OP, sLoad (.ptr bx (0 + 0)) h1 op = op (I r) := fun op => H1.load (k := 0) (i := 0) rfl rfl
 have out : ∀ x4 x5 x6 x7 x8 x9 x10 x11 x12 x13 x14 x15 x16 x18 x19 x20 x21 x22 x23 x24 x25 x26 x27 x28 x29 x30 x31 x32 x33 x34 : AV, ∀ K' : Ks Prop, IR.run F10.t4 (CS Tryz.prog B) 1000 (fnO F10.res K) K' (F10.fr (.agg [I r, I c, encI f]) (I d) (.ptr bx 0) (.bool false) x4 x5 x6 x7 x8 x9 x10 x11 x12 x13 x14 x15 x16 (.bool true) x18 x19 x20 x21 x22 x23 x24 x25 x26 x27 x28 x29 x30 x31 x32 x33 x34) h1 nx1 = .ok True := by
  intros
  rw [F10.t4_s, sCond_t, F10.t3_s, F10.t2_s]
  refine awk _ _ _ ?_
  rw [srun_ret, fnO_rt, F10.ret]
  exact ret H1
 rw [F10.r1_1_s]
 by_cases ce : sqErr r c f = 0
 case neg =>
  simp only [sNeq, ce, decide_false, Bool.not_false, sG_tf, sG_un, sPick_t, F10.r1_2_s]
  exact out _ _ _ _ _ _ _ _ _ _ _ _ _ _ _ _ _ _ _ _ _ _ _ _ _ _ _ _ _ _ _
 by_cases c1 : 6 < r
 ·simp only [sNeq, ce, decide_true, Bool.not_true, sG_ff, sFx, l0, sGtr, c1, sPick_f, sPick_t, sG_tf, sG_un, F10.r1_2_s]
  exact out _ _ _ _ _ _ _ _ _ _ _ _ _ _ _ _ _ _ _ _ _ _ _ _ _ _ _ _ _ _ _
 by_cases c2 : d < -99999
 ·simp only [sNeq, ce, decide_true, decide_false, Bool.not_true, sG_ff, sFx, l0, sGtr, c1, sPick_f, sPick_t, sG_tf, sG_un, F10.r1_2_s, sLss, c2]
  exact out _ _ _ _ _ _ _ _ _ _ _ _ _ _ _ _ _ _ _ _ _ _ _ _ _ _ _ _ _ _ _
 by_cases c3 : 99999 < d
 ·simp only [sNeq, ce, decide_true, decide_false, Bool.not_true, sG_ff, sFx, l0, sGtr, c1, sPick_f, sPick_t, sG_tf, sG_un, F10.r1_2_s, sLss, c2, c3]
  exact out _ _ _ _ _ _ _ _ _ _ _ _ _ _ _ _ _ _ _ _ _ _ _ _ _ _ _ _ _ _ _
 simp only [sNeq, ce, decide_true, decide_false, Bool.not_true, sG_ff, sFx, l0, sGtr, c1, sPick_f, F10.r1_2_s, sLss, c2, c3]
 clear out
 rw [F10.t4_s, sCond_f, srun_skip]
 obtain ⟨rfl, hr1, hlen⟩ : r = c ∧ 1 ≤ r ∧ (f.length : Int) = r * r := by
  unfold sqErr at ce
  by_cases q1 : r ≠ c ∨ r < 0 ∨ 1000 < r ∨ (f.length : Int) ≠ r * r
  ·rw [if_pos q1] at ce; cases ce
  ·rw [if_neg q1] at ce
   by_cases q2 : r < 1 ∨ 16 < r
   ·rw [if_pos q2] at ce; cases ce
   ·exact ⟨by omega, by omega, by omega⟩
 obtain ⟨n, rfl⟩ : ∃ n : Nat, r = (n : Int) := ⟨r.toNat, by omega⟩
 have hn : 1 ≤ n ∧ n ≤ 6 := by omega
 have hfl : f.length = n * n := by
  have : ((f.length : Nat) : Int) = ((n * n : Nat) : Int) := by rw [hlen]; simp
  omega
 have h36 : n * n ≤ 36 := Nat.mul_le_mul hn.2 hn.2
 rw [F10.t92_s, F10.t6_s]
 simp only [sFx, l0]
 have sb : ∀ K : AV → OP, sBuild [(I 0), (I 0), .nils] [(0, 1, I (n : Int)), (1, 1, I (n : Int))] K = K (.agg [I (n : Int), I (n : Int), .nils]) := fun K => nr rfl
 rw [F10.t91_s, F10.t7_s, F10.r4_0_s]
 simp only [sb]
 rw [F10.r4_1_s]
 simp only [sb]
 refine H1.alloc fun ga h2 nx2 H2 => ?_
 rw [F10.r4_2_s]
 refine H2.alloc fun gb h3 nx3 H3 => ?_
 rw [F10.r4_3_s]
 refine H3.alloc fun gc h4 nx4 H4 => ?_
 rw [F10.r4_4_s]
 refine H4.storeN (l2 := [I (n : Int), I (n : Int), .nils]) (k := 2) rfl rfl rfl fun h5 H5 => ?_
 rw [F10.r4_5_s]
 refine H5.storeN (l2 := [I (n : Int), I (n : Int), .nils]) (k := 1) rfl rfl rfl fun h6 H6 => ?_
 rw [F10.r4_6_s]
 refine H6.storeN (l2 := [I (n : Int), I (n : Int), .nils]) (k := 0) rfl rfl rfl fun h7 H7 => ?_
 simp only [List.set_cons_zero, List.set_cons_succ] at H7
 rw [F10.t90_s, F10.t31_s, F10.t8_s]
 simp only [sFx]
 rw [H7.load (k := 3) (i := 0 + 2) rfl rfl]
 simp only [sLen_lst]
 have Hi : Hp h h7 nx4 [.gro none 1 0 [], .gro none 1 0 [], .gro none 1 0 [], .arr gc [I (n : Int), I (n : Int), .nils], .arr gb [I (n : Int), I (n : Int), .nils], .arr ga [I (n : Int), I (n : Int), .nils], .arr bx [I (n : Int), I (n : Int), encI f]] := ((H7.addGro 1).addGro 1).addGro 1
 rw [F10.t30_s]
 generalize hA : pull (n * n) (tau1 n) f = fa
 generalize hB : pull (n * n) (tau2 n) f = fb
 have la : fa.length = n * n := by rw [← hA, pull_len]
 have lb : fb.length = n * n := by rw [← hB, pull_len]
 have lc : (addL d f).length = n * n := by simp [addL, hfl]
 refine F10.t29_L (fun m x20 h' nx' => ∃ (i : Nat) (oa ob oc : Option Pa), x20 = I i ∧ n * n - i = m ∧ i ≤ n * n ∧ (∀ x ∈ f.take i, -999999 ≤ x ∧ x ≤ 999999) ∧
  Hp h h' nx' [.gro oc 1 i (((addL d f).take i).map I), .gro ob 1 i ((fb.take i).map I), .gro oa 1 i ((fa.take i).map I), .arr gc [I (n : Int), I (n : Int), rowV oc 1 i], .arr gb [I (n : Int), I (n : Int), rowV ob 1 i], .arr ga [I (n : Int), I (n : Int), rowV oa 1 i], .arr bx [I (n : Int), I (n : Int), encI f]]) (m := n * n) (by omega) ⟨0, none, none, none, rfl, rfl, by omega, by simp, Hi⟩ ?_
 rintro m z3 z8 z9 z20 z21 z22 h8 nx8 R ⟨i, oa, ob, oc, rfl, rfl, hi, hrng, H8⟩ hR
 rw [F10.t28_s, F10.t9_s]
 simp only [sLss]
 by_cases hlt : i < n * n
 case pos =>
  simp only [show (i : Int) < (f.length : Int) by omega, decide_true]
  rw [F10.t27_s, F10.t10_s, sCond_t, srun_skip, F10.t26_s, F10.t24_s, F10.t23_s, F10.t11_s]
  have hx' := getD_of (f := f) (i := i) (by omega)
  rw [sIxL rfl (by omega), ldL (getI hx'), F10.t22_s, F10.t16_s, F10.t12_s]
  have out : ∀ K' : Ks Prop, IR.run F10.t15 (CS Tryz.prog B) 1000 ((((fnO F10.res K).blk 0 (IR.run F10.t89 (CS Tryz.prog B) 1000 (fnO F10.res K) (retK F10.res K))).blk 1 (IR.run F10.t25 (CS Tryz.prog B) 1000 ((fnO F10.res K).blk 0 (IR.run F10.t89 (CS Tryz.prog B) 1000 (fnO F10.res K) (retK F10.res K))) R))) K' (F10.fr (.agg [I (n : Int), I (n : Int), encI f]) (I d) (.ptr bx 0) z3 (I (n : Int)) (.ptr ga 0) (.ptr gb 0) (.ptr gc 0) (I (i : Int)) (I (f.getD i 0)) .undef .undef .undef .undef .undef .undef .undef (.bool false) (encI f) (I f.length) (I (i : Int)) (.bool true) (.bool true) .undef .undef .undef .undef .undef .undef .undef .undef .undef .undef .undef .undef) h8 nx8 = .ok True := by
   intro K'
   rw [F10.t15_s, sCond_t, F10.t14_s, F10.t13_s]
   refine awk _ _ _ ?_
   rw [srun_ret, blk_rt, blk_rt, fnO_rt, F10.ret]
   exact ret H8
  simp only [sLss]
  by_cases b1 : f.getD i 0 < -999999
  ·simp only [b1, decide_true, sG_tf, sPick_t]
   exact out _
  simp only [b1, decide_false, sG_ff, sGtr, sPick_f]
  by_cases b2 : 999999 < f.getD i 0
  ·simp only [b2, decide_true]
   exact out _
  simp only [b2, decide_false]
  clear out
  rw [F10.t15_s, sCond_f, srun_skip, F10.t21_s, F10.t17_s]
  have t1 := tau1_in (n := n) (i := i) (by omega) hlt
  have t2 := tau2_in (n := n) (i := i) (by omega) hlt
  have hm1 := Nat.mod_lt i (show 0 < n by omega)
  have hd1 : i / n < n := Nat.div_lt_of_lt_mul hlt
  obtain ⟨q, hq⟩ : ∃ q, q = i / n := ⟨_, rfl⟩
  obtain ⟨e, he⟩ : ∃ e, e = i % n := ⟨_, rfl⟩
  have quo : ∀ K : AV → OP, sBin .quo .int (I (i : Int)) (I (n : Int)) K = K (I (q : Int)) := fun K => by rw [hq]; exact sQuoNN (by omega) (by omega)
  have rem : ∀ K : AV → OP, sBin .rem .int (I (i : Int)) (I (n : Int)) K = K (I (e : Int)) := fun K => by rw [he]; exact sRemNN (by omega) (by omega)
  have ht1 : tau1 n i = n * e + q := by rw [he, hq]; rfl
  have ht2 : tau2 n i = n * (n - 1 - q) + e := by rw [he, hq]; rfl
  rw [← he] at hm1
  rw [← hq] at hd1
  clear he hq
  have p1 : n * e ≤ 36 := Nat.le_trans (Nat.mul_le_mul hn.2 (show e ≤ 6 by omega)) (by omega)
  have p2 : n * (n - 1 - q) ≤ 36 := Nat.le_trans (Nat.mul_le_mul hn.2 (show n - 1 - q ≤ 6 by omega)) (by omega)
  have mu : ∀ (a b : Nat) (K : AV → OP), a * b ≤ 36 → sBin .mul .int (I (a : Int)) (I (b : Int)) K = K (I ((a * b : Nat) : Int)) := fun a b K hab => by
   have e : (a : Int) * (b : Int) = ((a * b : Nat) : Int) := by simp
   rw [sMul (by rw [e]; omega), e]
  have ad : ∀ (a b : Nat) (K : AV → OP), a ≤ 1000 → b ≤ 1000 → sBin .add .int (I (a : Int)) (I (b : Int)) K = K (I ((a + b : Nat) : Int)) := fun a b K ha hb => by
   rw [sAdd (by omega)]; simp
  simp only [sFx]
  rw [H8.load (k := 5) (i := 0 + 2) rfl rfl, H8.load (k := 6) (i := 0 + 2) rfl rfl, rem, mu _ _ _ p1, quo, ad _ _ _ (by omega) (by omega)]
  have g1 : (f.map I)[tau1 n i]? = some (I (f.getD (tau1 n i) 0)) := getI (getD_of (by omega))
  have g2 : (f.map I)[tau2 n i]? = some (I (f.getD (tau2 n i) 0)) := getI (getD_of (by omega))
  rw [← ht1, sIxL (i := tau1 n i) rfl (by omega), ldL g1]
  refine H8.bslice (l := [I (f.getD (tau1 n i) 0)]) rfl fun ta h9 nx9 H9 => ?_
  rw [H9.load (k := 6) (i := 0 + 2) rfl rfl]
  simp only [sSame_refl]
  refine H9.appN (k := 3) (o := oa) (c := 1) (new := [I (f.getD (tau1 n i) 0)]) rfl (HasArr.rd (l := [I (f.getD (tau1 n i) 0)]) (n := 1) (H9.own _ (List.mem_cons_self ..)) rfl) rfl rfl (by decide) (by decide) (by simp; omega) fun oa' h10 nx10 _ H10 => ?_
  refine H10.store (k := 6) rfl (by simp) (rowV_cells _ _ _) fun h11 H11 => ?_
  have H11 : Hp h h11 nx10 [.gro oc 1 i (((addL d f).take i).map I), .gro ob 1 i ((fb.take i).map I), .gro oa' 1 (i + 1) ((fa.take i).map I ++ [I (f.getD (tau1 n i) 0)]), .arr gc [I (n : Int), I (n : Int), rowV oc 1 i], .arr gb [I (n : Int), I (n : Int), rowV ob 1 i], .arr ga [I (n : Int), I (n : Int), rowV oa' 1 (i + 1)], .arr bx [I (n : Int), I (n : Int), encI f]] := H11.drop
  rw [F10.t20_s, F10.t18_s]
  simp only [sFx]
  rw [H11.load (k := 4) (i := 0 + 2) rfl rfl, H11.load (k := 6) (i := 0 + 2) rfl rfl, sSub (by omega), quo, sSub (by omega), show (n : Int) - 1 - (q : Int) = ((n - 1 - q : Nat) : Int) by omega, mu _ _ _ p2, rem, ad _ _ _ (by omega) (by omega), ← ht2,
   sIxL (i := tau2 n i) rfl (by omega), ldL g2]
  refine H11.bslice (l := [I (f.getD (tau2 n i) 0)]) rfl fun tb h12 nx12 H12 => ?_
  rw [H12.load (k := 5) (i := 0 + 2) rfl rfl]
  simp only [sSame_refl]
  refine H12.appN (k := 2) (o := ob) (c := 1) (new := [I (f.getD (tau2 n i) 0)]) rfl (HasArr.rd (l := [I (f.getD (tau2 n i) 0)]) (n := 1) (H12.own _ (List.mem_cons_self ..)) rfl) rfl rfl (by decide) (by decide) (by simp; omega) fun ob' h13 nx13 _ H13 => ?_
  refine H13.store (k := 5) rfl (by simp) (rowV_cells _ _ _) fun h14 H14 => ?_
  have H14 : Hp h h14 nx13 [.gro oc 1 i (((addL d f).take i).map I), .gro ob' 1 (i + 1) ((fb.take i).map I ++ [I (f.getD (tau2 n i) 0)]), .gro oa' 1 (i + 1) ((fa.take i).map I ++ [I (f.getD (tau1 n i) 0)]), .arr gc [I (n : Int), I (n : Int), rowV oc 1 i], .arr gb [I (n : Int), I (n : Int), rowV ob' 1 (i + 1)], .arr ga [I (n : Int), I (n : Int), rowV oa' 1 (i + 1)], .arr bx [I (n : Int), I (n : Int), encI f]] := H14.drop
  rw [F10.t19_s]
  simp only [sFx]
  rw [H14.load (k := 3) (i := 0 + 2) rfl rfl, sAdd (by omega)]
  refine H14.bslice (l := [I (f.getD i 0 + d)]) rfl fun tc h15 nx15 H15 => ?_
  refine H15.appN (k := 1) (o := oc) (c := 1) (new := [I (f.getD i 0 + d)]) rfl (HasArr.rd (l := [I (f.getD i 0 + d)]) (n := 1) (H15.own _ (List.mem_cons_self ..)) rfl) rfl rfl (by decide) (by decide) (by simp; omega) fun oc' h16 nx16 _ H16 => ?_
  refine H16.store (k := 4) rfl (by simp) (rowV_cells _ _ _) fun h17 H17 => ?_
  rw [F10.t25_s, sAdd (by omega)]
  refine hR _ _ _ _ _ _ _ _ _ (by omega) ⟨i + 1, oa', ob', oc', rfl, rfl, by omega, fun x hxm => ?_, H17.drop.cast ?_⟩
  ·rw [List.take_add_one, hx'] at hxm
   rcases List.mem_append.1 hxm with q1 | q1
   ·exact hrng x q1
   ·rw [List.mem_singleton.1 q1]; omega
  ·have ea : fa.take (i + 1) = fa.take i ++ [f.getD (tau1 n i) 0] := by rw [← hA]; exact take_pull hlt
   have eb : fb.take (i + 1) = fb.take i ++ [f.getD (tau2 n i) 0] := by rw [← hB]; exact take_pull hlt
   have ec : (addL d f).take (i + 1) = (addL d f).take i ++ [f.getD i 0 + d] := by
    rw [List.take_add_one, addL, List.getElem?_map, hx']; rfl
   rw [ea, eb, ec, List.map_append, List.map_append, List.map_append]; rfl
 obtain rfl : i = n * n := by omega
 simp only [show ¬ (((n * n : Nat) : Int) < (f.length : Int)) by omega, decide_false]
 rw [F10.t27_s, F10.t10_s, sCond_f, srun_exit, blk_hit]
 rw [List.take_of_length_le (by omega)] at hrng
 rw [List.take_of_length_le (by omega), List.take_of_length_le (by omega), List.take_of_length_le (by omega)] at H8
 have hsf : ∀ m : Nat, 1 ≤ m → (m : Int) ≤ (n : Int) → SqOk m := fun m h1 h2 => sq_ok h1 (by omega)
 rw [F10.t89_s, F10.t32_s, H8.loadN (k := 6) (n := 3) rfl rfl]
 refine kinds51 hj hsf (by omega) (by omega) ce _ _ _ _ ?_
 rintro _ rfl _
 rw [Int.toNat_natCast]
 simp only [sExt0, sExt1]
 rw [F10.t88_s, F10.t37_s, F10.t33_s]
 simp only [sNeq, decide_true, Bool.not_true]
 have hkl := kinR_len n f
 rw [F10.t36_s, sCond_f, srun_skip, F10.t87_s, F10.t38_s]
 refine but52 (by omega) _ _ _ _ ?_
 rintro _ rfl _
 rw [F10.t86_s, F10.t64_s, F10.t39_s, H8.loadN (k := 5) (n := 3) rfl rfl, H8.loadN (k := 4) (n := 3) rfl rfl, H8.loadN (k := 3) (n := 3) rfl rfl]
 have f3 : ∀ u v w : AV, fillA (repl 3 [(I 0), (I 0), AV.nils]) [(0, 3, .agg [I (n : Int), I (n : Int), u]), (3, 3, .agg [I (n : Int), I (n : Int), v]), (6, 3, .agg [I (n : Int), I (n : Int), w])] = some [I (n : Int), I (n : Int), u, I (n : Int), I (n : Int), v, I (n : Int), I (n : Int), w] := fun u v w => rfl
 refine H8.bslice (f3 _ _ _) fun tb h9 nx9 H9 => ?_
 simp only [sLen_sl]
 rw [F10.t63_s]
 have fine : ∀ g : List Int, g = fa ∨ g = fb ∨ g = addL d f → g.length = n * n ∧ sqErr n n g = 0 ∧ prsT n g = prsT n f := by
  have tk : ∀ {t : Nat → Nat → Nat}, ((List.range 6).all fun m => turnB t (m + 1)) = true → prsT n (pull (n * n) (t n) f) = prsT n f := fun ht => prs_turn (fun m h1 h2 => turn_ok ht h1 (by omega)) hn.1 hfl
  rintro g (rfl | rfl | rfl)
  ·refine ⟨la, sqErr_of hn la fun x hx => ?_, by rw [← hA]; exact tk turn1⟩
   rw [← hA] at hx
   have := hrng x (mem_pull (fun i hi => by rw [hfl]; exact tau1_in (by omega) hi) hx); omega
  ·refine ⟨lb, sqErr_of hn lb fun x hx => ?_, by rw [← hB]; exact tk turn2⟩
   rw [← hB] at hx
   have := hrng x (mem_pull (fun i hi => by rw [hfl]; exact tau2_in (by omega) hi) hx); omega
  ·refine ⟨lc, sqErr_of hn lc fun x hx => ?_, prs_add (fun m h1 h2 => uni_ok6 h1 (by omega)) hn.1 hfl⟩
   obtain ⟨y, hy, rfl⟩ := List.mem_map.1 hx
   have := hrng y hy; omega
 have hset : ∃ L0 : List (Option Pa × List Int), L0 = [(oa, fa), (ob, fb), (oc, addL d f)] := ⟨_, rfl⟩
 have H10 : Hp h h9 nx9 ([Ob.gro oa 1 (n * n) (fa.map I), .gro ob 1 (n * n) (fb.map I), .gro oc 1 (n * n) ((addL d f).map I)] ++ [.arr tb [I (n : Int), I (n : Int), rowV oa 1 (n * n), I (n : Int), I (n : Int), rowV ob 1 (n * n), I (n : Int), I (n : Int), rowV oc 1 (n * n)]]) := by
  have Hd := H9.perm (L' := [.arr gc [I (n : Int), I (n : Int), rowV oc 1 (n * n)], .arr gb [I (n : Int), I (n : Int), rowV ob 1 (n * n)], .arr ga [I (n : Int), I (n : Int), rowV oa 1 (n * n)], .arr bx [I (n : Int), I (n : Int), encI f], .gro oa 1 (n * n) (fa.map I), .gro ob 1 (n * n) (fb.map I), .gro oc 1 (n * n) ((addL d f).map I), .arr tb [I (n : Int), I (n : Int), rowV oa 1 (n * n), I (n : Int), I (n : Int), rowV ob 1 (n * n), I (n : Int), I (n : Int), rowV oc 1 (n * n)]]) (by
   generalize Ob.arr tb _ = a0
   generalize Ob.gro oc _ _ _ = a1
   generalize Ob.gro ob _ _ _ = a2
   generalize Ob.gro oa _ _ _ = a3
   generalize Ob.arr gc _ = a4
   generalize Ob.arr gb _ = a5
   generalize Ob.arr ga _ = a6
   generalize Ob.arr bx _ = a7
   have e1 : ([a0, a1, a2, a3] ++ [a4, a5, a6, a7] : List Ob).Perm ([a4, a5, a6, a7] ++ [a0, a1, a2, a3]) := List.perm_append_comm
   have e2 : ([a0, a1, a2, a3] : List Ob).Perm [a3, a2, a1, a0] := (List.reverse_perm [a0, a1, a2, a3]).symm
   exact e1.trans (e2.append_left _))
  exact Hd.drop.drop.drop.drop
 clear H9 H8 hR
 refine F10.t62_L (fun m x26 h' nx' => ∃ i : Nat, x26 = I i ∧ 3 - i = m ∧ i ≤ 3 ∧ Hp h h' nx' ([Ob.gro oa 1 (n * n) (fa.map I), .gro ob 1 (n * n) (fb.map I), .gro oc 1 (n * n) ((addL d f).map I)].drop i ++ [.arr tb [I (n : Int), I (n : Int), rowV oa 1 (n * n), I (n : Int), I (n : Int), rowV ob 1 (n * n), I (n : Int), I (n : Int), rowV oc 1 (n * n)]])) (m := 3) (by omega) ⟨0, rfl, rfl, by omega, H10⟩ ?_
 rintro m z3 z13 z14 z15 z26 z27 z28 z29 h11 nx11 R ⟨i, rfl, rfl, hi, H11⟩ hR
 rw [F10.t61_s, F10.t40_s]
 simp only [sLss]
 by_cases hlt : i < 3
 case pos =>
  simp only [show (i : Int) < ((3 : Nat) : Int) by omega, decide_true]
  rw [F10.t60_s, F10.t41_s, sCond_t, srun_skip, F10.t59_s, F10.t57_s, F10.t56_s, F10.t42_s]
  have rnd : ∃ (o : Option Pa) (g : List Int), (g = fa ∨ g = fb ∨ g = addL d f) ∧ [Ob.gro oa 1 (n * n) (fa.map I), .gro ob 1 (n * n) (fb.map I), .gro oc 1 (n * n) ((addL d f).map I)].drop i = .gro o 1 (n * n) (g.map I) :: [Ob.gro oa 1 (n * n) (fa.map I), .gro ob 1 (n * n) (fb.map I), .gro oc 1 (n * n) ((addL d f).map I)].drop (i + 1) ∧
    ([I (n : Int), I (n : Int), rowV oa 1 (n * n), I (n : Int), I (n : Int), rowV ob 1 (n * n), I (n : Int), I (n : Int), rowV oc 1 (n * n)].drop (i * 3)).take 3 = [I (n : Int), I (n : Int), rowV o 1 (n * n)] ∧ ([Ob.gro oa 1 (n * n) (fa.map I), .gro ob 1 (n * n) (fb.map I), .gro oc 1 (n * n) ((addL d f).map I)].drop (i + 1)).length = 2 - i := by
   match i, hlt with
   | 0, _ => exact ⟨oa, fa, .inl rfl, rfl, rfl, rfl⟩
   | 1, _ => exact ⟨ob, fb, .inr (.inl rfl), rfl, rfl, rfl⟩
   | 2, _ => exact ⟨oc, addL d f, .inr (.inr rfl), rfl, rfl, rfl⟩
  obtain ⟨o, g, hg, hd, hc, hdl⟩ := rnd
  obtain ⟨gl, ge, gp⟩ := fine g hg
  rw [hd] at H11
  generalize hrest : [Ob.gro oa 1 (n * n) (fa.map I), .gro ob 1 (n * n) (fb.map I), .gro oc 1 (n * n) ((addL d f).map I)].drop (i + 1) = rest at *
  have hk : (Ob.gro o 1 (n * n) (g.map I) :: rest ++ [.arr tb [I (n : Int), I (n : Int), rowV oa 1 (n * n), I (n : Int), I (n : Int), rowV ob 1 (n * n), I (n : Int), I (n : Int), rowV oc 1 (n * n)]])[rest.length + 1]? = some (.arr tb [I (n : Int), I (n : Int), rowV oa 1 (n * n), I (n : Int), I (n : Int), rowV ob 1 (n * n), I (n : Int), I (n : Int), rowV oc 1 (n * n)]) := by
   rw [List.cons_append, List.getElem?_cons_succ, List.getElem?_append_right (by omega), Nat.sub_self]; rfl
  rw [sIaddr_sl hlt, Nat.zero_add, H11.loadNO (k := rest.length + 1) hk (by simp; omega) hc]
  refine H11.alloc fun q h12 nx12 H12 => ?_
  refine H12.storeN (l2 := [I (n : Int), I (n : Int), rowV o 1 (n * n)]) (k := 0) rfl rfl rfl fun h13 H13 => ?_
  rw [F10.t55_s, F10.t43_s, H13.loadN (k := 0) (n := 3) rfl rfl]
  have H14 : Hp h h13 nx12 (.gro o 1 g.length (g.map I) :: (rest ++ [.arr tb [I (n : Int), I (n : Int), rowV oa 1 (n * n), I (n : Int), I (n : Int), rowV ob 1 (n * n), I (n : Int), I (n : Int), rowV oc 1 (n * n)]])) := by rw [gl]; exact H13.drop
  rw [show rowV o 1 (n * n) = rowV o 1 g.length by rw [gl]]
  refine kinds51o hj hn ge (by omega) H14 fun h14 H15 => ?_
  simp only [sExt0, sExt1]
  rw [F10.t54_s, F10.t48_s, F10.t44_s]
  simp only [sNeq, decide_true, Bool.not_true]
  rw [F10.t47_s, sCond_f, srun_skip, F10.t53_s, F10.t49_s]
  have hgl := kinR_len n g
  refine but52 (by omega) _ _ _ _ ?_
  rintro _ rfl _
  have hbl : (butN (kinR n f)).length ≤ 1000 := Nat.le_trans (List.length_filter_le _ _) (by omega)
  refine texts53 hbl _ _ _ _ ?_
  rintro _ rfl _
  have eq : butN (kinR n f) = butN (kinR n g) := by rw [butN_kf, butN_kf, gp]
  rw [decide_eq_true eq]
  simp only [sNot_b, Bool.not_true]
  rw [F10.t52_s, sCond_f, srun_skip, F10.t58_s, sAdd (by omega)]
  exact hR _ _ _ _ _ _ _ _ _ _ _ (by omega) ⟨i + 1, rfl, rfl, by omega, by rw [hrest]; exact H15⟩
 obtain rfl : i = 3 := by omega
 simp only [show ¬ (((3 : Nat) : Int) < ((3 : Nat) : Int)) by omega, decide_false]
 rw [F10.t60_s, F10.t41_s, sCond_f, srun_exit, blk_hit, F10.t85_s, F10.t82_s, F10.t65_s]
 clear hR
 refine H11.bslice (l := five.map .str) rfl fun tf h12 nx12 H12 => ?_
 simp only [sLen_sl]
 rw [F10.t81_s]
 have imp := five_imp (n := n) (f := f) (by omega)
 obtain ⟨im1, im2⟩ := two_imp (n := n) (f := f) (by omega)
 refine F10.t80_L (fun m x32 h' nx' => ∃ i : Nat, x32 = I i ∧ 5 - i = m ∧ i ≤ 5 ∧ h' = h12 ∧ nx' = nx12) (m := 5) (by omega) ⟨0, rfl, rfl, by omega, rfl, rfl⟩ ?_
 rintro m z3 z16 z32 z33 z34 h12 nx12 R ⟨i, rfl, rfl, hi, rfl, rfl⟩ hR
 rw [F10.t79_s, F10.t66_s]
 simp only [sLss]
 by_cases hlt : i < 5
 case pos =>
  simp only [show (i : Int) < ((5 : Nat) : Int) by omega, decide_true]
  rw [F10.t78_s, F10.t67_s, sCond_t, srun_skip, F10.t77_s, F10.t75_s, F10.t74_s, F10.t68_s]
  have hs : five[i]? = some five[i] := List.getElem?_eq_getElem hlt
  have hs' : (five.map AV.str)[i]? = some (.str five[i]) := by rw [List.getElem?_map, hs]; rfl
  have hmem := imp _ (List.getElem_mem hlt)
  rw [sIx rfl hlt, H12.load (k := 0) rfl hs', F10.t73_s, F10.t69_s]
  refine has54 (by omega) _ _ _ _ ?_
  rintro _ rfl _
  by_cases ck : five[i] ∈ kinR n f
  ·rw [decide_eq_true ck]
   simp only [sG_tt, sGW_ttN]
   refine has54 (by omega) _ _ _ _ ?_
   rintro _ rfl _
   have : kindS 1 ∈ kinR n f := hmem ck
   rw [show ([109, 97, 103, 105, 99] : List UInt8) = kindS 1 from rfl, decide_eq_true this]
   simp only [sNot_b, Bool.not_true, sPick_t]
   rw [F10.t72_s, sCond_f, srun_skip, F10.t76_s, sAdd (by omega)]
   exact hR _ _ _ _ _ _ _ _ (by omega) ⟨i + 1, rfl, rfl, by omega, rfl, rfl⟩
  ·rw [decide_eq_false ck]
   simp only [sG_ft, sGW_ftN, sPick_f]
   rw [F10.t72_s, sCond_f, srun_skip, F10.t76_s, sAdd (by omega)]
   exact hR _ _ _ _ _ _ _ _ (by omega) ⟨i + 1, rfl, rfl, by omega, rfl, rfl⟩
 simp only [show ¬ (i : Int) < ((5 : Nat) : Int) by omega, decide_false]
 rw [F10.t78_s, F10.t67_s, sCond_f, srun_exit, blk_hit, F10.t84_s, F10.t83_s, F10.r31_0_s]
 clear hR
 have e1 : ([109, 97, 103, 105, 99] : List UInt8) = kindS 1 := rfl
 have e0 : ([115, 101, 109, 105, 109, 97, 103, 105, 99] : List UInt8) = kindS 0 := rfl
 have e2 : ([112, 97, 110, 100, 105, 97, 103, 111, 110, 97, 108] : List UInt8) = kindS 2 := rfl
 have e5 : ([109, 111, 115, 116, 45, 112, 101, 114, 102, 101, 99, 116] : List UInt8) = kPerf := rfl
 have hhas : ∀ (s : List UInt8) (Z : Kw Prop), Z (.bool (decide (s ∈ kinR n f))) h12 nx12 = .ok True → (CS Tryz.prog B).fn 54 (.of 54) [encS (kinR n f), .str s] h12 nx12 Z = .ok True := fun s Z hZ => has54 (by omega) _ _ _ _ fun v hv _ => by rw [hv]; exact hZ
 have fin : ∀ (b : Bool), b = true → True := fun _ _ => trivial
 rw [e1]
 refine hhas _ _ ?_
 rw [F10.r31_1_s]
 by_cases k1 : kindS 1 ∈ kinR n f
 ·rw [decide_eq_true k1]
  simp only [sNot_b, Bool.not_true, sG_ff, sGW_ff]
  rw [e0]
  refine hhas _ _ ?_
  rw [decide_eq_true (im1 k1), F10.r31_2_s]
  simp only [sPick_f, sG_tt, sGW_ttN]
  rw [e5]
  refine hhas _ _ ?_
  rw [F10.r31_3_s]
  by_cases k5 : kPerf ∈ kinR n f
  ·rw [decide_eq_true k5]
   simp only [sG_tt, sNot_b, Bool.not_true, sG_ff, sGW_ff]
   rw [e2]
   refine hhas _ _ ?_
   rw [decide_eq_true (im2 k5), F10.r31_4_s]
   simp only [sG_tt, sPick_f, sPick_t, sGW_ttN]
   refine awk _ _ _ ?_
   rw [F10.r31_5_s]
   simp only [sPick_t]
   rw [srun_ret, fnO_rt, F10.ret]
   exact ret H12
  ·rw [decide_eq_false k5]
   simp only [sG_tt, sNot_b, Bool.not_false, sG_tf, sGW_tf]
   rw [F10.r31_4_s]
   simp only [sG_tt, sPick_t, sGW_ttN]
   refine awk _ _ _ ?_
   rw [F10.r31_5_s]
   simp only [sPick_t]
   rw [srun_ret, fnO_rt, F10.ret]
   exact ret H12
 ·rw [decide_eq_false k1]
  simp only [sNot_b, Bool.not_false, sG_tf, sGW_tf]
  rw [F10.r31_2_s]
  simp only [sPick_t, sG_tt, sGW_ttN]
  rw [e5]
  refine hhas _ _ ?_
  rw [F10.r31_3_s]
  by_cases k5 : kPerf ∈ kinR n f
  ·rw [decide_eq_true k5]
   simp only [sG_tt, sNot_b, Bool.not_true, sG_ff, sGW_ff]
   rw [e2]
   refine hhas _ _ ?_
   rw [decide_eq_true (im2 k5), F10.r31_4_s]
   simp only [sG_tt, sPick_f, sPick_t, sGW_ttN]
   refine awk _ _ _ ?_
   rw [F10.r31_5_s]
   simp only [sPick_t]
   rw [srun_ret, fnO_rt, F10.ret]
   exact ret H12
  ·rw [decide_eq_false k5]
   simp only [sG_tt, sNot_b, Bool.not_false, sG_tf, sGW_tf]
   rw [F10.r31_4_s]
   simp only [sG_tt, sPick_t, sGW_ttN]
   refine awk _ _ _ ?_
   rw [F10.r31_5_s]
   simp only [sPick_t]
   rw [srun_ret, fnO_rt, F10.ret]
   exact ret H12
end Go.Ev
