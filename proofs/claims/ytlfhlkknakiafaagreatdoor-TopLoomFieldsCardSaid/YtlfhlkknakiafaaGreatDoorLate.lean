import Derived.Test.YtlfhlkknakiafaaGreatDoorRunG
import Derived.Test.YtlfhlkknakiafaaGreatDoorRunH
import Derived.Test.YtlfhlkknakiafaaGreatDoorRunI
import Derived.Test.YtlfhlkknakiafaaGreatDoorRunJ
import Derived.Test.YtlfhlkknakiafaaGreatDoorRunK
import Derived.Test.YtlfhlkknakiafaaGreatDoorRunL
import Derived.Test.YtlfhlkknakiafaaGreatDoorRunM
import Derived.Test.YtlfhlkknakiafaaGreatDoorEvD
import Derived.Test.YtlfhlkknakiafaaGreatDoorWordsa
import Derived.Test.YtlfhlkknakiafaaGreatDoorCodea
set_option linter.unusedSimpArgs false
set_option linter.unusedVariables false
namespace Go.Ev
open Go Go.Proofs
set_option maxRecDepth 100000
theorem has16 {B n i k : Nat} (hn : n = 3 ∨ n = 4) (hi : i < n - 1) (hk : k < n - 1) (hik : i ≠ k) : Pure Tryz.prog B 16 [gV (n * 3) (big n i k), .lst 1 2 [.str norl, .str sem]] (· = .bool true) := by
  refine yS memo_J ?_
  show k8 n i k = true
  rcases hn with rfl | rfl
  · match i, k, hi, hk, hik with
    | 0, 1, _, _, _ => exact run16_3_0
    | 1, 0, _, _, _ => exact run16_3_1
    | 0, 0, _, _, h => exact absurd rfl h
    | 1, 1, _, _, h => exact absurd rfl h
    | i + 2, _, h, _, _ => exact absurd h (by omega)
    | _, k + 2, _, h, _ => exact absurd h (by omega)
  · match i, k, hi, hk, hik with
    | 0, 1, _, _, _ => exact run16_4_01
    | 0, 2, _, _, _ => exact run16_4_02
    | 1, 0, _, _, _ => exact run16_4_10
    | 1, 2, _, _, _ => exact run16_4_12
    | 2, 0, _, _, _ => exact run16_4_20
    | 2, 1, _, _, _ => exact run16_4_21
    | 0, 0, _, _, h => exact absurd rfl h
    | 1, 1, _, _, h => exact absurd rfl h
    | 2, 2, _, _, h => exact absurd rfl h
    | i + 3, _, h, _, _ => exact absurd h (by omega)
    | _, k + 3, _, h, _ => exact absurd h (by omega)
end Go.Ev
namespace Go.Ev
open Go Go.Proofs
variable {B : Nat}
set_option maxRecDepth 100000
theorem uGWff (op : KW3 → OP) (h : T Blk) (nx : Pa) (k : KW3) : sGW (.bool false) false op h nx k = op k := nr rfl
theorem uChk {k : OP} : sChk (true && (true && true)) k = k := nr rfl
theorem uChk2 {k : OP} : sChk (true && true) k = k := nr rfl
theorem fam_drop {n i : Nat} (hi : i < n - 1) : ∃ r, (famC n).drop (i * 3) = I (n : Int) :: I (n : Int) :: encI (fam n (i + 1)) :: r := by
  have key : ∀ (m s i : Nat), i < m → ∃ r, (((List.range' s m).flatMap fun k => [I (n : Int), I (n : Int), encI (fam n (k + 1))]) : List AV).drop (i * 3) = I (n : Int) :: I (n : Int) :: encI (fam n (s + i + 1)) :: r := by
    intro m
    induction m with
    | zero => intro s i h; omega
    | succ m ih =>
      intro s i h
      cases i with
      | zero => exact ⟨_, rfl⟩
      | succ i =>
        obtain ⟨r, hr⟩ := ih (s + 1) i (by omega)
        refine ⟨r, ?_⟩
        rw [List.range'_succ, List.flatMap_cons, show (i + 1) * 3 = 3 + i * 3 by omega, ← List.drop_drop, show s + (i + 1) + 1 = s + 1 + i + 1 by omega]
        exact hr
  unfold famC
  rw [List.range_eq_range']
  have := key (n - 1) 0 i hi
  simpa using this
theorem qE {n i : Nat} {h : T Blk} {op : AV → OP} (hi : i < n - 1) : zG 3 (.fp ((famC n).drop (i * 3))) h op = op (gV n (fam n (i + 1))) := by
  obtain ⟨r, hr⟩ := fam_drop hi
  rw [hr]
  exact nr rfl
theorem fam_len {n k : Nat} : (fam n k).length = n * n := by simp [fam]
theorem fd_len {n : Nat} {a b : List Int} (h : a.length = b.length) : (fdL n a b).length = a.length := by simp [fdL, h]
theorem lawTop3 {a b c : Nat} (ha : a < 256) (hb : b < 256) (hc : c < 256) : Pure Tryz.prog B 3 [.int .u8 (a : Int), .int .u8 (b : Int), .int .u8 (c : Int)] (· = .bool true) := by
  refine wH fun h nx K H0 hK => wJ tbl_ok dregU 100 fun hf => ?_
  have awk : ∀ (h : T Blk) (nx : Pa) (Z : Kw Prop), Z (.bool true) h nx = .ok True → (CS Tryz.prog B).fn 10 (.of 10) [] h nx Z = .ok True := fun h nx Z hz => pairs10 _ _ _ _ (fun v hv _ => by rw [hv]; exact hz)
  have ret : ∀ {h1 nx1 L}, Hp h h1 nx1 L → K (.bool true) h1 nx1 = .ok True := fun H => hK _ _ _ _ _ H (qC rfl) rfl
  rw [F3.go, F3.t61, zD, F3.t0_s, F3.t60, zD, F3.t1_s]
  refine H0.bslice (l := [I 3, I 4, I 5]) rfl fun sid h1 nx1 H1 => ?_
  obtain ⟨n, hn, hl⟩ : ∃ n : Nat, (n = 3 ∨ n = 4 ∨ n = 5) ∧ ([I 3, I 4, I 5] : List AV)[a % 3]? = some (I (n : Int)) := by
    have : a % 3 = 0 ∨ a % 3 = 1 ∨ a % 3 = 2 := by omega
    rcases this with q | q | q
    · exact ⟨3, .inl rfl, by rw [q]; rfl⟩
    · exact ⟨4, .inr (.inl rfl), by rw [q]; rfl⟩
    · exact ⟨5, .inr (.inr rfl), by rw [q]; rfl⟩
  rw [uConvI (by omega), sRemI (by omega), show (a : Int).tmod 3 = ((a % 3 : Nat) : Int) from rfl, sIx (i := a % 3) rfl (by omega), H1.load (k := 0) rfl hl, F3.t59, zD, F3.t2_s]
  refine fam8 hn _ _ _ _ ?_
  rintro _ rfl _
  rw [uM, gB, F3.t58, zD, F3.t7, zD, F3.t3_s, F3.r3_0, F3.r3_0_g, sNeq, decide_eq_true rfl, Bool.not_true]
  simp only [uL]
  rw [sLen_lst, sSub (by omega), sNeq, decide_eq_true (by omega), Bool.not_true, F3.r3_1, F3.r3_1_g, j9, F3.t6, jD, F3.v26, u2, jR, F3.t57, zD, F3.t8_s]
  have hi : b % (n - 1) < n - 1 := Nat.mod_lt _ (by omega)
  have hj : c % (n - 1) < n - 1 := Nat.mod_lt _ (by omega)
  have eb : ∀ op : AV → OP, gC .i64 (.int .u8 (b : Int)) op = op (I b) := fun op => uConvI (by omega)
  have ec : ∀ op : AV → OP, gC .i64 (.int .u8 (c : Int)) op = op (I c) := fun op => uConvI (by omega)
  have en : ∀ op : AV → OP, sBin .sub .int (I (n : Int)) (I 1) op = op (I ((n - 1 : Nat) : Int)) := fun op => by rw [sSub (by omega), show (n : Int) - 1 = ((n - 1 : Nat) : Int) by omega]
  have rb : ∀ op : AV → OP, sBin .rem .int (I (b : Int)) (I ((n - 1 : Nat) : Int)) op = op (I ((b % (n - 1) : Nat) : Int)) := fun op => by rw [sRemI (by omega)]; rfl
  have rc : ∀ op : AV → OP, sBin .rem .int (I (c : Int)) (I ((n - 1 : Nat) : Int)) op = op (I ((c % (n - 1) : Nat) : Int)) := fun op => by rw [sRemI (by omega)]; rfl
  generalize b % (n - 1) = i at *
  generalize c % (n - 1) = j at *
  have ib : ∀ op : AV → OP, zZ 3 (.lst 3 (n - 1) (famC n)) (I (i : Int)) op = op (.fp ((famC n).drop (i * 3))) := fun op => sIxL rfl hi
  have ic : ∀ op : AV → OP, zZ 3 (.lst 3 (n - 1) (famC n)) (I (j : Int)) op = op (.fp ((famC n).drop (j * 3))) := fun op => sIxL rfl hj
  have lb : ∀ (h : T Blk) (op : AV → OP), zG 3 (.fp ((famC n).drop (i * 3))) h op = op (gV n (fam n (i + 1))) := fun h op => qE hi
  have lc : ∀ (h : T Blk) (op : AV → OP), zG 3 (.fp ((famC n).drop (j * 3))) h op = op (gV n (fam n (j + 1))) := fun h op => qE hj
  rw [uChk]
  try simp only [eb, ec, en, rb, rc, ib, ic, lb, lc, zC]
  refine H1.alloc fun p7 h2 nx2 H2 => ?_
  try simp only [eb, ec, en, rb, rc, ib, ic, lb, lc, zC]
  refine H2.alloc fun p8 h3 nx3 H3 => ?_
  try simp only [eb, ec, en, rb, rc, ib, ic, lb, lc, zC]
  refine H3.storeN (l2 := [I (n : Int), I (n : Int), encI (fam n (i + 1))]) (k := 1) rfl rfl rfl fun h4 H4 => ?_
  try simp only [eb, ec, en, rb, rc, ib, ic, lb, lc, zC]
  refine H4.storeN (l2 := [I (n : Int), I (n : Int), encI (fam n (j + 1))]) (k := 0) rfl rfl rfl fun h5 H5 => ?_
  rw [F3.t56, zD, F3.t9_s, H5.loadN (k := 1) (n := 3) rfl rfl, H5.loadN (k := 0) (n := 3) rfl rfl]
  have p9 := yS (B := B) (fun _ => yG) (jY run9_ok hn hi hj)
  refine p9 _ _ _ _ ?_
  rintro _ rfl _
  by_cases hij : i = j
  · rw [if_pos hij, uM, gB]
    refine H5.alloc fun p9 h6 nx6 H6 => ?_
    refine H6.storeN (l2 := [I 0, I 0, .nils]) (k := 0) rfl rfl rfl fun h7 H7 => ?_
    rw [F3.t55, zD, F3.t14, zD, F3.t10_s, eb, en, rb, ec, en, rc, sEql, decide_eq_true (by rw [hij]), F3.t13, jD, F3.v27, sCond_t, F3.t12, zD, F3.t11_s, sEql, decide_eq_true rfl, uGWt]
    refine awk _ _ _ ?_
    rw [sPick_t]
    simp only [gN, q0]
    rw [F3.ret]
    exact ret H7
  rw [if_neg hij, uM, gB]
  have hfl : (fdL n (fam n (i + 1)) (fam n (j + 1))).length = n * n := by rw [fd_len (by rw [fam_len, fam_len]), fam_len]
  refine H5.alloc fun p9 h6 nx6 H6 => ?_
  refine H6.storeN (l2 := [I (n : Int), I (n : Int), encI (fdL n (fam n (i + 1)) (fam n (j + 1)))]) (k := 0) rfl rfl rfl fun h7 H7 => ?_
  rw [F3.t55, zD, F3.t14, zD, F3.t10_s, eb, en, rb, ec, en, rc, sEql, decide_eq_false (by omega), F3.t13, jD, F3.v27, u2, jR, F3.t54, zD, F3.t15_s, H7.loadN (k := 0) (n := 3) rfl rfl]
  have p11 := jY run11_ok hn hi hj
  unfold run11 at p11
  rw [if_neg hij] at p11
  refine yS (B := B) (fun _ => yG) p11 _ _ _ _ ?_
  rintro _ rfl _
  rw [uM, gB, sExt2]
  refine H7.alloc fun p11 h8 nx8 H8 => ?_
  refine H8.alloc fun p12 h9 nx9 H9 => ?_
  refine H9.storeN (l2 := [I (n : Int), I (n : Int), encI (fam n (i + 1))]) (k := 1) rfl rfl rfl fun h10 H10 => ?_
  refine H10.storeN (l2 := [I (n : Int), I (n : Int), encI (fam n (j + 1))]) (k := 0) rfl rfl rfl fun h11 H11 => ?_
  have p12 := jY run12_ok hn (i := 0) (k := 0) (by omega) (by omega)
  unfold run12 at p12
  rw [if_pos ⟨rfl, rfl⟩] at p12
  rw [F3.t53, zD, F3.t16_s]
  refine yS (B := B) (fun _ => yG) p12 _ _ _ _ ?_
  rintro _ rfl _
  rw [uM, gB]
  refine H11.alloc fun p14 h12 nx12 H12 => ?_
  refine H12.storeN (l2 := [I ((n * n : Nat) : Int), encT (rcL n)]) (k := 0) rfl rfl rfl fun h13 H13 => ?_
  have p13 : ∀ m, m < n - 1 → Pure Tryz.prog B 13 [gV n (fam n (m + 1)), gV n (fam n (m + 1))] (· = .bool true) := fun m hm => by
    have q := jY run13_ok hn (i := m) (k := 0) hm (by omega)
    unfold run13 at q
    rw [if_pos rfl] at q
    exact yS (fun _ => yG) q
  rw [F3.t52, zD, F3.t21, zD, F3.t17_s, F3.r9_0, F3.r9_0_g, sNeq, decide_eq_true rfl, Bool.not_true]
  simp only [uL]
  rw [sNeq, decide_eq_true rfl, Bool.not_true]
  simp only [j9, uL]
  rw [F3.r9_1, F3.r9_1_g]
  simp only [uL]
  rw [sNeq, decide_eq_true rfl, Bool.not_true]
  simp only [j9, uL]
  rw [H13.loadN (k := 2) (n := 3) rfl rfl, H13.loadN (k := 5) (n := 3) rfl rfl, uGWff]
  refine p13 i hi _ _ _ _ ?_
  rintro _ rfl _
  rw [F3.r9_2, F3.r9_2_g]
  simp only [uL]
  rw [sNot_b, Bool.not_true, j9]
  simp only [uL]
  rw [H13.loadN (k := 1) (n := 3) rfl rfl, H13.loadN (k := 4) (n := 3) rfl rfl, uGWff]
  refine p13 j hj _ _ _ _ ?_
  rintro _ rfl _
  rw [F3.r9_3, F3.r9_3_g]
  simp only [uL]
  rw [sNot_b, Bool.not_true, j9]
  simp only [uL]
  rw [sFx, H13.load (k := 0) (i := 0 + 0) rfl rfl, sFx, H13.load (k := 3) (i := 0 + 2) rfl rfl]
  rw [show ∀ op : AV → OP, sLen (encI (fdL n (fam n (i + 1)) (fam n (j + 1)))) op = op (I ((n * n : Nat) : Int)) from fun op => by unfold encI; rw [sLen_lst, hfl], F3.r9_4, F3.r9_4_g]
  simp only [uL]
  rw [sNeq, decide_eq_true rfl, Bool.not_true, j9, F3.t20, jD, F3.v28, u2, jR, F3.t51, zD, F3.t22_s, H13.loadN (k := 0) (n := 2) rfl rfl, sFx, H13.load (k := 3) (i := 0 + 2) rfl rfl]
  have p14 := jY run14_ok hn hi hj
  unfold run14 at p14
  rw [if_neg hij] at p14
  refine yS (B := B) (fun _ => yG) p14 _ _ _ _ ?_
  rintro _ rfl _
  rw [uM, gB, F3.t50, zD, F3.t27, zD, F3.t23_s, sNeq, decide_eq_true rfl, Bool.not_true]
  simp only [uL]
  rw [sNot_b, Bool.not_true, j9, F3.t26, jD, F3.v29, u2, jR, F3.t49, zD, F3.t32, zD, F3.t28_s, sGtr, F3.t31, jD, F3.v30]
  by_cases h5 : n = 5
  · rw [decide_eq_true (by omega), sCond_t, F3.t30, zD, F3.t29_s]
    refine awk _ _ _ ?_
    simp only [gN, q0]
    rw [F3.ret]
    exact ret H13
  have hn4 : n = 3 ∨ n = 4 := by omega
  rw [decide_eq_false (by omega), u2, jR, F3.t48, zD, F3.t33_s]
  refine fam8 (n := 3) (.inl rfl) _ _ _ _ ?_
  rintro _ rfl _
  rw [uM, gB, F3.t47, zD, F3.t38, zD, F3.t34_s, sNeq, decide_eq_true rfl, Bool.not_true]
  simp only [uL]
  rw [sLen_lst, sNeq, decide_eq_true (p := ((3 - 1 : Nat) : Int) = 2) (by decide), Bool.not_true, j9, F3.t37, jD, F3.v31, u2, jR]
  have p15 : ∀ m k, m < n - 1 → k < 2 → Pure Tryz.prog B 15 [gV n (fam n (m + 1)), gV 3 (fam 3 (k + 1))] (· = .tup [gV (n * 3) (prL n (fam n (m + 1)) 3 (fam 3 (k + 1))), I 0]) := fun m k hm hk => by
    have q := jY run15_ok hn (i := m) (k := k) hm (by omega)
    unfold run15 at q
    rw [if_pos ⟨by omega, hk⟩] at q
    exact yS (fun _ => yG) q
  have i0 : ∀ op : AV → OP, zZ 3 (.lst 3 (3 - 1) (famC 3)) (I 0) op = op (.fp ((famC 3).drop (0 * 3))) := fun op => sIxL (i := 0) rfl (by omega)
  have i1 : ∀ op : AV → OP, zZ 3 (.lst 3 (3 - 1) (famC 3)) (I 1) op = op (.fp ((famC 3).drop (1 * 3))) := fun op => sIxL (i := 1) rfl (by omega)
  have l0 : ∀ (h : T Blk) (op : AV → OP), zG 3 (.fp ((famC 3).drop (0 * 3))) h op = op (gV 3 (fam 3 (0 + 1))) := fun h op => qE (by omega)
  have l1 : ∀ (h : T Blk) (op : AV → OP), zG 3 (.fp ((famC 3).drop (1 * 3))) h op = op (gV 3 (fam 3 (1 + 1))) := fun h op => qE (by omega)
  rw [F3.t46, zD, F3.t39_s, uChk2, H13.loadN (k := 5) (n := 3) rfl rfl, i0, l0]
  refine p15 i 0 hi (by omega) _ _ _ _ ?_
  rintro _ rfl _
  rw [l0, zC, i0, zC, zC, H13.loadN (k := 5) (n := 3) rfl rfl, zC, uM, gB]
  refine H13.alloc fun p20 h14 nx14 H14 => ?_
  rw [gB, zC, uM, zC, zC, l0, zC, i0, zC, zC, H14.loadN (k := 6) (n := 3) rfl rfl, zC]
  refine H14.storeN (l2 := [I ((n * 3 : Nat) : Int), I ((n * 3 : Nat) : Int), encI (prL n (fam n (i + 1)) 3 (fam 3 1))]) (k := 0) rfl rfl rfl fun h15 H15 => ?_
  rw [gB, zC, F3.t45, zD, F3.t40_s, uChk2, H15.loadN (k := 5) (n := 3) rfl rfl, i1, l1]
  refine p15 j 1 hj (by omega) _ _ _ _ ?_
  rintro _ rfl _
  rw [l1, zC, i1, zC, zC, H15.loadN (k := 5) (n := 3) rfl rfl, zC, uM, gB]
  refine H15.alloc fun p22 h16 nx16 H16 => ?_
  rw [gB, zC, uM, zC, zC, l1, zC, i1, zC, zC, H16.loadN (k := 6) (n := 3) rfl rfl, zC]
  refine H16.storeN (l2 := [I ((n * 3 : Nat) : Int), I ((n * 3 : Nat) : Int), encI (prL n (fam n (j + 1)) 3 (fam 3 2))]) (k := 0) rfl rfl rfl fun h17 H17 => ?_
  rw [gB, zC, F3.t44, zD, F3.t41_s, H17.loadN (k := 1) (n := 3) rfl rfl, H17.loadN (k := 0) (n := 3) rfl rfl]
  have p9b := jY run9b_ok hn hi hj
  unfold run9b at p9b
  rw [if_pos ⟨by omega, hij⟩] at p9b
  refine yS (B := B) (fun _ => yG) p9b _ _ _ _ ?_
  rintro _ rfl _
  rw [uM, gB]
  refine H17.alloc fun p24 h18 nx18 H18 => ?_
  refine H18.storeN (l2 := [I ((n * 3 : Nat) : Int), I ((n * 3 : Nat) : Int), encI (big n i j)]) (k := 0) rfl rfl rfl fun h19 H19 => ?_
  rw [F3.t43, zD, F3.t42_s, F3.r20_0, F3.r20_0_g, sAdd (by omega), sAdd (by omega), sEql, decide_eq_true (p := (0 : Int) + 0 + 0 = 0) (by decide)]
  simp only [sG_tt]
  rw [H19.loadN (k := 0) (n := 3) rfl rfl, F3.r20_1, F3.r20_1_g, uGWt]
  refine H19.bslice (l := [.str norl, .str sem]) rfl fun ts h20 nx20 H20 => ?_
  rw [F3.r20_2, F3.r20_2_g, uGWt]
  refine CS_let (h' := T.set .no .no ts h20) keeps_kill (.cons (uAgg (fun v hv => by
    simp only [List.mem_cons, List.not_mem_nil, or_false] at hv
    rcases hv with rfl | rfl | rfl
    · rfl
    · rfl
    · exact fixd_encI _)) (.cons (HasArr.frz (H20.own _ (List.mem_cons_self ..)) (T.get_set_same _ _ _ _) (Nat.le_refl _) rfl (fun v hv => by
    simp only [List.mem_cons, List.not_mem_nil, or_false] at hv
    rcases hv with rfl | rfl <;> rfl)) .nil)) ?_
  refine has16 hn4 hi hj hij _ _ _ _ ?_
  rintro _ rfl _
  rw [F3.r20_3, F3.r20_3_g, sPick_t, uGWt]
  refine awk _ _ _ ?_
  rw [F3.r20_4, F3.r20_4_g, sPick_t]
  simp only [gN, q0]
  rw [F3.ret]
  exact ret H20.killU
end Go.Ev
