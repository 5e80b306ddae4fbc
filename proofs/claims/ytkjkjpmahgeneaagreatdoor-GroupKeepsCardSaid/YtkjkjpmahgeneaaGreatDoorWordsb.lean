import Derived.Test.YtkjkjpmahgeneaaGreatDoorWordsa
import Derived.Test.YtkjkjpmahgeneaaGreatDoorCodea
import Derived.Test.YtkjkjpmahgeneaaGreatDoorEvD
import Derived.Test.YtkjkjpmahgeneaaGreatDoorLaws
import Derived.Shelf.SlSortCmp.Whole1
import Derived.Deep.Slices
import Derived.Sort.Grow
import Derived.Sort.Row
set_option linter.unusedSimpArgs false
set_option linter.unusedVariables false
namespace Go.Ev
open Go Go.Proofs
variable {B : Nat}
set_option maxRecDepth 100000
theorem perm5 {α : Type} (a b c d e f g : α) (L : List α) : (a :: b :: c :: d :: e :: f :: g :: L).Perm (b :: c :: e :: ([a, d, f, g] ++ L)) :=
 (List.Perm.swap b a _).trans (.cons b ((List.Perm.swap c a _).trans (.cons c (((List.Perm.swap e d _).cons a).trans (List.Perm.swap e a _)))))
def subE (G S : List Sym) (n : Int) : Int := if j4 G n ≠ 0 then j4 G n else if j4 S n ≠ 0 then j4 S n else if S.all (fun a => decide (a ∈ G)) then 0 else 28
theorem mC {h0 h : T Blk} {nx p : Pa} {K : Kw Prop} {L : List Ob} {n : Int} {G S : List Sym} (hG : G.length ≤ 100000) (hw : ∀ g ∈ G, g.1.length ≤ 100000) (hS : S.length ≤ 100000) (hw2 : ∀ g ∈ S, g.1.length ≤ 100000) (H : Hp h0 h nx L)
  (hbad : ∀ e h' nx' X, e = subE G S n → e ≠ 0 → Hp h0 h' nx' (X ++ L) → K (.tup [.nilm, .agg [.nils, .nils], I e]) h' nx' = .ok True)
  (hok : ∀ (n' : Nat) (u1 q1 u2 q2 : List Sym) g o1 o2 h' nx' X, n = n' → GrOk G n' → GrOk S n' → subE G S n = 0 → (∀ c ∈ u1, c ∈ G) → u1.length ≤ G.length → CloS n' u1 q1 → (∀ a, a ∈ q1 ↔ a ∈ G) → (∀ c ∈ u2, c ∈ S) → u2.length ≤ S.length → CloS n' u2 q2 → (∀ a, a ∈ q2 ↔ a ∈ S) → (∀ a ∈ S, a ∈ G) →
   Hp h0 h' nx' (.map g (entS q2) :: .gro o2 2 u2.length (yS u2) :: .gro o1 2 u1.length (yS u1) :: (X ++ L)) → K (.tup [.map g, .agg [rowV o1 2 u1.length, rowV o2 2 u2.length], I 0]) h' nx' = .ok True) :
  (CS Tryz.prog B).fn 120 p [encG G, encG S, I n] h nx K = .ok True := by
 refine jL (p := .of 120) (K := K) (zR zW dreg 10000000 fun hf => ?_) fun _ _ _ _ q => q
 rw [F120.go, F120.t40, zA, F120.t0_s]
 refine H.alloc fun b4 h1 nx1 H1 => ?_
 rw [F120.t39, zA, F120.t1_s]
 refine H1.alloc fun b6 h2 nx2 H2 => ?_
 rw [F120.t38, zA, F120.t2_s]
 refine open167 hG hw H2 (fun h3 nx3 hg H3 => ?_) fun n' u1 q1 g1 o1 h3 nx3 hn ok1 hg1 hu1 hul1 hC1 hnd1 hq1 H3 => ?_
 ·rw [yP, yU, yZ, F120.t37, zA, F120.t7, zA, F120.t3_s, sNeq, decide_eq_false hg, Bool.not_false, F120.t6, zM, F120.v13, zC, F120.t5, zA, F120.t4_s, H3.loadN (k := 0) (n := 2) rfl rfl]
  refine H3.storeN (k := 1) (n := 2) rfl rfl rfl fun h4 H4 => ?_
  rw [zB]
  simp only [yL, jN]
  rw [F120.ret, H4.loadN (k := 1) (n := 2) rfl rfl]
  exact hbad _ _ _ [_, _] (by rw [subE, if_pos hg]) hg H4
 rw [yP, yU, yZ, F120.t37, zA, F120.t7, zA, F120.t3_s, sNeq, decide_eq_true rfl, Bool.not_true, F120.t6, zM, F120.v13, zD, yG, F120.t36, zA, F120.t8_s]
 refine open167 hS hw2 H3 (fun h4 nx4 hg H4 => ?_) fun n2 u2 q2 g2 o2 h4 nx4 hn2 ok2 hg2 hu2 hul2 hC2 hnd2 hq2 H4 => ?_
 ·rw [yP, yU, yZ, F120.t35, zA, F120.t13, zA, F120.t9_s, sNeq, decide_eq_false hg, Bool.not_false, F120.t12, zM, F120.v14, zC, F120.t11, zA, F120.t10_s, H4.loadN (k := 2) (n := 2) rfl rfl]
  refine H4.storeN (k := 3) (n := 2) rfl rfl rfl fun h5 H5 => ?_
  rw [zB]
  simp only [yL, jN]
  rw [F120.ret, H5.loadN (k := 3) (n := 2) rfl rfl]
  exact hbad _ _ _ [_, _, _, _] (by rw [subE, if_neg (by simp [hg1]), if_pos hg]) hg H5
 subst hn
 obtain rfl : n' = n2 := by omega
 rw [yP, yU, yZ, F120.t35, zA, F120.t13, zA, F120.t9_s, sNeq, decide_eq_true rfl, Bool.not_true, F120.t12, zM, F120.v14, zD, yG, F120.t34, zA, F120.t29, zA, F120.t14_s]
 refine H4.range (k := 0) rfl fun it h5 nx5 H5 => ?_
 have hlen : (entS q2).length = q2.length := by simp [entS]
 have hql : q2.length ≤ S.length := lenG hnd2 fun a ha => (hq2 a).1 ha
 have hn256 : n' ≤ 256 := ok1.n256
 have hd1 : ∀ b ∈ q1, DS n' b := fun b hb => (ok1.dp b ((hq1 b).1 hb)).1
 rw [F120.t28, yD]
 refine F120.t27_L (fun m' h' nx' => ∃ seen : List Nat, (gR q2.length seen).length = m' ∧ (∀ i ∈ seen, ∀ a, q2[i]? = some a → a ∈ G) ∧
  Hp h0 h' nx' (.iter it g2 (entS q2).length seen (entS q2).length :: .map g2 (entS q2) :: .gro o2 2 u2.length (yS u2) :: .map g1 (entS q1) :: .gro o1 2 u1.length (yS u1) :: .arr b6 [.nils, .nils] :: .arr b4 [.nils, .nils] :: L)) (m := q2.length) (by omega)
  ⟨[], by (have e : gR q2.length [] = List.range q2.length := List.filter_eq_self.2 (by simp)); rw [e]; simp, by simp, H5⟩ ?_
 rintro m' z3 z5 z12 z16 z17 h6 nx6 R ⟨seen, rfl, hse, H6⟩ hR
 rw [F120.t26, zA, F120.t15_s]
 refine H6.next (k := 0) (j := 1) rfl rfl (fun hall => ?_) fun i a b h7 hi hnin hab H7 => ?_
 ·have hsub : ∀ a ∈ S, a ∈ G := fun a ha => by
   obtain ⟨i, hi⟩ := List.getElem?_of_mem ((hq2 a).2 ha)
   exact hse i (hall i (by rw [hlen]; exact (List.getElem?_eq_some_iff.1 hi).1)) a hi
  rw [yP, F120.t25, zA, F120.t16, zM, F120.v16, zD, jY, uJ, F120.t33, zA, F120.t30_s, sAx0]
  refine H6.store (k := 5) rfl (by simp) (kD _ _ _) fun h7 H7 => ?_
  rw [sAx1]
  refine H7.store (k := 5) rfl (by simp) (kD _ _ _) fun h8 H8 => ?_
  rw [F120.t32, zA, F120.t31_s, H8.loadN (k := 5) (n := 2) rfl rfl]
  refine H8.storeN (k := 6) (n := 2) rfl rfl rfl fun h9 H9 => ?_
  simp only [yL, jN]
  rw [F120.ret, H9.loadN (k := 6) (n := 2) rfl rfl]
  refine hok n' u1 q1 u2 q2 g2 o1 o2 _ _ [_, _, _, _] rfl ok1 ok2 (by rw [subE, if_neg (by simp [hg1]), if_neg (by simp [hg2]), if_pos (List.all_eq_true.2 fun a ha => decide_eq_true (hsub a ha))]) hu1 hul1 hC1 hq1 hu2 hul2 hC2 hq2 hsub (H9.perm (perm5 _ _ _ _ _ _ _ _))
 ·have hi' : i < q2.length := by rw [← hlen]; exact hi
  have hx : q2[i]? = some q2[i] := List.getElem?_eq_getElem hi'
  have hent : (entS q2)[i]? = some (.str (keyB q2[i]), encS q2[i]) := by rw [entS, List.getElem?_map, hx]; rfl
  rw [hent] at hab
  cases hab
  rw [yP, F120.t25, zA, F120.t16, zM, F120.v16, zC, yG, F120.t24, yD, F120.t23, zA, F120.t17_s, H7.entry (k := 0) (j := 1) rfl rfl hent, yU]
  refine H7.alloc fun b5 h8 nx8 H8 => ?_
  refine H8.storeN (k := 0) (n := 2) rfl rfl rfl fun h9 H9 => ?_
  rw [F120.t22, zA, F120.t18_s, H9.loadN (k := 0) (n := 2) rfl rfl]
  have hd2 : DS n' q2[i] := (ok2.dp _ ((hq2 _).1 (List.getElem_mem hi'))).1
  refine has204 (a := q2[i]) hn256 hd2 hd1 H9 (k := 4) rfl ?_
  rw [yF, F120.t21, zM, F120.v17]
  by_cases c : q2[i] ∈ q1
  ·rw [decide_eq_true c, Bool.not_true, zD, yG]
   refine hR _ _ _ _ _ _ _ _ (show (gR q2.length (i :: seen)).length < _ by have := leftA_step hi' hnin; omega) ⟨i :: seen, rfl, fun j hj a ha => ?_, H9.drop⟩
   rcases List.mem_cons.1 hj with rfl | r
   ·rw [hx] at ha; cases ha; exact (hq1 _).1 c
   ·exact hse j r a ha
  ·rw [decide_eq_false c, Bool.not_false, zC, F120.t20, zA, F120.t19_s, H9.loadN (k := 6) (n := 2) rfl rfl]
   refine H9.storeN (k := 7) (n := 2) rfl rfl rfl fun h10 H10 => ?_
   simp only [yL, blk_rt, jN]
   rw [F120.ret, H10.loadN (k := 7) (n := 2) rfl rfl]
   refine hbad 28 _ _ [_, _, _, _, _, _, _, _] ?_ (by decide) H10
   rw [subE, if_neg (by simp [hg1]), if_neg (by simp [hg2]), if_neg]
   intro hall
   have := List.all_eq_true.1 hall q2[i] ((hq2 _).1 (List.getElem_mem hi'))
   exact c ((hq1 _).2 (of_decide_eq_true this))
def closE (l : List Sym) (n : Int) : Int := if n < 0 ∨ 256 < n then 3 else if 256 < l.length then 5 else j9 n l
def ClosQ (l : List Sym) (n : Int) (v : AV) : Prop := if closE l n ≠ 0 then v = .tup [.nils, I (closE l n)] else ∃ n' : Nat, n = n' ∧ n' ≤ 256 ∧ (∀ a ∈ l, DP n' a) ∧
 ((mX n' 1536 l ∧ v = .tup [.nils, I 20]) ∨ ∃ u q s, (∀ c ∈ u, c ∈ l) ∧ (∀ a ∈ l, a ∈ q) ∧ q.Nodup ∧ CloS n' u q ∧ q.length ≤ 1536 ∧ s.Perm q ∧ s.Pairwise (fun a b => ordS a b ≤ 0) ∧ v = .tup [encG s, I 0])
abbrev fxP (a : Sym) : AV × Sym := (encI a.1, a)
theorem fxP_snd : ∀ q : List Sym, (q.map fxP).map (·.2) = q
 | [] => rfl
 | a :: q => congrArg (a :: ·) (fxP_snd q)
theorem sort_ex (q : List Sym) : ∃ s : List Sym, s.Perm q ∧ s.Pairwise (fun a b => ordS a b ≤ 0) :=
 ⟨(srtP (q.map fxP)).map (·.2), by have := (pM (q.map fxP)).map (·.2); rw [fxP_snd] at this; exact this, List.pairwise_map.2 (srtP_srt _)⟩
theorem entP_fx (q : List Sym) : entP (q.map fxP) = entS q := by simp [entP, entS]
theorem flatP_fx : ∀ q : List Sym, jF (q.map fxP) = yS q
 | [] => rfl
 | a :: q => by
  show encI a.1 :: .bool a.2 :: jF (q.map fxP) = _
  rw [flatP_fx q]; rfl
theorem fixd_flatG {q : List Sym} : ∀ v ∈ yS q, fixd v = true := fun v hv => by
 obtain ⟨x, _, hx⟩ := List.mem_flatMap.1 hv
 simp only [List.mem_cons, List.not_mem_nil, or_false] at hx
 rcases hx with rfl | rfl
 ·exact vA _
 ·rfl
theorem closure27 {l : List Sym} {n : Int} (hl : l.length ≤ 100000) (hw : ∀ g ∈ l, g.1.length ≤ 100000) : Pure Tryz.prog B 27 [encG l, I n] (ClosQ l n) := by
 refine jI fun h nx K H0 hK => zR zW dreg 1000 fun hf' => ?_
 rw [F27.go, F27.t27, zA, F27.t0_s, F27.t26, zA, F27.t7, zA, F27.t1_s]
 (refine cells182 n _ _ _ _ ?_; rintro _ rfl _)
 rw [zG, sGtr]
 (refine wN _ _ _ _ _ _ ?_; rintro _ rfl _)
 refine H0.bslice (l := [I (if n < 0 ∨ 256 < n then 3 else 0), I (if decide ((256 : Int) < (l.length : Int)) = true then 5 else 0)]) rfl fun tb h1 nx1 H1 => ?_
 refine kZ (l := [if n < 0 ∨ 256 < n then 3 else 0, if decide ((256 : Int) < (l.length : Int)) = true then 5 else 0]) H1 (k := 0) rfl (fun B => dX (by simp)) (fun v hv => by rw [hv]; exact .int _ _) ?_
 rintro _ rfl
 have fE : uC [if n < 0 ∨ 256 < n then (3 : Int) else 0, if decide ((256 : Int) < (l.length : Int)) = true then 5 else 0] = if n < 0 ∨ 256 < n then 3 else if 256 < l.length then 5 else 0 := by
  by_cases c1 : n < 0 ∨ 256 < n
  ·rw [if_pos c1, if_pos c1]; rfl
  rw [if_neg c1, if_neg c1]
  by_cases c2 : 256 < l.length
  ·rw [decide_eq_true (show (256 : Int) < (l.length : Int) by omega), if_pos c2]; rfl
  ·rw [decide_eq_false (show ¬ (256 : Int) < (l.length : Int) by omega), if_neg c2]; rfl
 rw [fE, F27.t6, zA, F27.t2_s, sNeq, F27.t5, zM, F27.v8]
 have bad : ∀ (e : Int) h' nx' L', Hp h h' nx' L' → e = closE l n → e ≠ 0 → K (.tup [.nils, I e]) h' nx' = .ok True := fun e h' nx' L' H' he hne =>
  hK _ _ _ _ _ H' (u7 (zK rfl) (zK rfl)) (by rw [ClosQ, ← he, if_pos hne])
 by_cases c1 : (if n < 0 ∨ 256 < n then (3 : Int) else if 256 < l.length then 5 else 0) = 0
 case neg =>
  rw [decide_eq_false c1, Bool.not_false, zC, F27.t4, zA, F27.t3_s]
  simp only [yL, jN]
  rw [F27.ret]
  refine bad _ _ _ _ H1 ?_ c1
  rw [closE]
  split at c1
  ·rename_i q; rw [if_pos q, if_pos q]
  ·rename_i q; rw [if_neg q, if_neg q]
   split at c1
   ·rename_i q; rw [if_pos q, if_pos q]
   ·exact absurd rfl c1
 rw [decide_eq_true c1, Bool.not_true, zD, yG, F27.t25, zA, F27.t14, zA, F27.t8_s]
 obtain ⟨c2, c3⟩ : ¬ (n < 0 ∨ 256 < n) ∧ ¬ 256 < l.length := by
  split at c1
  ·omega
  ·rename_i q
   split at c1
   ·omega
   ·rename_i q2; exact ⟨q, q2⟩
 have e0 : closE l n = j9 n l := by rw [closE, if_neg c2, if_neg c3]
 refine mJ hl hw _ _ _ _ ?_
 rintro _ rfl _
 rw [F27.t13, zA, F27.t9_s, sNeq, F27.t12, zM, F27.v9]
 by_cases c4 : j9 n l = 0
 case neg =>
  rw [decide_eq_false c4, Bool.not_false, zC, F27.t11, zA, F27.t10_s]
  simp only [yL, jN]
  rw [F27.ret]
  exact bad _ _ _ _ H1 e0.symm c4
 rw [decide_eq_true c4, Bool.not_true, zD, yG, F27.t24, zA, F27.t15_s]
 obtain ⟨n', rfl⟩ : ∃ n' : Nat, n = (n' : Int) := ⟨n.toNat, by omega⟩
 have hdp : ∀ g ∈ l, DP n' g := fun g hg => by
  obtain ⟨_, q2, q3⟩ := q8 (wO c4 g hg)
  exact DP.of q3 (by omega)
 have hn256 : n' ≤ 256 := by omega
 have good : ∀ {v h' nx' L' v'}, Hp h h' nx' L' → FrzN h h' v v' → ((mX n' 1536 l ∧ v' = .tup [.nils, I 20]) ∨ ∃ u q s, (∀ c ∈ u, c ∈ l) ∧ (∀ a ∈ l, a ∈ q) ∧ q.Nodup ∧ CloS n' u q ∧ q.length ≤ 1536 ∧ s.Perm q ∧ s.Pairwise (fun a b => ordS a b ≤ 0) ∧ v' = .tup [encG s, I 0]) → K v h' nx' = .ok True := fun H' hF hq =>
  hK _ _ _ _ _ H' hF (by rw [ClosQ, e0, if_neg (by simp [c4])]; exact ⟨n', rfl, hn256, hdp, hq⟩)
 refine closure187 (n := n') (limit := 1536) hn256 (by omega) (by omega) (fun g hg => (hdp g hg).1) (by omega) H1 (fun h16 nx16 hT H16 => ?_) fun u q g o h16 nx16 hu _ hin hqn hC hql H16 => ?_
 ·rw [yP, yU, yZ, F27.t23, zA, F27.t20, zA, F27.t16_s, yF, Bool.not_false, F27.t19, zM, F27.v10, zC, F27.t18, zA, F27.t17_s]
  simp only [yL, jN]
  rw [F27.ret]
  exact good H16 (u7 (zK rfl) (zK rfl)) (.inl ⟨hT, rfl⟩)
 rw [yP, yU, yZ, F27.t23, zA, F27.t20, zA, F27.t16_s, yF, Bool.not_true, F27.t19, zM, F27.v10, zD, yG, F27.t22, zA, F27.t21_s]
 have hdq : ∀ a ∈ q, DP n' a := hC.dom (gB n') fun b hb => hdp b (hu b hb)
 have hone : idS n' ∈ q := hC.one
 have hq0 : 0 < q.length := List.length_pos_of_mem hone
 obtain ⟨s, hs1, hs2⟩ : ∃ s : List Sym, s.Perm q ∧ s.Pairwise (fun a b => ordS a b ≤ 0) := by
  exact sort_ex q
 have hsm := fxP_snd
 have he : (Ob.map g (entS q)) = .map g (entP (q.map fxP)) := by rw [entP_fx]
 rw [he] at H16
 refine list99P (k := 0) (q := q.map fxP) (s := s.map fxP) H16 rfl (by simpa using hq0) (by simp; omega) (fun a ha => ?_) (by rw [hsm]; exact hqn) (hs1.map _) (List.pairwise_map.2 hs2) fun o' h17 nx17 A H17 => ?_
 ·obtain ⟨b, hb, rfl⟩ := List.mem_map.1 ha
  have := (hdq b hb).1.1
  exact ⟨.inl rfl, by show b.1.length ≤ _; omega⟩
 ·simp only [yL, jN]
  rw [F27.ret]
  rw [List.length_map, flatP_fx] at H17
  rw [List.length_map]
  refine good H17 (u7 (H17.frzGro (k := 0) rfl fixd_flatG) (zK rfl)) (.inr ⟨u, q, s, hu, hin, hqn, hC, hql, hs1, hs2, rfl⟩)
end Go.Ev
namespace Go.Ev
theorem befS_asymm {a b : Sym} (h : befS a b = true) : befS b a = false := by
 cases c : befS b a with
 | false => rfl
 | true => have := befS_trans h c; rw [qP] at this; cases this
def j3 (S : List Sym) (a : Sym) : Bool := S.all fun b => !befS (zL a b) a
def cosL (G S : List Sym) : List Sym := G.filter (j3 S)
def cosU (C S : List Sym) : List Sym := C.flatMap fun a => S.map (zL a)
theorem mem_cosU {C S : List Sym} {x : Sym} : x ∈ cosU C S ↔ ∃ a ∈ C, ∃ b ∈ S, zL a b = x := by
 simp [cosU]
section
variable {G S : List Sym} {n : Nat}
theorem GrOk.inv2 (hS : GrOk S n) {b : Sym} (hb : b ∈ S) : ∃ c ∈ S, ∀ a, DP n a → zL (zL a b) c = a := by
 obtain ⟨c, hc, e⟩ := hS.inv b hb
 exact ⟨c, hc, fun a ha => by rw [(gB n).assoc a b c ha (hS.dp b hb) (hS.dp c hc), e, (gB n).er a ha]⟩
theorem coset_back (hS : GrOk S n) {a x b : Sym} (ha : DP n a) (hb : b ∈ S) (e : zL a b = x) : ∃ c ∈ S, zL x c = a := by
 obtain ⟨c, hc, q⟩ := hS.inv2 hb
 exact ⟨c, hc, by rw [← e]; exact q a ha⟩
theorem coset_step (hS : GrOk S n) {a x b c : Sym} (ha : DP n a) (hb : b ∈ S) (hc : c ∈ S) (e : zL a b = x) : zL x c = zL a (zL b c) ∧ zL b c ∈ S :=
 ⟨by rw [← e, (gB n).assoc a b c ha (hS.dp b hb) (hS.dp c hc)], hS.cl b hb c hc⟩
theorem ord_lt (hG : GrOk G n) {i j : Nat} {a b : Sym} (hi : G[i]? = some a) (hj : G[j]? = some b) (h : i < j) : befS a b = true := by
 obtain ⟨hi1, rfl⟩ := List.getElem?_eq_some_iff.1 hi
 obtain ⟨hj1, rfl⟩ := List.getElem?_eq_some_iff.1 hj
 exact List.pairwise_iff_getElem.1 (mR hG.ord) i j hi1 hj1 h
theorem ord_idx (hG : GrOk G n) {i j : Nat} {a b : Sym} (hi : G[i]? = some a) (hj : G[j]? = some b) (h : befS a b = true) : i < j := by
 rcases Nat.lt_trichotomy i j with q | rfl | q
 ·exact q
 ·rw [hi] at hj; cases hj; rw [qP] at h; cases h
 ·have := ord_lt hG hj hi q
  rw [befS_asymm this] at h; cases h
theorem coset_first (hG : GrOk G n) (hS : GrOk S n) (hs : ∀ a ∈ S, a ∈ G) {i : Nat} {a : Sym} (hi : G[i]? = some a) : ∃ (j : Nat) (m : Sym), j ≤ i ∧ G[j]? = some m ∧ j3 S m = true ∧ (∃ b ∈ S, zL a b = m) ∧ ∀ k x, G[k]? = some x → (∃ b ∈ S, zL a b = x) → j ≤ k := by
  have haG := List.mem_of_getElem? hi
  have hda := hG.dp a haG
  have hex : ∃ (k : Nat) (x : Sym), G[k]? = some x ∧ ∃ b ∈ S, zL a b = x := ⟨i, a, hi, idS n, hS.one, (gB n).er a hda⟩
  have key : ∀ N : Nat, (∃ (k : Nat) (x : Sym), k ≤ N ∧ G[k]? = some x ∧ ∃ b ∈ S, zL a b = x) → ∃ (j : Nat) (m : Sym), G[j]? = some m ∧ (∃ b ∈ S, zL a b = m) ∧ ∀ (k : Nat) (x : Sym), G[k]? = some x → (∃ b ∈ S, zL a b = x) → j ≤ k := by
    intro N
    induction N with
    | zero => rintro ⟨k, x, hk, hx, hb⟩; obtain rfl : k = 0 := by omega
              exact ⟨0, x, hx, hb, fun _ _ _ _ => Nat.zero_le _⟩
    | succ N ih =>
      rintro ⟨k, x, hk, hx, hb⟩
      by_cases c : ∃ (k : Nat) (x : Sym), k ≤ N ∧ G[k]? = some x ∧ ∃ b ∈ S, zL a b = x
      · exact ih c
      · have hkN : k = N + 1 := by
          rcases Nat.lt_or_ge k (N + 1) with q | q
          · exact absurd ⟨k, x, by omega, hx, hb⟩ c
          · omega
        subst hkN
        refine ⟨_, x, hx, hb, fun k' x' hk' hb' => ?_⟩
        rcases Nat.lt_or_ge k' (N + 1) with q | q
        · exact absurd ⟨k', x', by omega, hk', hb'⟩ c
        · exact q
  obtain ⟨k0, x0, h1, h2⟩ := hex
  obtain ⟨j, m, hj, hm, hmin⟩ := key k0 ⟨k0, x0, Nat.le_refl _, h1, h2⟩
  refine ⟨j, m, hmin i a hi ⟨idS n, hS.one, (gB n).er a hda⟩, hj, List.all_eq_true.2 fun b hb => ?_, hm, hmin⟩
  obtain ⟨c, hc, e⟩ := hm
  obtain ⟨e2, hcb⟩ := coset_step hS hda hc hb e
  have hin : zL m b ∈ G := hG.cl m (List.mem_of_getElem? hj) b (hs b hb)
  obtain ⟨k, hk⟩ := List.getElem?_of_mem hin
  have hle := hmin k _ hk ⟨_, hcb, e2.symm⟩
  cases q : befS (zL m b) m with
  | false => rfl
  | true => have := ord_idx hG hk hj q; omega
theorem coset_seen (hG : GrOk G n) (hS : GrOk S n) (hs : ∀ a ∈ S, a ∈ G) {i : Nat} {a : Sym} (hi : G[i]? = some a) : a ∈ cosU ((G.take i).filter (j3 S)) S ↔ j3 S a = false := by
 rw [mem_cosU]
 have hda := hG.dp a (List.mem_of_getElem? hi)
 constructor
 ·rintro ⟨m, hm, b, hb, e⟩
  obtain ⟨hm1, hm2⟩ := List.mem_filter.1 hm
  obtain ⟨j, hj⟩ := List.getElem?_of_mem hm1
  have hjl := (List.getElem?_eq_some_iff.1 hj).1
  rw [List.length_take] at hjl
  rw [List.getElem?_take_of_lt (by omega)] at hj
  have hlt := ord_lt hG hj hi (by omega)
  obtain ⟨c, hc, e2⟩ := coset_back hS (hG.dp m (List.mem_of_getElem? hj)) hb e
  cases q : j3 S a with
  | false => rfl
  | true =>
   have := List.all_eq_true.1 q c hc
   rw [e2, hlt] at this; cases this
 ·intro hl
  obtain ⟨j, m, hj1, hj, hm, ⟨b, hb, e⟩, _⟩ := coset_first hG hS hs hi
  have hne : j ≠ i := by
   rintro rfl
   rw [hi] at hj; cases hj
   rw [hm] at hl; cases hl
  refine ⟨m, List.mem_filter.2 ⟨?_, hm⟩, coset_back hS hda hb e⟩
  exact List.mem_of_getElem? (i := j) (by rw [List.getElem?_take_of_lt (by omega)]; exact hj)
theorem coset_new (hG : GrOk G n) (hS : GrOk S n) {C : List Sym} (hC : ∀ m ∈ C, m ∈ G) {a b : Sym} (ha : a ∈ G) (hb : b ∈ S) (hn : a ∉ cosU C S) : zL a b ∉ cosU C S := by
 intro h
 obtain ⟨m, hm, c, hc, e⟩ := mem_cosU.1 h
 obtain ⟨d, hd, q⟩ := hS.inv2 hb
 have hdm := hG.dp m (hC m hm)
 refine hn (mem_cosU.2 ⟨m, hm, zL c d, hS.cl c hc d hd, ?_⟩)
 rw [← (gB n).assoc m c d hdm (hS.dp c hc) (hS.dp d hd), e]
 exact q a (hG.dp a ha)
theorem coset_inj (hS : GrOk S n) {a b c : Sym} (ha : DP n a) (hb : b ∈ S) (hc : c ∈ S) (e : zL a b = zL a c) : b = c := (gB n).cl a b c ha (hS.dp b hb) (hS.dp c hc) e
end
end Go.Ev
namespace Go.Ev
open Go Go.Proofs
variable {B : Nat}
set_option maxRecDepth 100000
end Go.Ev
namespace Go.Ev
open Go Go.Proofs
variable {B : Nat}
set_option maxRecDepth 100000
theorem clone106o {h0 h : T Blk} {nx p : Pa} {L : List Ob} {f : List Int} {K : Kw Prop} (hf : 0 < f.length) (hl : f.length ≤ 1000) (H : Hp h0 h nx L)
  (hK : ∀ id cap h' nx', d8 f.length cap → Hp h0 h' nx' (.arr id (f.map I) :: L) → K (.sl id 0 f.length cap 1) h' nx' = .ok True) : (CS Tryz.prog B).fn 106 p [encI f] h nx K = .ok True := by
 refine jL (p := .of 106) (K := K) (zR zW dreg 9 fun hf => ?_) fun _ _ _ _ q => q
 cases f with
 | nil => simp at hf
 | cons x t =>
  rw [F106.go]
  have e : ∀ A C : OP, (sBin .eql (.nil .sl) (encI (x :: t)) .nils fun v1 => zY v1 A C) = C := fun A C => nr rfl
  rw [e]
  exact H.copyArrO (new := (x :: t).map I) (c := (x :: t).length) (fun e h1 n1 H1 => rdLst 1) (by simp) (List.all_eq_true.2 fun v hv => by obtain ⟨z, _, rfl⟩ := List.mem_map.1 hv; rfl) (by decide) (by omega) hK
def RowOwn (L : List Ob) (p : AV × Sym) : Prop := ∃ rid cap, p.1 = .sl rid 0 p.2.1.length cap 1 ∧ d8 p.2.1.length cap ∧ Ob.arr rid (p.2.1.map I) ∈ L
theorem RowOwn.mono {L L' : List Ob} {p : AV × Sym} (h : RowOwn L p) (hl : ∀ x ∈ L, x ∈ L') : RowOwn L' p := by
 obtain ⟨r, c, e, hc, m⟩ := h
 exact ⟨r, c, e, hc, hl _ m⟩
theorem frzArrN {h0 h : T Blk} {nx : Pa} {L : List Ob} {id : Pa} {l : List Int} {cap : Option Nat} (H : Hp h0 h nx L) (hm : Ob.arr id (l.map I) ∈ L) (hc : d8 l.length cap) : Frz False (fun _ => True) (fun _ => False) h (.sl id 0 l.length cap 1) (encI l) := by
 obtain ⟨op, t, h1, h2⟩ := H.own _ hm
 rw [List.length_map] at h1 h2
 refine .sl _ _ _ _ _ op _ t _ trivial hc h1 (by omega) (by simp) (List.all_eq_true.2 fun v hv => by obtain ⟨z, _, rfl⟩ := List.mem_map.1 hv; rfl) fun i v hi => ?_
 have hil : i < l.length := by have := (List.getElem?_eq_some_iff.1 hi).1; simpa using this
 have := yA t 0 l.length i hil
 rw [h2, hi] at this
 rw [← Option.some.inj this]
 obtain ⟨z, _, rfl⟩ := List.mem_map.1 (List.mem_of_getElem? hi)
 exact .int _ _
theorem frzOwn {h0 h : T Blk} {nx : Pa} {L : List Ob} {k n : Nat} {o : Option Pa} {out : List (AV × Sym)} (H : Hp h0 h nx L) (hk : L[k]? = some (.gro o 2 n (jF out))) (hr : ∀ p ∈ out, RowOwn L p) : Frz False (fun _ => True) (fun _ => False) h (rowV o 2 n) (encG (out.map (·.2))) := by
 have own := H.own _ (List.mem_of_getElem? hk)
 have hlen := qB out
 cases o with
 | none =>
  obtain ⟨e, rfl⟩ := own
  rw [e] at hlen
  obtain rfl : out = [] := List.eq_nil_of_length_eq_zero (by simp at hlen; omega)
  exact .lnils 2
 | some id =>
  obtain ⟨t, h1, h2, h3⟩ := own
  have hn : n = (out.map (·.2)).length := by rw [List.length_map]; omega
  subst hn
  refine .sl _ _ _ _ _ true _ t _ trivial trivial h1 (by omega) (uW _) (List.all_eq_true.2 fun v hv => fixd.scal (fixd_flatG v hv)) fun i v hi => ?_
  have hil : i < (out.map (·.2)).length * 2 := by have := (List.getElem?_eq_some_iff.1 hi).1; rwa [uW] at this
  have := yA t 0 ((out.map (·.2)).length * 2) i hil
  rw [h3, wH] at this
  rw [p7, List.getElem?_map] at hi
  cases hq : out[i / 2]? with
  | none => rw [hq] at hi; cases hi
  | some p =>
   rw [hq] at hi this
   obtain ⟨rid, cap, e, hc, hm⟩ := hr p (List.mem_of_getElem? hq)
   have hi := Option.some.inj hi
   have this := Option.some.inj this
   by_cases c : i % 2 = 0
   ·simp only [if_pos c] at hi this
    rw [← this, ← hi, e]
    exact frzArrN H hm hc
   ·simp only [if_neg c] at hi this
    rw [← this, ← hi]
    exact .bool _
theorem frz_tup2N {N : Pa → Prop} {O : AV → Prop} {A : Prop} {hh : T Blk} {a b a' b' : AV} (h1 : Frz A N O hh a a') (h2 : Frz A N O hh b b') : Frz A N O hh (.tup [a, b]) (.tup [a', b']) := by
 refine .tup _ _ rfl fun i v v' hi hi' => ?_
 match i with
 | 0 => simp at hi hi'; subst hi; subst hi'; exact h1
 | 1 => simp at hi hi'; subst hi; subst hi'; exact h2
 | i + 2 => simp at hi
theorem cosets39N {G S : List Sym} {n : Int} (hG : G.length ≤ 100000) (hw : ∀ g ∈ G, g.1.length ≤ 100000) (hS : S.length ≤ 100000) (hw2 : ∀ g ∈ S, g.1.length ≤ 100000) (hse0 : subE G S n = 0) (hn0 : 0 < n) : PureN Tryz.prog 39 [encG G, encG S, I n] (.tup [encG (cosL G S), I 0]) := by
 intro B K hK0
 have hK : ∀ v h' nx' L v', Hp .e h' nx' L → Frz False (fun _ => True) (fun _ => False) h' v v' → v' = .tup [encG (cosL G S), I 0] → K v h' nx' = .ok True := fun v h' nx' L v' _ hF e => hK0 _ _ _ (e ▸ hF)
 refine zR zW dreg 10000000 fun hf' => ?_
 have H0 : Hp .e .e .z [] := Hp.init hf'
 rw [F39.go, F39.t37, zA, F39.t0_s]
 refine H0.box (l := [encG S]) rfl fun b3 h1 nx1 H1 => ?_
 rw [F39.t36, zA, F39.t7, zA, F39.t1_s, H1.load (k := 0) (i := 0) rfl rfl]
 refine mC hG hw hS hw2 H1 (fun e h2 nx2 X he hne H2 => ?_) fun n' u1 q1 u2 q2 g o1 o2 h2 nx2 X hn ok1 ok2 hse _ _ _ _ _ _ _ _ hsub H2 => ?_
 ·rw [yP, yU, yZ]
  refine H2.alloc fun b6 h3 nx3 H3 => ?_
  refine H3.storeN (k := 0) (n := 2) rfl rfl rfl fun h4 H4 => ?_
  rw [hse0] at he; exact absurd he hne
 subst hn
 have hn256 := ok1.n256
 have H2 : Hp .e h2 nx2 [.arr b3 [encG S]] := Hp.pre (_ :: _ :: _ :: X) H2
 rw [yP, yU, yZ]
 refine H2.alloc fun b6 h3 nx3 H3 => ?_
 refine H3.storeN (k := 0) (n := 2) rfl rfl rfl fun h4 H4 => ?_
 rw [F39.t6, zA, F39.t2_s, sNeq, decide_eq_true rfl, Bool.not_true, F39.t5, zM, F39.v12, zD, yG, F39.t35, zA, F39.t8_s]
 refine H4.mkmap fun gm h5 nx5 H5 => ?_
 refine H5.alloc fun b7 h6 nx6 H6 => ?_
 refine H6.store (k := 0) rfl (by simp) rfl fun h7 H7 => ?_
 rw [F39.t34, zA, F39.t9_s]
 refine H7.alloc fun b8 h8 nx8 H8 => ?_
 rw [F39.t33, zA, F39.t30, zA, F39.t10_s]
 refine all185 _ _ _ _ ?_
 rintro _ rfl _
 rw [F39.t29, yD, F39.t28]
 have H9 := H8.addGro 2
 have T : ∃ T : List Ob, T = [.arr b6 [rowV o1 2 u1.length, rowV o2 2 u2.length], .arr b3 [encG S]] := ⟨_, rfl⟩
 obtain ⟨T, hT⟩ := T
 have hout : ∀ i, ((G.take i).filter (j3 S)).length ≤ G.length := fun i => by
  have := List.length_filter_le (j3 S) (G.take i)
  rw [List.length_take] at this; omega
 refine rfAll H9 F39.t28_f (fun v w k => F39.t28_b k) (by omega)
  (fun i L' => ∃ (o : Option Pa) (out : List (AV × Sym)) (rows : List Ob), out.map (·.2) = (G.take i).filter (j3 S) ∧ (∀ p ∈ out, RowOwn rows p) ∧ L' = .gro o 2 out.length (jF out) :: .arr b8 [rowV o 2 out.length] :: .arr b7 [.map gm] :: .map gm (entS (cosU ((G.take i).filter (j3 S)) S)) :: (T ++ rows))
  (fun _ => False) (fun _ _ => False) ⟨none, [], [], by simp, by simp, by subst hT; rfl⟩
  (fun i x Rb Rb' h10 nx10 L' M E O1 O2 hx hJ H10 hM hE hR hX => ?_) (fun h10 nx10 L' hJ H10 => ?_) (fun _ _ _ hX _ => hX.elim) (fun _ _ _ _ hX _ => hX.elim)
 case refine_2 =>
  obtain ⟨o, out, rows, ho, hr, rfl⟩ := hJ
  rw [List.take_of_length_le (Nat.le_refl _)] at H10 ho
  rw [F39.t32, zA, F39.t31_s, H10.load (k := 1) (i := 0) rfl rfl]
  simp only [yL, jN]
  rw [F39.ret]
  refine hK _ _ _ _ (.tup [encG (cosL G S), I 0]) H10 (frz_tup2N ?_ (.int _ _)) rfl
  have := frzOwn (k := 0) H10 rfl fun p hp => (hr p hp).mono fun x hx => by simp [hx]
  rw [ho] at this
  exact this
 obtain ⟨o, out, rows, ho, hr, rfl⟩ := hJ
 have hol : out.length = ((G.take i).filter (j3 S)).length := by rw [← ho, List.length_map]
 have hxm := List.mem_of_getElem? hx
 have hdx := ok1.dp x hxm
 have htake : G.take (i + 1) = G.take i ++ [x] := by rw [List.take_add_one, hx]; rfl
 have hCm : ∀ m ∈ (G.take i).filter (j3 S), m ∈ G := fun m hm => List.mem_of_mem_take (List.mem_filter.1 hm).1
 have hks : ∀ b ∈ cosU ((G.take i).filter (j3 S)) S, DS n' b := fun b hb => by
  obtain ⟨m, hm, c, hc, rfl⟩ := mem_cosU.1 hb
  exact (ok1.dp _ (ok1.cl m (hCm m hm) c (hsub c hc))).1
 rw [F39.t11_s]
 refine H10.alloc fun b9 h11 nx11 H11 => ?_
 refine H11.storeN (k := 0) (n := 2) rfl rfl rfl fun h12 H12 => ?_
 refine hM _ _ _ [_] H12 fun h13 H13 => ?_
 rw [F39.t27, yD, F39.t26, zA, F39.t14, zA, F39.t12_s, H13.load (k := 4) (i := 0) rfl rfl, H13.loadN (k := 0) (n := 2) rfl rfl]
 refine has204 (a := x) hn256 hdx.1 hks H13 (k := 5) rfl ?_
 rw [F39.t13, zM, F39.v16]
 have hseen := coset_seen ok1 ok2 hsub hx
 by_cases c : x ∈ cosU ((G.take i).filter (j3 S)) S
 ·rw [decide_eq_true c, zC, jY, uJ]
  have hfl : (G.take (i + 1)).filter (j3 S) = (G.take i).filter (j3 S) := by
   rw [htake, List.filter_append, List.filter_cons_of_neg (by rw [hseen.1 c]; decide)]; simp
  exact hE _ _ _ [_] _ ⟨o, out, rows, by rw [hfl]; exact ho, hr, by rw [hfl]⟩ H13
 have hlx : j3 S x = true := by
  cases q : j3 S x with
  | true => rfl
  | false => exact absurd (hseen.2 q) c
 have hfl : (G.take (i + 1)).filter (j3 S) = (G.take i).filter (j3 S) ++ [x] := by
  rw [htake, List.filter_append, List.filter_cons_of_pos hlx]; rfl
 rw [decide_eq_false c, zD, yG, F39.t25, zA, F39.t23, zA, F39.t15_s]
 subst hT
 rw [H13.load (k := 7) (i := 0) rfl rfl]
 refine all185 _ _ _ _ ?_
 rintro _ rfl _
 rw [F39.t22, yD, F39.t21]
 refine rfAll H13 F39.t21_f (fun v w k => F39.t21_b k) (by omega)
  (fun k L' => L' = .arr b9 [encI x.1, .bool x.2] :: Rb' :: .gro o 2 out.length (jF out) :: .arr b8 [rowV o 2 out.length] :: .arr b7 [.map gm] :: .map gm (entS (cosU ((G.take i).filter (j3 S)) S ++ (S.take k).map (zL x))) :: ([.arr b6 [rowV o1 2 u1.length, rowV o2 2 u2.length], .arr b3 [encG S]] ++ rows))
  (fun _ => False) (fun _ _ => False) (by simp)
  (fun k y Sb Sb' h14 nx14 L' M' E' O1' O2' hy hJ H14 hM' hE' hR' hX' => ?_) (fun h14 nx14 L' hJ H14 => ?_) (fun _ _ _ hX _ => hX.elim) (fun _ _ _ _ hX _ => hX.elim)
 ·subst hJ
  have hym := List.mem_of_getElem? hy
  have hdy := ok2.dp y hym
  have htk : S.take (k + 1) = S.take k ++ [y] := by rw [List.take_add_one, hy]; rfl
  have hxy : DS n' (zL x y) := (ok1.dp _ (ok1.cl x hxm y (hsub y hym))).1
  rw [F39.t16_s]
  refine H14.alloc fun b10 h15 nx15 H15 => ?_
  refine H15.storeN (k := 0) (n := 2) rfl rfl rfl fun h16 H16 => ?_
  refine hM' _ _ _ [_] H16 fun h17 H17 => ?_
  rw [F39.t20, yD, F39.t19, zA, F39.t17_s, H17.loadN (k := 2) (n := 2) rfl rfl, H17.loadN (k := 0) (n := 2) rfl rfl]
  refine pF (a := x) (b := y) (fun z hz => by rw [hdx.1.1]; exact hdy.1.2 z hz) (by rw [hdy.1.1]; omega) _ _ _ _ ?_
  rintro _ rfl _
  refine H17.alloc fun b11 h18 nx18 H18 => ?_
  refine H18.storeN (k := 0) (n := 2) rfl rfl rfl fun h19 H19 => ?_
  rw [F39.t18_s, H19.load (k := 7) (i := 0) rfl rfl, H19.loadN (k := 0) (n := 2) rfl rfl, H19.loadN (k := 0) (n := 2) rfl rfl]
  refine vW (a := zL x y) (fun z hz => by have := hxy.2 z hz; omega) (by rw [hxy.1]; omega) _ _ _ _ ?_
  rintro _ rfl _
  rw [H19.loadN (k := 0) (n := 2) rfl rfl, zB, H19.load (k := 7) (i := 0) rfl rfl, zB]
  refine H19.putS (a := zL x y) hn256 hxy (fun b hb => ?_) (fun hin => ?_) (k := 8) rfl fun h20 H20 => ?_
  ·rcases List.mem_append.1 hb with q | q
   ·exact hks b q
   ·obtain ⟨z, hz, rfl⟩ := List.mem_map.1 q
    exact (ok1.dp _ (ok1.cl x hxm z (hsub z (List.mem_of_mem_take hz)))).1
  ·rcases List.mem_append.1 hin with q | q
   ·exact coset_new ok1 ok2 hCm hxm hym c q
   ·obtain ⟨z, hz, e⟩ := List.mem_map.1 q
    have := coset_inj ok2 hdx (List.mem_of_mem_take hz) hym e
    subst this
    obtain ⟨j, hj⟩ := List.getElem?_of_mem hz
    have hjl := (List.getElem?_eq_some_iff.1 hj).1
    rw [List.length_take] at hjl
    rw [List.getElem?_take_of_lt (by omega)] at hj
    have := ord_lt ok2 hj hy (by omega)
    rw [qP] at this; cases this
  ·refine hE' _ _ _ [_, _] _ ?_ H20
   rw [htk, List.map_append, ← List.append_assoc]
   rfl
 ·subst hJ
  rw [List.take_of_length_le (Nat.le_refl _)] at H14
  rw [F39.t24_s, H14.load (k := 3) (i := 0) rfl rfl, sFx, H14.load (k := 0) (i := 0 + 0) rfl rfl, sFx, H14.load (k := 0) (i := 0 + 1) rfl rfl]
  refine clone106o (f := x.1) (by rw [hdx.1.1]; omega) (by rw [hdx.1.1]; omega) H14 fun rid cap h15 nx15 hcap H15 => ?_
  rw [H15.load (k := 1) (i := 0 + 1) rfl rfl, zB, sFx, zB, H15.load (k := 4) (i := 0) rfl rfl, zB, dH rfl rfl]
  refine H15.bslice (l := [.sl rid 0 x.1.length cap 1, .bool x.2]) rfl fun tb h16 nx16 H16 => ?_
  rw [H16.load (k := 5) (i := 0) rfl rfl, zB, sAppq_row]
  refine H16.appN (k := 4) (o := o) (c := 1) (esz := 2) (new := [.sl rid 0 x.1.length cap 1, .bool x.2]) rfl (HasArr.rd (l := [.sl rid 0 x.1.length cap 1, .bool x.2]) (n := 1) (e := 2) (H16.own _ (List.mem_cons_self ..)) rfl) rfl rfl (by decide) (by decide) (by have := hout i; omega) fun o'' h17 nx17 _ H17 => ?_
  refine H17.store (k := 5) rfl (by simp) (kD _ _ _) fun h18 H18 => ?_
  have hp : Hp .e h18 nx17 ([.arr tb [.sl rid 0 x.1.length cap 1, .bool x.2], .arr b9 [encI x.1, .bool x.2]] ++ Rb' :: (.gro o'' 2 (out.length + 1) (jF out ++ [.sl rid 0 x.1.length cap 1, .bool x.2]) :: .arr b8 [rowV o'' 2 (out.length + 1)] :: .arr b7 [.map gm] :: .map gm (entS (cosU ((G.take i).filter (j3 S)) S ++ S.map (zL x))) :: ([.arr b6 [rowV o1 2 u1.length, rowV o2 2 u2.length], .arr b3 [encG S]] ++ (.arr rid (x.1.map I) :: rows)))) := by
   refine H18.perm ?_
   show List.Perm (_ :: _ :: _ :: _ :: _ :: _ :: _ :: _ :: _ :: _ :: rows) (_ :: _ :: _ :: _ :: _ :: _ :: _ :: _ :: _ :: _ :: rows)
   exact .cons _ (List.perm_middle (l₁ := [_, _, _, _, _, _, _, _]) (a := Ob.arr rid (x.1.map I)) (l₂ := rows)).symm
  refine hE _ _ _ [_, _] _ ⟨o'', out ++ [(.sl rid 0 x.1.length cap 1, x)], .arr rid (x.1.map I) :: rows, ?_, ?_, ?_⟩ hp
  ·rw [List.map_append, ho, hfl]; rfl
  ·intro p hp
   rcases List.mem_append.1 hp with q | q
   ·exact (hr p q).mono fun z hz => List.mem_cons_of_mem _ hz
   ·obtain rfl := List.mem_singleton.1 q
    exact ⟨rid, cap, rfl, hcap, List.mem_cons_self ..⟩
  ·rw [hfl]
   have e1 : cosU ((G.take i).filter (j3 S) ++ [x]) S = cosU ((G.take i).filter (j3 S)) S ++ S.map (zL x) := by simp [cosU]
   have e2 : jF (out ++ [(.sl rid 0 x.1.length cap 1, x)]) = jF out ++ [.sl rid 0 x.1.length cap 1, .bool x.2] := by unfold jF; rw [List.flatMap_append]; rfl
   rw [e1, e2, List.length_append]
   subst_vars
   rfl
end Go.Ev
namespace Go.Ev
theorem sub_permG {α : Type} [DecidableEq α] : ∀ (l r : List α), l.Nodup → (∀ x ∈ l, x ∈ r) → ∃ s, r.Perm (l ++ s)
 | [], r, _, _ => ⟨r, .refl _⟩
 | a :: l, r, hn, hs => by
  obtain ⟨h1, h2⟩ := List.nodup_cons.1 hn
  have ha := hs a (by simp)
  obtain ⟨s, hp⟩ := sub_permG l (r.erase a) h2 fun x hx => (List.mem_erase_of_ne (by rintro rfl; exact h1 hx)).2 (hs x (by simp [hx]))
  exact ⟨s, (List.perm_cons_erase ha).trans (.cons a hp)⟩
theorem perm_of_sub {α : Type} [DecidableEq α] {l r : List α} (h1 : l.Nodup) (h2 : ∀ x ∈ l, x ∈ r) (h3 : r.length ≤ l.length) : r.Perm l := by
 obtain ⟨s, hs⟩ := sub_permG l r h1 h2
 have hl := hs.length_eq
 obtain rfl : s = [] := List.eq_nil_of_length_eq_zero (by rw [List.length_append] at hl; omega)
 simpa using hs
theorem nodup_get {α : Type} {l : List α} (h : l.Nodup) {i j : Nat} {x : α} (hi : l[i]? = some x) (hj : l[j]? = some x) : i = j := by
 obtain ⟨a1, a2⟩ := List.getElem?_eq_some_iff.1 hi
 obtain ⟨b1, b2⟩ := List.getElem?_eq_some_iff.1 hj
 have hp := List.pairwise_iff_getElem.1 h
 rcases Nat.lt_trichotomy i j with c | c | c
 ·exact absurd (a2.trans b2.symm) (hp i j a1 b1 c)
 ·exact c
 ·exact absurd (b2.trans a2.symm) (hp j i b1 a1 c)
theorem getD_some {l : List Int} {i : Nat} (h : i < l.length) : l[i]? = some (l.getD i 0) := by
 rw [List.getD_eq_getElem?_getD, List.getElem?_eq_getElem h]; rfl
theorem PermL.surj {g : List Int} (h : PermL g) {j : Nat} (hj : j < g.length) : ∃ i, i < g.length ∧ g[i]? = some (j : Int) := by
 have hp : ((List.range g.length).map fun (i : Nat) => (i : Int)).Perm g := perm_of_sub h.1 (fun x hx => by
  have := h.2 x hx
  exact List.mem_map.2 ⟨x.toNat, List.mem_range.2 (by omega), by omega⟩) (by simp)
 have hm : (j : Int) ∈ g := hp.mem_iff.1 (List.mem_map.2 ⟨j, List.mem_range.2 hj, rfl⟩)
 obtain ⟨i, hi⟩ := List.mem_iff_getElem?.1 hm
 exact ⟨i, (List.getElem?_eq_some_iff.1 hi).1, hi⟩
theorem applyP_get {n : Nat} {c : Bool} {g f : List Int} (hg : PermL g) (hgn : g.length = n) : ∀ (i k : Nat), i ≤ n → k < i → (kQ n c g f i)[(g.getD k 0).toNat]? = some (xOf n c (f.getD k 0))
 | 0, k, _, h => by omega
 | i + 1, k, hi, h => by
  rw [xP]
  have hk := hg.2 _ (List.mem_of_getElem? (getD_some (l := g) (i := k) (by omega)))
  have hi' := hg.2 _ (List.mem_of_getElem? (getD_some (l := g) (i := i) (by omega)))
  by_cases e : k = i
  ·subst e
   rw [List.getElem?_set, if_pos rfl, if_pos (by rw [uP]; omega)]
  ·rw [List.getElem?_set_ne, applyP_get hg hgn i k (by omega) (by omega)]
   intro q
   have e1 : g.getD i 0 = g.getD k 0 := by omega
   have := nodup_get hg.1 (getD_some (l := g) (i := i) (by omega)) (e1 ▸ getD_some (l := g) (i := k) (by omega))
   omega
theorem applyS_get {c : Bool} {g f : List Int} (hg : PermL g) (hgn : g.length = f.length) {k : Nat} (h : k < f.length) : (applyS c g f)[(g.getD k 0).toNat]? = some (xOf f.length c (f.getD k 0)) := applyP_get hg hgn _ k (Nat.le_refl _) h
end Go.Ev
namespace Go.Ev
theorem apply_len (c : Bool) (g f : List Int) : (applyS c g f).length = f.length := uP _ _ _ _ _
theorem DP.surj {n : Nat} {a : Sym} (ha : DP n a) {j : Nat} (hj : j < n) : ∃ i, i < n ∧ a.1.getD i 0 = (j : Int) := by
 have h1 := ha.1.1
 obtain ⟨i, hi, e⟩ := ha.perm.surj (show j < a.1.length by omega)
 exact ⟨i, by omega, by rw [List.getD_eq_getElem?_getD, e]; rfl⟩
def idL (n : Nat) : List Int := (List.range n).map fun j : Nat => (j : Int)
theorem mS (n : Nat) : (idL n).length = n := by simp [idL]
theorem idL_get {n i : Nat} (h : i < n) : (idL n).getD i 0 = (i : Int) := by
 rw [idL, List.getD_eq_getElem?_getD, List.getElem?_map, List.getElem?_range h]; rfl
def invS (a : Sym) : Sym := (applyS false a.1 (idL a.1.length), a.2)
theorem inv_get {n : Nat} {a : Sym} (ha : DP n a) {k : Nat} (hk : k < n) : (invS a).1[(a.1.getD k 0).toNat]? = some (k : Int) := by
 have h1 := ha.1.1
 have := applyS_get (c := false) ha.perm (f := idL a.1.length) (by rw [mS]) (k := k) (by rw [mS]; omega)
 rw [idL_get (by omega)] at this
 exact this
theorem xI {n : Nat} {a : Sym} (ha : DP n a) : DP n (invS a) := by
 have h1 := ha.1.1
 have hl : (invS a).1.length = n := by show (applyS _ _ _).length = n; rw [apply_len, mS, h1]
 have hv : ∀ j, j < n → ∃ i, i < n ∧ a.1.getD i 0 = (j : Int) ∧ (invS a).1[j]? = some (i : Int) := fun j hj => by
  obtain ⟨i, hi, e⟩ := ha.surj hj
  have := inv_get ha hi
  rw [e, Int.toNat_natCast] at this
  exact ⟨i, hi, e, this⟩
 refine ⟨⟨hl, fun x hx => ?_⟩, ?_⟩
 ·obtain ⟨j, hj⟩ := List.getElem?_of_mem hx
  obtain ⟨i, hi, _, e⟩ := hv j (by rw [← hl]; exact (List.getElem?_eq_some_iff.1 hj).1)
  rw [hj] at e; cases e; omega
 ·rw [List.Nodup, List.pairwise_iff_getElem]
  intro i j hi hj hij e
  obtain ⟨a1, _, b1, c1⟩ := hv i (by omega)
  obtain ⟨a2, _, b2, c2⟩ := hv j (by omega)
  rw [List.getElem?_eq_getElem hi] at c1
  rw [List.getElem?_eq_getElem hj] at c2
  have e1 := Option.some.inj c1
  have e2 := Option.some.inj c2
  have : a1 = a2 := by omega
  subst this
  rw [b1] at b2
  omega
theorem inv_l {n : Nat} {a : Sym} (ha : DP n a) : zL (invS a) a = idS n := by
 refine Prod.ext (vC (n := n) (by show (xA _ _).length = n; rw [uI, ha.1.1]) (by simp [idS]) fun i hi => ?_) (by show (a.2 != a.2) = false; cases a.2 <;> rfl)
 rw [uY ha.1 hi, List.getD_eq_getElem?_getD (l := (invS a).1), inv_get ha hi]
 show some (i : Int) = ((List.range n).map fun j : Nat => (j : Int))[i]?
 rw [List.getElem?_map, List.getElem?_range hi]; rfl
theorem inv_r {n : Nat} {a : Sym} (ha : DP n a) : zL a (invS a) = idS n := by
 have L := gB n
 have hb := xI ha
 have hc := xI hb
 have e1 := inv_l ha
 have e2 := inv_l hb
 have : a = invS (invS a) := by
  have q := L.assoc (invS (invS a)) (invS a) a hc hb ha
  rw [e2, e1, L.el a ha, L.er _ hc] at q
  exact q
 rw [show zL a (invS a) = zL (invS (invS a)) (invS a) by rw [← this]]
 exact e2
theorem inv_uniq {n : Nat} {a b : Sym} (ha : DP n a) (hb : DP n b) (h : zL a b = idS n) : b = invS a := by
 have L := gB n
 have hi := xI ha
 have q := L.assoc (invS a) a b hi ha hb
 rw [inv_l ha, h, L.el b hb, L.er _ hi] at q
 exact q
def conj (a b : Sym) : Sym := zL (zL a b) (invS a)
theorem conj_mul {n : Nat} {a b c : Sym} (ha : DP n a) (hb : DP n b) (hc : DP n c) : conj a (zL b c) = zL (conj a b) (conj a c) := by
 have L := gB n
 have hi := xI ha
 have hab := L.dm a b ha hb
 have hac := L.dm a c ha hc
 have hci := L.dm _ _ hac hi
 unfold conj
 rw [L.assoc (zL a b) (invS a) (zL (zL a c) (invS a)) hab hi hci, ← L.assoc (invS a) (zL a c) (invS a) hi hac hi, ← L.assoc (invS a) a c hi ha hc, inv_l ha, L.el c hc, ← L.assoc (zL a b) c (invS a) hab hc hi, L.assoc a b c ha hb hc]
theorem conj_comp {n : Nat} {a b c : Sym} (ha : DP n a) (hb : DP n b) (hc : DP n c) : conj (zL a b) c = conj a (conj b c) := by
 have L := gB n
 have hia := xI ha
 have hib := xI hb
 have hab := L.dm a b ha hb
 have e : invS (zL a b) = zL (invS b) (invS a) := by
  refine (inv_uniq hab (L.dm _ _ hib hia) ?_).symm
  rw [L.assoc a b _ ha hb (L.dm _ _ hib hia), ← L.assoc b (invS b) (invS a) hb hib hia, inv_r hb, L.el _ hia, inv_r ha]
 have hbc := L.dm b c hb hc
 unfold conj
 rw [e, L.assoc a b c ha hb hc, ← L.assoc (zL a (zL b c)) (invS b) (invS a) (L.dm _ _ ha hbc) hib hia, L.assoc a (zL b c) (invS b) ha hbc hib]
theorem conj_dp {n : Nat} {a b : Sym} (ha : DP n a) (hb : DP n b) : DP n (conj a b) := (gB n).dm _ _ ((gB n).dm _ _ ha hb) (xI ha)
def normB (G S : List Sym) : Bool := G.all fun a => S.all fun b => decide (conj a b ∈ S)
theorem normB_gen {G S u1 q1 u2 q2 : List Sym} {n : Nat} (hG : GrOk G n) (hS : GrOk S n) (hu1 : ∀ c ∈ u1, c ∈ G) (h1 : CloS n u1 q1) (hq1 : ∀ a, a ∈ q1 ↔ a ∈ G) (hu2 : ∀ c ∈ u2, c ∈ S) (h2 : CloS n u2 q2) (hq2 : ∀ a, a ∈ q2 ↔ a ∈ S) :
  (u1.all fun a => u2.all fun b => decide (conj a b ∈ S)) = normB G S := by
 rw [Bool.eq_iff_iff]
 simp only [normB, List.all_eq_true, decide_eq_true_eq]
 have L := gB n
 constructor
 ·intro h
  have k1 : ∀ a ∈ u1, ∀ b ∈ S, conj a b ∈ S := fun a ha b hb => by
   have da := hG.dp a (hu1 a ha)
   have := h2.ind (fun b => DP n b ∧ conj a b ∈ S) ⟨L.de, by unfold conj; rw [L.er a da, inv_r da]; exact hS.one⟩ (fun x hx c hc => by
    have dc := hS.dp c (hu2 c hc)
    exact ⟨L.dm _ _ dc hx.1, by rw [conj_mul da dc hx.1]; exact hS.cl _ (h a ha c hc) _ hx.2⟩) b ((hq2 b).2 hb)
   exact this.2
  intro a ha
  have := h1.ind (fun a => DP n a ∧ ∀ b ∈ S, conj a b ∈ S) ⟨L.de, fun b hb => by
   have e : invS (idS n) = idS n := (inv_uniq L.de L.de (L.el _ L.de)).symm
   unfold conj
   rw [e, L.er _ (L.dm _ _ L.de (hS.dp b hb)), L.el b (hS.dp b hb)]; exact hb⟩ (fun x hx c hc => by
    have dc := hG.dp c (hu1 c hc)
    exact ⟨L.dm _ _ dc hx.1, fun b hb => by rw [conj_comp dc hx.1 (hS.dp b hb)]; exact k1 c hc _ (hx.2 b hb)⟩) a ((hq1 a).2 ha)
  exact this.2
 ·intro h a ha b hb
  exact h a (hu1 a ha) b (hu2 b hb)
end Go.Ev
namespace Go.Ev
open Go Go.Proofs
variable {B : Nat}
set_option maxRecDepth 100000
theorem inv124 {a : Sym} {n : Nat} (ha : DP n a) (hn : n ≤ 1000) : Pure Tryz.prog B 124 [encS a] (· = encS (invS a)) := by
 have hl := ha.1.1
 refine jI fun h nx K H0 hK => zR zW dreg 10000 fun hf' => ?_
 rw [F124.go, F124.t20, zA, F124.t0_s]
 refine H0.box (l := [encI a.1, .bool a.2]) rfl fun b1 h1 nx1 H1 => ?_
 refine H1.alloc fun b2 h2 nx2 H2 => ?_
 have ld0 : ∀ {hh nn L'} (HH : Hp h hh nn (L' ++ [.arr b2 [.nils, .bool false], .arr b1 [encI a.1, .bool a.2]])) (op : AV → OP), zF (.ptr b1 (0 + 0)) hh op = op (encI a.1) := fun {hh nn L'} HH op => HH.load (k := L'.length + 1) (i := 0) (l := [encI a.1, .bool a.2]) (by rw [List.getElem?_append_right (by omega)]; simp) rfl
 have ld1 : ∀ {hh nn L'} (HH : Hp h hh nn (L' ++ [.arr b2 [.nils, .bool false], .arr b1 [encI a.1, .bool a.2]])) (op : AV → OP), zF (.ptr b1 (0 + 1)) hh op = op (.bool a.2) := fun {hh nn L'} HH op => HH.load (k := L'.length + 1) (i := 1) (l := [encI a.1, .bool a.2]) (by rw [List.getElem?_append_right (by omega)]; simp) rfl
 have mk : mkSl 8 (I (a.1.length : Int)) (I (a.1.length : Int)) = true := by
  show (Nat.ble a.1.length a.1.length && Nat.ble a.1.length 1000000 && Nat.ble (8 * a.1.length) 281474976710656) = true
  rw [Nat.ble_eq_true_of_le (Nat.le_refl _), Nat.ble_eq_true_of_le (by omega), Nat.ble_eq_true_of_le (by omega)]; rfl
 rw [F124.t19, zA, F124.t1_s]
 simp only [Bool.and_self, yK, sFx]
 rw [ld0 (L' := []) H2, zG, mk]
 simp only [Bool.and_self, yK]
 rw [ld1 (L' := []) H2]
 refine H2.mk1 a.1.length rfl rfl (by omega) (by decide) fun tb h3 nx3 H3 => ?_
 rw [ld1 (L' := [_]) H3]
 simp only [zB, zG]
 rw [ld0 (L' := [_]) H3]
 try simp only [zB]
 rw [dH rfl rfl]
 refine H3.alloc fun b3 h4 nx4 H4 => ?_
 rw [dH rfl rfl]
 try simp only [zB]
 rw [ld1 (L' := [_, _]) H4]
 try simp only [zB, zG]
 rw [ld0 (L' := [_, _]) H4]
 try simp only [zB]
 refine H4.storeN (k := 0) (n := 2) rfl rfl rfl fun h5 H5 => ?_
 rw [F124.t18, zA, F124.t15, zA, F124.t2_s, sFx, ld0 (L' := [_, _]) H5, zG]
 have e0 : List.replicate a.1.length (I 0) = (kQ a.1.length false a.1 (idL a.1.length) 0).map I := by simp [kQ]
 rw [e0] at H5
 rw [F124.t14, yD]
 refine F124.t13_L (fun m x8 h' nx' => ∃ i : Nat, x8 = I i ∧ m = a.1.length - i ∧ i ≤ a.1.length ∧ Hp h h' nx' [.arr b3 [.sl tb 0 a.1.length (some a.1.length) 1, .bool a.2], .arr tb ((kQ a.1.length false a.1 (idL a.1.length) i).map I), .arr b2 [.nils, .bool false], .arr b1 [encI a.1, .bool a.2]]) (m := a.1.length) (by omega)
  ⟨0, rfl, by omega, by omega, H5⟩ ?_
 rintro m z4 z5 z8 z9 h6 nx6 R ⟨i, rfl, rfl, hi, H6⟩ hR
 rw [F124.t12, zA, F124.t3_s, sLss]
 by_cases hlt : i < a.1.length
 case neg =>
  rw [decide_eq_false (by omega), F124.t11, zA, F124.t4, zM, F124.v9, zD, jY, uJ, F124.t17, zA, F124.t16_s, H6.loadN (k := 0) (n := 2) rfl rfl]
  refine H6.storeN (k := 2) (n := 2) rfl rfl rfl fun h7 H7 => ?_
  simp only [yL, jN]
  rw [F124.ret, H7.loadN (k := 2) (n := 2) rfl rfl]
  obtain rfl : i = a.1.length := by omega
  have hal := uP a.1.length false a.1 (idL a.1.length) a.1.length
  have e : invS a = (kQ a.1.length false a.1 (idL a.1.length) a.1.length, a.2) := by
   unfold invS applyS; rw [mS]
  refine hK _ _ _ _ (encS (invS a)) H7 (dT ?_ (zK rfl) rfl) rfl
  rw [e]
  have := H7.frzArr (k := 1) (e := 1) (n := a.1.length) (cap := some a.1.length) rfl (Nat.le_refl _) (by simp [hal]) fixdI
  show FrzN h h7 _ (AV.lst 1 (kQ _ _ _ _ _).length _)
  rw [hal]
  exact this
 rw [decide_eq_true (by omega), F124.t11, zA, F124.t4, zM, F124.v9, zC, yG]
 have hx : a.1[i]? = some a.1[i] := List.getElem?_eq_getElem hlt
 have hgb := ha.perm.2 _ (List.getElem_mem hlt)
 have hgd : a.1.getD i 0 = a.1[i] := by rw [List.getD_eq_getElem?_getD, hx]; rfl
 rw [F124.t10, zA, F124.t8, yD, F124.t7, zA, F124.t5_s, sIxL rfl hlt, ldL (getI hx), F124.t6_s, sFx, H6.load (k := 0) (i := 0 + 0) rfl rfl, sIx (i := (a.1[i]).toNat) (by omega) (by omega)]
 refine H6.store (k := 1) rfl (by rw [List.length_map, uP]; omega) rfl fun h7 H7 => ?_
 rw [F124.t9_s, sAdd (by omega)]
 refine hR _ _ _ _ _ _ _ (by omega) ⟨i + 1, rfl, rfl, by omega, H7.cast ?_⟩
 rw [xP, hgd, idL_get hlt]
 simp [List.map_set, xOf]
def nrmV (G S : List Sym) (n : Int) : AV := if subE G S n ≠ 0 then .tup [.bool false, I (subE G S n)] else .tup [.bool (normB G S), I 0]
theorem uQ {α : Type} {l : List α} {p : α → Bool} {i : Nat} {x : α} (hx : l[i]? = some x) (h : (l.take i).all p = true) (hp : p x = true) : (l.take (i + 1)).all p = true := by
 rw [List.take_add_one, hx, List.all_append, h]; simp [hp]
theorem pD {α : Type} {l : List α} {p : α → Bool} (h : (l.take l.length).all p = true) : l.all p = true := by rwa [List.take_of_length_le (Nat.le_refl _)] at h
theorem isNormal40 {G S : List Sym} {n : Int} (hG : G.length ≤ 100000) (hw : ∀ g ∈ G, g.1.length ≤ 100000) (hS : S.length ≤ 100000) (hw2 : ∀ g ∈ S, g.1.length ≤ 100000) : Pure Tryz.prog B 40 [encG G, encG S, I n] (· = nrmV G S n) := by
 refine jI fun h nx K H0 hK => zR zW dreg 10000000 fun hf' => ?_
 rw [F40.go, F40.t43, zA, F40.t0_s, F40.t42, zA, F40.t1_s]
 refine mC hG hw hS hw2 H0 (fun e h2 nx2 X he hne H2 => ?_) fun n' u1 q1 u2 q2 g o1 o2 h2 nx2 X hn ok1 ok2 hse hu1 hul1 hC1 hq1 hu2 hul2 hC2 hq2 hsub H2 => ?_
 ·rw [yP, yU, yZ]
  refine H2.alloc fun b6 h3 nx3 H3 => ?_
  refine H3.storeN (k := 0) (n := 2) rfl rfl rfl fun h4 H4 => ?_
  rw [F40.t41, zA, F40.t6, zA, F40.t2_s, sNeq, decide_eq_false hne, Bool.not_false, F40.t5, zM, F40.v10, zC, F40.t4, zA, F40.t3_s]
  simp only [yL, jN]
  rw [F40.ret]
  exact hK _ _ _ _ _ H4 (u7 (zK rfl) (zK rfl)) (by rw [nrmV, ← he, if_pos hne])
 subst hn
 have hn256 := ok1.n256
 have hgen := normB_gen ok1 ok2 hu1 hC1 hq1 hu2 hC2 hq2
 rw [yP, yU, yZ]
 refine H2.alloc fun b6 h3 nx3 H3 => ?_
 refine H3.storeN (k := 0) (n := 2) rfl rfl rfl fun h4 H4 => ?_
 rw [F40.t41, zA, F40.t6, zA, F40.t2_s, sNeq, decide_eq_true rfl, Bool.not_true, F40.t5, zM, F40.v10, zD, yG, F40.t40, zA, F40.t37, zA, F40.t7_s, sAx0, H4.load (k := 0) (i := 0) rfl rfl, H4.groLen (k := 3) rfl]
 have hd2 : ∀ b ∈ q2, DS n' b := fun b hb => (ok2.dp b ((hq2 b).1 hb)).1
 have no : ∀ {h' nx' L'}, Hp h h' nx' L' → (∃ a ∈ u1, ∃ b ∈ u2, conj a b ∉ S) → K (.tup [.bool false, I 0]) h' nx' = .ok True := fun H' ⟨a, ha, b, hb, hc⟩ => by
  refine hK _ _ _ _ _ H' (u7 (zK rfl) (zK rfl)) ?_
  rw [nrmV, hse, if_neg (by decide), ← hgen]
  congr 3
  refine (Bool.eq_false_iff.2 fun q => ?_).symm
  have := List.all_eq_true.1 (List.all_eq_true.1 q a ha) b hb
  exact hc (of_decide_eq_true this)
 rw [F40.t36, yD]
 refine F40.t35_L (fun m x13 h' nx' => ∃ i : Nat, x13 = I i ∧ m = u1.length - i ∧ i ≤ u1.length ∧ (u1.take i).all (fun a => u2.all fun b => decide (conj a b ∈ S)) = true ∧ Hp h h' nx' (.arr b6 [rowV o1 2 u1.length, rowV o2 2 u2.length] :: .map g (entS q2) :: .gro o2 2 u2.length (yS u2) :: .gro o1 2 u1.length (yS u1) :: (X ++ []))) (m := u1.length) (by omega)
  ⟨0, rfl, by omega, by omega, by simp, H4⟩ ?_
 rintro m z3 z4 z8 z9 z13 z14 z15 z16 z17 z18 z19 h6 nx6 R ⟨i, rfl, rfl, hi, hal, H6⟩ hR
 rw [F40.t34, zA, F40.t8_s, sLss]
 by_cases hlt : i < u1.length
 case neg =>
  rw [decide_eq_false (by omega), F40.t33, zA, F40.t9, zM, F40.v14, zD, jY, uJ, F40.t39, zA, F40.t38_s]
  simp only [yL, jN]
  rw [F40.ret]
  obtain rfl : i = u1.length := by omega
  exact hK _ _ _ _ _ H6 (u7 (zK rfl) (zK rfl)) (by rw [nrmV, hse, if_neg (by decide), ← hgen, pD hal])
 rw [decide_eq_true (by omega), F40.t33, zA, F40.t9, zM, F40.v14, zC, yG, F40.t32, zA, F40.t30, yD, F40.t29, zA, F40.t10_s]
 have hx : u1[i]? = some u1[i] := List.getElem?_eq_getElem hlt
 have hxm := List.mem_of_getElem? hx
 have hdx := ok1.dp _ (hu1 _ hxm)
 obtain ⟨iu, ou, e1, e2⟩ := groIx2 (k := 3) H6 rfl hx
 rw [e1, e2]
 refine H6.alloc fun b8 h7 nx7 H7 => ?_
 refine H7.storeN (k := 0) (n := 2) rfl rfl rfl fun h8 H8 => ?_
 rw [F40.t28, zA, F40.t11_s, sAx1, H8.load (k := 1) (i := 0 + 1) rfl rfl, H8.groLen (k := 3) rfl, F40.t27, yD]
 refine F40.t26_L (fun m x17 h' nx' => ∃ k : Nat, x17 = I k ∧ m = u2.length - k ∧ k ≤ u2.length ∧ (u2.take k).all (fun b => decide (conj u1[i] b ∈ S)) = true ∧ Hp h h' nx' (.arr b8 [encI u1[i].1, .bool u1[i].2] :: .arr b6 [rowV o1 2 u1.length, rowV o2 2 u2.length] :: .map g (entS q2) :: .gro o2 2 u2.length (yS u2) :: .gro o1 2 u1.length (yS u1) :: (X ++ []))) (m := u2.length) (by omega)
  ⟨0, rfl, by omega, by omega, by simp, H8⟩ ?_
 rintro m y3 y4 y9 y17 y18 y19 h9 nx9 R' ⟨k, rfl, rfl, hk, hal2, H9⟩ hR'
 rw [F40.t25, zA, F40.t12_s, sLss]
 by_cases hlt2 : k < u2.length
 case neg =>
  rw [decide_eq_false (by omega), F40.t24, zA, F40.t13, zM, F40.v18, zD, jY, uJ, F40.t31_s, sAdd (by omega)]
  obtain rfl : k = u2.length := by omega
  exact hR _ _ _ _ _ _ _ _ _ _ _ _ _ _ (by omega) ⟨i + 1, rfl, rfl, by omega, uQ hx hal (pD hal2), H9.drop⟩
 rw [decide_eq_true (by omega), F40.t24, zA, F40.t13, zM, F40.v18, zC, yG, F40.t23, zA, F40.t21, yD, F40.t20, zA, F40.t14_s]
 have hy : u2[k]? = some u2[k] := List.getElem?_eq_getElem hlt2
 have hym := List.mem_of_getElem? hy
 have hdy := ok2.dp _ (hu2 _ hym)
 obtain ⟨iv, ov, e3, e4⟩ := groIx2 (k := 3) H9 rfl hy
 rw [e3, e4]
 refine H9.alloc fun b9 h10 nx10 H10 => ?_
 refine H10.storeN (k := 0) (n := 2) rfl rfl rfl fun h11 H11 => ?_
 rw [F40.t19, zA, F40.t15_s, H11.loadN (k := 1) (n := 2) rfl rfl, H11.loadN (k := 0) (n := 2) rfl rfl, H11.loadN (k := 1) (n := 2) rfl rfl]
 refine pF (a := u1[i]) (b := u2[k]) (fun z hz => by rw [hdx.1.1]; exact hdy.1.2 z hz) (by rw [hdy.1.1]; omega) _ _ _ _ ?_
 rintro _ rfl _
 rw [H11.loadN (k := 1) (n := 2) rfl rfl, zB, zB]
 refine inv124 (a := u1[i]) hdx (by omega) _ _ _ _ ?_
 rintro _ rfl _
 have hdi := xI hdx
 have hdxy := (gB n').dm _ _ hdx hdy
 rw [zB]
 refine pF (a := zL u1[i] u2[k]) (b := invS u1[i]) (fun z hz => by rw [hdxy.1.1]; exact hdi.1.2 z hz) (by rw [hdi.1.1]; omega) _ _ _ _ ?_
 rintro _ rfl _
 rw [zB]
 have hdc : DP n' (conj u1[i] u2[k]) := conj_dp hdx hdy
 refine has204 (a := conj u1[i] u2[k]) hn256 hdc.1 hd2 H11 (k := 3) rfl ?_
 rw [yF, F40.t18, zM, F40.v19]
 by_cases c : conj u1[i] u2[k] ∈ q2
 ·rw [decide_eq_true c, Bool.not_true, zD, yG, F40.t22_s, sAdd (by omega)]
  exact hR' _ _ _ _ _ _ _ _ _ (by omega) ⟨k + 1, rfl, rfl, by omega, uQ hy hal2 (decide_eq_true ((hq2 _).1 c)), H11.drop⟩
 ·rw [decide_eq_false c, Bool.not_false, zC, F40.t17, zA, F40.t16_s]
  simp only [yL, blk_rt, jN]
  rw [F40.ret]
  exact no H11 ⟨_, hxm, _, hym, fun q => c ((hq2 _).2 q)⟩
end Go.Ev
namespace Go.Ev
abbrev AscS (l : List Sym) : Prop := l.Pairwise fun a b => befS a b = true
theorem AscS.nd {l : List Sym} (h : AscS l) : l.Nodup := h.imp fun hab e => by rw [e, qP] at hab; cases hab
theorem asc_uniq : ∀ {a b : List Sym}, AscS a → AscS b → (∀ x, x ∈ a ↔ x ∈ b) → a = b
 | [], [], _, _, _ => rfl
 | [], y :: b, _, _, h => by have := (h y).2 (by simp); cases this
 | x :: a, [], _, _, h => by have := (h x).1 (by simp); cases this
 | x :: a, y :: b, ha, hb, h => by
  have ha' := List.pairwise_cons.1 ha
  have hb' := List.pairwise_cons.1 hb
  have e : x = y := by
   have h1 := (h x).1 (by simp)
   have h2 := (h y).2 (by simp)
   rcases List.mem_cons.1 h1 with q | q
   ·exact q
   ·rcases List.mem_cons.1 h2 with r | r
    ·exact r.symm
    ·have h3 := hb'.1 x q
     have h4 := ha'.1 y r
     rw [befS_asymm h3] at h4; cases h4
  subst e
  congr 1
  refine asc_uniq ha'.2 hb'.2 fun z => ?_
  have hz := h z
  simp only [List.mem_cons] at hz
  constructor
  ·intro q
   rcases hz.1 (.inr q) with rfl | r
   ·have := ha'.1 z q; rw [qP] at this; cases this
   ·exact r
  ·intro q
   rcases hz.2 (.inr q) with rfl | r
   ·have := hb'.1 z q; rw [qP] at this; cases this
   ·exact r
end Go.Ev
namespace Go.Ev
open Go Go.Proofs
theorem ordS_bef {a b : Sym} (h : a ≠ b) (h2 : ordS a b ≤ 0) : befS a b = true := by
 rw [wC] at h2
 unfold befS
 by_cases c : a.1 = b.1
 ·rw [if_pos c] at h2 ⊢
  have : a.2 ≠ b.2 := fun q => h (Prod.ext c q)
  revert h2 this; cases a.2 <;> cases b.2 <;> simp
 ·rw [if_neg c] at h2 ⊢
  rw [wE]
  have := pS c
  exact decide_eq_true (by omega)
theorem asc_of_ord {s : List Sym} (hn : s.Nodup) (h : s.Pairwise fun a b => ordS a b ≤ 0) : AscS s := (List.pairwise_and_iff.2 ⟨hn, h⟩).imp fun ⟨h1, h2⟩ => ordS_bef h1 h2
end Go.Ev
namespace Go.Ev
open Go Go.Proofs
variable {B : Nat}
set_option maxRecDepth 100000
theorem CS_args {P : Program} {f : Nat} {p : Pa} {args args' : List AV} {h : T Blk} {nx : Pa} {K : Kw Prop} (hv : ∀ (E : Env) (vs : List Value), VRL E args vs → VRL E args' vs) (hk : (CS P B).fn f p args' h nx K = .ok True) : (CS P B).fn f p args h nx K = .ok True := by
 rw [CS_fn] at hk ⊢
 exact ⟨fun E w vs H hv' => hk.1 E w vs H (hv _ _ hv'), rfl⟩
theorem VR_nil0 {E : Env} {e : Nat} {vv : Value} (h : VR E .nils vv) : VR E (.lst e 0 []) vv := by
 simp only [VR] at h ⊢
 exact ⟨rfl, by simp, none, 0, h, .inl (by simp)⟩
def LG (v : AV) (l : List Sym) : Prop := (v = .nils ∧ l = []) ∨ (v = encG l ∧ l ≠ [])
theorem LG.len {v : AV} {l : List Sym} (h : LG v l) {op : AV → OP} : sLen v op = op (I l.length) := by
 rcases h with ⟨rfl, rfl⟩ | ⟨rfl, _⟩
 ·exact zV
 ·exact zG ..
theorem LG.frz {v : AV} {l : List Sym} (h : LG v l) {N : Pa → Prop} {O : AV → Prop} {hh : T Blk} : Frz True N O hh v (encG l) := by
 rcases h with ⟨rfl, rfl⟩ | ⟨rfl, _⟩
 ·exact .lnils 2
 ·exact zK (fixd_encG _)
theorem LG.call {P : Program} {f : Nat} {p : Pa} {v : AV} {rest : List AV} {l : List Sym} (h : LG v l) {hh : T Blk} {nx : Pa} {K : Kw Prop} (hk : (CS P B).fn f p (encG l :: rest) hh nx K = .ok True) : (CS P B).fn f p (v :: rest) hh nx K = .ok True := by
 rcases h with ⟨rfl, rfl⟩ | ⟨rfl, _⟩
 ·refine CS_args (fun E vs hv => ?_) hk
  simp only [VRL] at hv ⊢
  obtain ⟨a, m, q, r, s⟩ := hv
  exact ⟨a, m, q, VR_nil0 r, s⟩
 ·exact hk
end Go.Ev
namespace Go.Ev
open Go.Proofs (ordL xF qU qA uO)
abbrev AscT (l : List (List Int)) : Prop := l.Pairwise fun a b => gY a b = true
end Go.Ev
namespace Go.Ev
open Go Go.Proofs Go.RowKit Go.Sort
end Go.Ev
namespace Go.Ev
open Go Go.Proofs
variable {B : Nat}
set_option maxRecDepth 100000
def Kept (s r : List (List Int)) (j : Nat) : Prop := AscT r ∧ (∀ x, x ∈ r ↔ x ∈ s.take j) ∧ 1 ≤ r.length ∧ r.length ≤ j ∧ r.getLast? = s[j - 1]?
theorem Kept.same {s r : List (List Int)} {j : Nat} (hj : 1 ≤ j) (h : Kept s r j) (hl : j < s.length) (e : s[j] = s[j - 1]) : Kept s r (j + 1) := by
 obtain ⟨h1, h2, h3, h4, h5⟩ := h
 have hp : s[j - 1]? = some s[j - 1] := List.getElem?_eq_getElem (by omega)
 refine ⟨h1, fun x => ?_, h3, by omega, ?_⟩
 ·rw [h2, List.take_add_one, List.getElem?_eq_getElem hl, List.mem_append]
  constructor
  ·exact .inl
  ·rintro (q | q)
   ·exact q
   ·have : x = s[j - 1] := by rw [← e]; simpa using q
    rw [this]
    exact List.mem_of_getElem? (i := j - 1) (by rw [List.getElem?_take_of_lt (by omega)]; exact hp)
 ·rw [h5, hp, Nat.add_sub_cancel, List.getElem?_eq_getElem hl, e]
theorem Kept.new {s r : List (List Int)} {j : Nat} (hj : 1 ≤ j) (h : Kept s r j) (hs : s.Pairwise fun a b => ordL a b ≤ 0) (hl : j < s.length) (e : s[j] ≠ s[j - 1]) : Kept s (r ++ [s[j]]) (j + 1) := by
 obtain ⟨h1, h2, h3, h4, h5⟩ := h
 have hlt : ∀ x ∈ s.take j, gY x s[j] = true := fun x hx => by
  have hpw := List.pairwise_iff_getElem.1 hs
  obtain ⟨i, hi⟩ := List.getElem?_of_mem hx
  have hil := (List.getElem?_eq_some_iff.1 hi).1
  rw [List.length_take] at hil
  rw [List.getElem?_take_of_lt (by omega), List.getElem?_eq_getElem (by omega)] at hi
  obtain rfl := Option.some.inj hi
  have a1 := hpw i j (by omega) hl (by omega)
  have a2 := hpw (j - 1) j (by omega) hl (by omega)
  have a3 : ordL s[j - 1] s[j] ≠ 0 := fun q => e (qU q).symm
  rw [wE]
  by_cases q : i = j - 1
  ·subst q; exact decide_eq_true (by omega)
  ·have a4 := hpw i (j - 1) (by omega) (by omega) (by omega)
   by_cases z : ordL s[i] s[j - 1] = 0
   ·rw [qU z]; exact decide_eq_true (by omega)
   ·exact decide_eq_true (uO (b := s[j - 1]) (by omega) (by omega))
 refine ⟨List.pairwise_append.2 ⟨h1, by simp, fun x hx y hy => ?_⟩, fun x => ?_, by simp, by simp; omega, ?_⟩
 ·rw [List.mem_singleton.1 hy]; exact hlt x ((h2 x).1 hx)
 ·rw [List.mem_append, h2, List.take_add_one, List.getElem?_eq_getElem hl, List.mem_append]; simp
 ·rw [Nat.add_sub_cancel, List.getElem?_eq_getElem hl]; simp
end Go.Ev
namespace Go.Ev
open Go Go.Proofs
variable {B : Nat}
set_option maxRecDepth 100000
theorem qX {a b c : List Int} (h1 : ordL a b ≤ 0) (h2 : ordL b c ≤ 0) : ordL a c ≤ 0 := by
 by_cases z1 : ordL a b = 0
 ·rw [qU z1]; exact h2
 ·by_cases z2 : ordL b c = 0
  ·rw [← qU z2]; exact h1
  ·have := uO (a := a) (b := b) (c := c) (by omega) (by omega); omega
end Go.Ev
namespace Go.Ev
open Go Go.Proofs
variable {B : Nat}
set_option maxRecDepth 100000
end Go.Ev
namespace Go.Ev
open Go Go.Proofs
variable {B : Nat}
set_option maxRecDepth 100000
def LT (v : AV) (l : List (List Int)) : Prop := (v = .nils ∧ l = []) ∨ (v = encT l ∧ l ≠ [])
theorem LT.len {v : AV} {l : List (List Int)} (h : LT v l) {op : AV → OP} : sLen v op = op (I l.length) := by
 rcases h with ⟨rfl, rfl⟩ | ⟨rfl, _⟩
 ·exact zV
 ·exact zG ..
theorem LT.frz {v : AV} {l : List (List Int)} (h : LT v l) {N : Pa → Prop} {O : AV → Prop} {hh : T Blk} : Frz True N O hh v (encT l) := by
 rcases h with ⟨rfl, rfl⟩ | ⟨rfl, _⟩
 ·exact .lnils 1
 ·exact zK (fixd_encT _)
end Go.Ev
namespace Go.Ev
open Go.Proofs
end Go.Ev
namespace Go.Ev
open Go.Proofs
section
variable {G S : List Sym} {n : Nat}
end
end Go.Ev
namespace Go.Ev
section
variable {G : List Sym} {n : Nat}
end
end Go.Ev
namespace Go.Ev
open Go Go.Proofs Go.RowKit Go.Sort
noncomputable def xJ : List AV → Option (List Int)
 | [] => some []
 | .int k n :: l => match k with
  | .i64 => match xJ l with
   | some xs => some (n :: xs)
   | none => none
  | _ => none
 | _ => none
theorem intsA_eq : ∀ {l : List AV} {xs : List Int}, xJ l = some xs → l = xs.map I
 | [], xs, h => by simp [xJ] at h; subst h; rfl
 | x :: l, xs, h => by
  cases x <;> first | (simp [xJ] at h; done) | skip
  rename_i k n
  cases k <;> first | (simp [xJ] at h; done) | skip
  simp only [xJ] at h
  cases hl : xJ l with
  | none => simp [hl] at h
  | some ys => simp [hl] at h; subst h; simp [intsA_eq hl]
theorem intsA_map (l : List Int) : xJ (l.map I) = some l := by
 induction l with
 | nil => rfl
 | cons a l ih => show (match xJ (l.map I) with | some xs => some (a :: xs) | none => none) = _; rw [ih]
noncomputable def sortJ (v : AV) (h : T Blk) : Option (T Blk) := match v with
 | .sl id off ln _ esz => match T.get .no id h with
  | .cells op m t => bif Nat.beq esz 1 && Nat.ble (off + ln) m && Nat.ble ln 1000000 then (match xJ (yB t off ln) with
   | some l => some (T.set .no (.cells op m (yW ((srt l).map I) t off)) id h)
   | none => none) else none
  | _ => none
 | .nils => some h
 | _ => none
noncomputable def hookS (f : Nat) (args : List AV) (h : T Blk) : Option (AV × T Blk) := bif Nat.beq f 91 then (match args with
 | [v] => match sortJ v h with
  | some h => some (.tup [], h)
  | none => none
 | _ => none) else none
theorem HR.sorted {P : Program} {B : Nat} {E : Env} {h : T Blk} {nx : Pa} {w : World} (H : HR P B E h nx w) {id : Pa} {op : Bool} {m off b n k : Nat} {t : T AV} {l l' : List Int} {os : Array Obj} (hb : T.get .no id h = .cells op m t) (hE : E id = some (b, n))
  (hl' : l'.length = l.length) (hm : off + l.length ≤ m) :
  HR P B E (T.set .no (.cells op m (yW (l'.map I) t off)) id h) nx (grow (putRow (Value.int .i64) (Sort.ahead w k) b off l'.toArray) os) ∧ Ex E E w (grow (putRow (Value.int .i64) (Sort.ahead w k) b off l'.toArray) os) := by
 have hid : T.get .no id h ≠ .no := by rw [hb]; intro e; cases e
 obtain ⟨b', n', o, h1, h2, h3⟩ := H.blk id hid
 rw [hE] at h1; cases h1
 rw [hb] at h3
 obtain ⟨c, ty, fr, rfl, q1, q2, q3, q4, q5⟩ := h3
 have hcs : (putCells (Value.int .i64) off l'.toArray c).size = c.size := by simp [putCells]
 have hbr : BR P E n (.cells op m (yW (l'.map I) t off)) (.cells (putCells (Value.int .i64) off l'.toArray c) ty fr) := by
  refine ⟨_, ty, fr, rfl, by rw [hcs]; exact q1, by rw [hcs]; exact q2, q3, q4, fun i hi => ?_⟩
  rw [gZ]
  have hic : i < c.size := by omega
  have hce : (putCells (Value.int .i64) off l'.toArray c)[i]? = some (if off ≤ i ∧ i < off + l'.length then Value.int .i64 (l'.toArray[i - off]!) else c[i]) := by
   simp [putCells, Array.getElem?_eq_getElem hic]
  rw [List.length_map]
  by_cases hr : off ≤ i ∧ i < off + l'.length
  ·rw [if_pos hr]
   rw [if_pos hr] at hce
   have hj : i - off < l'.length := by omega
   have e1 : (l'.map I).getD (i - off) .undef = I l'[i - off] := by
    rw [List.getD_eq_getElem?_getD, List.getElem?_map, List.getElem?_eq_getElem hj]; rfl
   have e2 : l'.toArray[i - off]! = l'[i - off] := by simp [getElem!_pos, hj]
   rw [e1]
   exact ⟨rfl, _, hce, by rw [e2]; simp only [VR]⟩
  ·rw [if_neg hr]
   rw [if_neg hr] at hce
   obtain ⟨r1, v, r2, r3⟩ := q5 i hi
   rw [Array.getElem?_eq_getElem hic] at r2
   exact ⟨r1, _, hce, by rw [Option.some.inj r2]; exact r3⟩
 have H1 := H.put hid hE hbr
 have X1 : Ex E E w (w.putObj b (.cells (putCells (Value.int .i64) off l'.toArray c) ty fr)) := Ex.put hE h2 fun L hL => by cases hL
 have hbl : b < w.heap.size := (Array.getElem?_eq_some_iff.1 h2).1
 have hBel : Below (w.putObj b (.cells (putCells (Value.int .i64) off l'.toArray c) ty fr)).heap.size (w.putObj b (.cells (putCells (Value.int .i64) off l'.toArray c) ty fr)) (grow (putRow (Value.int .i64) (Sort.ahead w k) b off l'.toArray) os) := by
  refine ⟨rfl, rfl, rfl, ?_, fun j hj => ?_⟩
  ·rw [World.putObj_size]; simp [grow, putRow, mapBlock, Sort.ahead]
  ·rw [World.putObj_size] at hj
   have e1 : (grow (putRow (Value.int .i64) (Sort.ahead w k) b off l'.toArray) os).heap[j]? = (w.heap.modify b (onCells (putCells (Value.int .i64) off l'.toArray)))[j]? := by
    show (w.heap.modify b (onCells (putCells (Value.int .i64) off l'.toArray)) ++ os)[j]? = _
    rw [Array.getElem?_append_left (by simpa using hj)]
   rw [e1, Array.getElem?_modify]
   by_cases e : b = j
   ·subst e
    rw [if_pos rfl, h2, gT _ hbl]; rfl
   ·rw [if_neg e, yH _ (fun q => e q.symm)]
 obtain ⟨r1, r2⟩ := H1.below hBel
 exact ⟨r1, X1.trans r2⟩
theorem hookS_ok {B : Nat} (law : ∀ (blk off cap : Nat) (zs : List Int) (w : World), Holds (Value.int .i64) w blk off zs.toArray → blk < w.heap.size → zs.length < 4611686018427387904 →
   Go.Calls Tryz.prog 91 #[.slice (some ⟨blk, off, none⟩) zs.length cap] w fun e w' => e = .returned (.tuple #[]) ∧ ∃ n os, w' = grow (putRow (Value.int .i64) (Sort.ahead w n) blk off (zs.mergeSort fun x y => decide (x ≤ y)).toArray) os)
  (law0 : ∀ (p : Option Addr) (cap : Nat) (w : World), Go.Calls Tryz.prog 91 #[.slice p 0 cap] w fun e w' => e = .returned (.tuple #[]) ∧ w' = w) : JOk Tryz.prog B hookS := by
 intro E h nx w f args vs v h2 H hv hj
 unfold hookS at hj
 cases hf : Nat.beq f 91 with
 | false => simp [hf] at hj
 | true =>
  obtain rfl := yC hf
  rw [hf, cond_true] at hj
  split at hj
  case h_2 => cases hj
  rename_i _ x
  cases hjj : sortJ x h with
  | none => simp [hjj] at hj
  | some hs =>
  simp only [hjj, Option.some.injEq, Prod.mk.injEq] at hj
  obtain ⟨rfl, rfl⟩ := hj
  refine ⟨_, Tryz.func91, by kernel_rfl, by kernel_rfl, fun n => callsIn_wide.2 ?_⟩
  obtain ⟨l⟩ := vs
  simp only [VRL] at hv
  obtain ⟨u, _, rfl, hu, rfl⟩ := hv
  unfold sortJ at hjj
  split at hjj
  ·rename_i id off ln cap esz
   split at hjj
   ·rename_i op m t hb
    cases hq : (Nat.beq esz 1 && Nat.ble (off + ln) m && Nat.ble ln 1000000) with
    | false => simp [hq] at hjj
    | true =>
     rw [hq, cond_true] at hjj
     simp only [Bool.and_eq_true] at hq
     obtain ⟨⟨q1, q2⟩, q3⟩ := hq
     obtain rfl := yC q1
     have q2 := zZ q2
     have q3 := zZ q3
     cases hx : xJ (yB t off ln) with
     | none => simp [hx] at hjj
     | some xs =>
      simp only [hx, Option.some.injEq] at hjj
      subst hjj
      have hxs := intsA_eq hx
      have hln : xs.length = ln := by
       have := congrArg List.length hxs
       simpa using this.symm
      obtain ⟨b, n, c, hE, rfl, hcap⟩ := hu.sl_inv
      obtain ⟨b', n', o, h1, h2, h3⟩ := H.blk id (by rw [hb]; intro e; cases e)
      rw [hE] at h1; cases h1
      rw [hb] at h3
      obtain ⟨cs, ty, fr, rfl, g1, g2, g3, g4, hc⟩ := h3
      have hH : Holds (Value.int .i64) w b off xs.toArray := by
       intro j hj
       have hj : j < xs.length := by simpa using hj
       obtain ⟨_, v', k1, k2⟩ := hc (off + j) (by omega)
       have he : T.get .undef (.of (off + j)) t = I xs[j] := by
        have e1 := yA t off ln j (by omega)
        rw [hxs, List.getElem?_map, List.getElem?_eq_getElem hj] at e1
        exact (Option.some.inj e1).symm
       rw [he] at k2
       simp only [VR] at k2
       subst k2
       have e2 : xs.toArray[j]! = xs[j] := by simp [getElem!_pos, hj]
       rw [e2]
       refine ⟨by simp [World.cell?, h2, k1], ?_⟩
       have := g1 (off + j) (Array.getElem?_eq_some_iff.1 k1).1
       simp only [World.frozen?, h2]
       obtain ⟨lo, hi⟩ := fr
       simp only [Bool.and_eq_false_iff, decide_eq_false_iff_not]
       simp only at this
       omega
      rw [← hln]
      refine (law b off c xs w hH (H.lt _ _ _ hE).2 (by omega)).mono ?_
      rintro e w' ⟨rfl, k, os, rfl⟩
      have hp : (srt xs).length = xs.length := (qG xs).length_eq
      obtain ⟨r1, r2⟩ := H.sorted (off := off) (l := xs) (l' := srt xs) (k := k) (os := os) hb hE hp (by omega)
      exact ⟨_, E, rfl, by simp only [VR, VRL]; exact ⟨_, rfl, rfl⟩, r1, r2⟩
   ·cases hjj
  ·obtain rfl := (Option.some.inj hjj).symm
   simp only [VR] at hu
   subst hu
   refine (law0 none 0 w).mono ?_
   rintro e w' ⟨rfl, rfl⟩
   exact ⟨_, E, rfl, by simp only [VR, VRL]; exact ⟨_, rfl, rfl⟩, H, .refl _ _⟩
  ·cases hjj
end Go.Ev
namespace Go.Ev
open Go Go.Proofs
variable {B : Nat}
set_option maxRecDepth 100000
theorem hookS91 {B : Nat} : JOk Tryz.prog B hookS := hookS_ok Tryz.slices_Sort_int Tryz.slices_Sort_int_none
theorem sort91g {h0 h : T Blk} {nx p id : Pa} {L : List Ob} {k n : Nat} {K : Kw Prop} {l : List Int} (H : Hp h0 h nx L) (hk : L[k]? = some (.gro (some id) 1 n (l.map I))) (hn : n ≤ 1000000)
  (hK : ∀ h', Hp h0 h' nx (L.set k (.gro (some id) 1 n ((srt l).map I))) → K (.tup []) h' nx = .ok True) : (CS Tryz.prog B).fn 91 p [rowV (some id) 1 n] h nx K = .ok True := by
 obtain ⟨t, h1, h2, h3⟩ := H.own _ (List.mem_of_getElem? hk)
 rw [List.length_map] at h2
 have hp := (qG l).length_eq
 have hln : l.length = n := by omega
 have hsl : ((srt l).map I).length = n * 1 := by rw [List.length_map, hp, h2]
 refine CS_hook hookS91 (v := .tup []) (h2 := T.set .no (.cells true (n * 1) (yW ((srt l).map I) t 0)) id h) ?_ (hK _ ?_)
 ·show (match sortJ (.sl id 0 n none 1) h with
   | some h => some (AV.tup [], h)
   | none => none) = _
  have e : sortJ (.sl id 0 n none 1) h = some (T.set .no (.cells true (n * 1) (yW ((srt l).map I) t 0)) id h) := by
   unfold sortJ
   simp only [h1]
   rw [Nat.mul_one] at h3 ⊢
   simp only [Nat.beq_refl, Nat.zero_add, Nat.ble_eq_true_of_le (Nat.le_refl n), Nat.ble_eq_true_of_le hn, Bool.and_self, cond_true, h3, intsA_map]
  rw [e]
 ·refine H.upd hk (by simp [Ob.names]) rfl ⟨_, T.get_set_same .., hsl, ?_⟩
  have := kE t [] ((srt l).map I) 0 rfl
  rw [Nat.zero_add, List.nil_append, hsl] at this
  exact this
end Go.Ev
namespace Go.Ev
open Go Go.Proofs
variable {B : Nat}
set_option maxRecDepth 100000
def RB (l : List Int) : Prop := ∀ x ∈ l, 0 ≤ x ∧ x < 256
theorem keyL_inj : ∀ {l l' : List Int}, RB l → RB l' → keyB (l, false) = keyB (l', false) → l = l'
 | [], [], _, _, _ => rfl
 | [], _ :: _, _, _, h => by cases h
 | _ :: _, [], _, _, h => by cases h
 | x :: l, y :: l', h1, h2, h => by
  have h : UInt8.ofNat x.toNat :: keyB (l, false) = UInt8.ofNat y.toNat :: keyB (l', false) := h
  obtain ⟨e1, e2⟩ := List.cons.inj h
  have hx := h1 x (by simp)
  have hy := h2 y (by simp)
  have e : x = y := by
   have := congrArg UInt8.toNat e1
   simp only [UInt8.toNat_ofNat'] at this
   omega
  rw [e, keyL_inj (fun z hz => h1 z (by simp [hz])) (fun z hz => h2 z (by simp [hz])) e2]
def entL (ks : List (List Int)) : List (AV × AV) := ks.map fun l => (.str (keyB (l, false)), .bool true)
theorem findL {a : List Int} (ha : RB a) : ∀ (ks : List (List Int)) (i : Nat), (∀ b ∈ ks, RB b) → (a ∈ ks → ∃ j, uX .str (.str (keyB (a, false))) (entL ks) i = some (some (j, .bool true))) ∧ (a ∉ ks → uX .str (.str (keyB (a, false))) (entL ks) i = some none)
 | [], i, _ => ⟨fun h => absurd h (by simp), fun _ => rfl⟩
 | b :: ks, i, h => by
  obtain ⟨r1, r2⟩ := findL ha ks (i + 1) fun c hc => h c (by simp [hc])
  have e : uX .str (.str (keyB (a, false))) (entL (b :: ks)) i = (match some (jV (keyB (a, false)) (keyB (b, false))) with
   | some true => some (some (i, .bool true))
   | some false => uX .str (.str (keyB (a, false))) (entL ks) (i + 1)
   | none => none) := rfl
  rw [e]
  by_cases c : a = b
  ·subst c
   rw [bytesEq_iff.2 rfl]
   exact ⟨fun _ => ⟨i, rfl⟩, fun q => absurd (by simp) q⟩
  ·have hb : jV (keyB (a, false)) (keyB (b, false)) = false := by
    cases q : jV (keyB (a, false)) (keyB (b, false)) with
    | false => rfl
    | true => exact absurd (keyL_inj ha (h b (by simp)) (bytesEq_iff.1 q)) c
   rw [hb]
   exact ⟨fun q => r1 (by
    rcases List.mem_cons.1 q with q | q
    ·exact absurd q c
    ·exact q), fun q => r2 fun q2 => q (by simp [q2])⟩
theorem lookL {a : List Int} (ha : RB a) {ks : List (List Int)} (hks : ∀ b ∈ ks, RB b) {h0 h : T Blk} {nx : Pa} {L : List Ob} {k : Nat} {id : Pa} {op : AV → OP} (H : Hp h0 h nx L) (hk : L[k]? = some (.map id (entL ks))) : sLook .str (.bool false) false (.map id) (.str (keyB (a, false))) h op = op (.bool (decide (a ∈ ks))) := by
 have own : T.get .no id h = .map _ _ := H.own _ (List.mem_of_getElem? hk)
 obtain ⟨r1, r2⟩ := findL ha ks 0 hks
 show asMapB (T.get .no id h) _ _ = _
 rw [own]
 show (match gL .str (.str (keyB (a, false))) (entL ks) with
    | some (some (_, v)) => op (bif false then .tup [v, .bool true] else v)
    | some none => op (bif false then .tup [.bool false, .bool false] else .bool false)
    | none => .no 20) = _
 rw [show gL .str (.str (keyB (a, false))) (entL ks) = uX .str (.str (keyB (a, false))) (entL ks) 0 from rfl]
 by_cases c : a ∈ ks
 ·obtain ⟨j, hj⟩ := r1 c
  rw [hj, decide_eq_true c]; rfl
 ·rw [r2 c, decide_eq_false c]; rfl
theorem Hp.putLn {a : List Int} (ha : RB a) {ks : List (List Int)} (hks : ∀ b ∈ ks, RB b) (hna : a ∉ ks) {K : AV → T Blk → Pa → OP} {h0 h : T Blk} {nx : Pa} {L : List Ob} {k : Nat} {id : Pa} (H : Hp h0 h nx L) (hk : L[k]? = some (.map id (entL ks)))
  (hK : ∀ h', Hp h0 h' nx (L.set k (.map id (entL (ks ++ [a])))) → K .undef h' nx = .ok True) : xD .str (.map id) (.str (keyB (a, false))) (.bool true) h nx K = .ok True := by
 have own : T.get .no id h = .map _ _ := H.own _ (List.mem_of_getElem? hk)
 obtain ⟨_, r2⟩ := findL ha ks 0 hks
 show asMapB (T.get .no id h) _ _ = _
 rw [own]
 show (match gL .str (.str (keyB (a, false))) (entL ks) with
    | some (some (i, _)) => T.setK (β := OP) Blk.no (Blk.map (entL ks).length ((entL ks).modify i fun e => (e.1, AV.bool true))) id h fun h' => K .undef h' nx
    | some none => natK ((entL ks).length + 1) fun n => T.setK (β := OP) Blk.no (Blk.map n (entL ks ++ [(AV.str (keyB (a, false)), AV.bool true)])) id h fun h' => K .undef h' nx
    | none => Out.no 45) = _
 rw [show gL .str (.str (keyB (a, false))) (entL ks) = uX .str (.str (keyB (a, false))) (entL ks) 0 from rfl, r2 hna]
 simp only [zX, T.setK_eq]
 refine hK _ (H.upd hk (by simp [Ob.names]) rfl ?_)
 show T.get Blk.no id _ = Blk.map _ _
 rw [T.get_set_same]
 simp [entL]
theorem keeper104 {cells : Int} {lines : List (List Int)} {h0 h : T Blk} {nx p : Pa} {L : List Ob} {K : Kw Prop} (H : Hp h0 h nx L) (hn : lines.length ≤ 1000000) (hnd : lines.Nodup) (hb : ∀ l ∈ lines, RB l ∧ l.length ≤ 1000)
  (hK : ∀ gm b b1 h' nx', Hp h0 h' nx' (.arr b [.map gm] :: .map gm (entL lines) :: .arr b1 [I cells, encT lines] :: L) → K (.fn 169 (.of 169) [.ptr b 0]) h' nx' = .ok True) : (CS Tryz.prog B).fn 104 p [.agg [I cells, encT lines]] h nx K = .ok True := by
 refine jL (p := .of 104) (K := K) (zR zW dreg 10000000 fun hf => ?_) fun _ _ _ _ q => q
 rw [F104.go, F104.t20, zA, F104.t0_s]
 refine H.box (l := [I cells, encT lines]) rfl fun b1 h1 nx1 H1 => ?_
 rw [F104.t19, zA, F104.t1_s]
 refine H1.mkmap fun gm h2 nx2 H2 => ?_
 refine H2.alloc fun b3 h3 nx3 H3 => ?_
 refine H3.store (k := 0) rfl (by simp) rfl fun h4 H4 => ?_
 rw [F104.t18, zA, F104.t15, zA, F104.t2_s, sFx, H4.load (k := 2) (i := 0 + 1) rfl rfl, zG, F104.t14, yD]
 refine F104.t13_L (fun m x7 h' nx' => ∃ i : Nat, x7 = I i ∧ m = lines.length - i ∧ i ≤ lines.length ∧ Hp h0 h' nx' (.arr b3 [.map gm] :: .map gm (entL (lines.take i)) :: .arr b1 [I cells, encT lines] :: L)) (m := lines.length) (by omega) ⟨0, rfl, by omega, by omega, H4⟩ ?_
 rintro m z4 z7 z8 h5 nx5 R ⟨i, rfl, rfl, hi, H5⟩ hR
 rw [F104.t12, zA, F104.t3_s, sLss]
 by_cases hlt : i < lines.length
 case neg =>
  rw [decide_eq_false (by omega), F104.t11, zA, F104.t4, zM, F104.v8, zD, jY, uJ, F104.t17, zA, F104.t16_s]
  simp only [yL, jN]
  rw [F104.ret]
  rw [List.take_of_length_le (by omega)] at H5
  exact hK gm b3 b1 _ _ H5
 have hx : lines[i]? = some lines[i] := List.getElem?_eq_getElem hlt
 obtain ⟨hrb, hll⟩ := hb _ (List.getElem_mem hlt)
 have hnew : lines[i] ∉ lines.take i := fun q => by
  obtain ⟨j, hj⟩ := List.getElem?_of_mem q
  have hjl := (List.getElem?_eq_some_iff.1 hj).1
  rw [List.length_take] at hjl
  rw [List.getElem?_take_of_lt (by omega)] at hj
  have := List.pairwise_iff_getElem.1 hnd j i (by omega) hlt (by omega)
  rw [List.getElem?_eq_getElem (by omega)] at hj
  exact this (Option.some.inj hj)
 have hld : ∀ op : AV → OP, zF (.ptr b3 0) h5 op = op (.map gm) := fun op => H5.load (k := 0) (i := 0) rfl rfl
 have ebd : ∀ op : AV → OP, kC [.nils, .bool false] [(0, 1, encI lines[i])] op = op (.agg [encI lines[i], .bool false]) := fun op => nr rfl
 rw [decide_eq_true (by omega), F104.t11, zA, F104.t4, zM, F104.v8, zC, yG, F104.t10, zA, F104.t8, yD, F104.t7, zA, F104.t5_s, sIxL rfl hlt, ldL (getT hx), F104.t6_s, hld, ebd]
 refine vW (a := (lines[i], false)) hrb hll _ _ _ _ ?_
 rintro _ rfl _
 rw [hld, zB]
 refine H5.putLn hrb (fun b hb' => (hb b (List.mem_of_mem_take hb')).1) hnew (k := 1) rfl fun h6 H6 => ?_
 rw [F104.t9_s, sAdd (by omega)]
 refine hR (lines.length - (i + 1)) _ _ _ _ _ (by omega) ⟨i + 1, rfl, rfl, by omega, ?_⟩
 have e : lines.take (i + 1) = lines.take i ++ [lines[i]] := by rw [List.take_add_one, hx]; rfl
 rw [e]
 exact H6
end Go.Ev
namespace Go.Ev
open Go Go.Proofs
variable {B : Nat}
set_option maxRecDepth 100000
def imL (p l : List Int) : List Int := l.map fun x => p.getD x.toNat 0
theorem imL_snoc (p l : List Int) (x : Int) : imL p (l ++ [x]) = imL p l ++ [p.getD x.toNat 0] := by unfold imL; rw [List.map_append]; rfl
theorem imL_rb {p l : List Int} (hp : RB p) (hl : ∀ x ∈ l, 0 ≤ x ∧ x < (p.length : Int)) : RB (imL p l) := fun y hy => by
 obtain ⟨x, hx, rfl⟩ := List.mem_map.1 hy
 obtain ⟨h1, h2⟩ := hl x hx
 refine hp _ ?_
 show p.getD x.toNat 0 ∈ p
 rw [List.getD_eq_getElem?_getD, List.getElem?_eq_getElem (by omega)]
 exact List.getElem_mem _
theorem kept169 {p l : List Int} {lines : List (List Int)} {h0 h : T Blk} {nx p0 b gm : Pa} {L : List Ob} {K : Kw Prop} (H : Hp h0 h nx (.arr b [.map gm] :: .map gm (entL lines) :: L)) (hp : RB p) (hl : ∀ x ∈ l, 0 ≤ x ∧ x < (p.length : Int)) (hl1 : 1 ≤ l.length) (hl2 : l.length ≤ 1000) (hks : ∀ q ∈ lines, RB q)
  (hK : ∀ h' nx', Hp h0 h' nx' (.arr b [.map gm] :: .map gm (entL lines) :: L) → K (.bool (decide (srt (imL p l) ∈ lines))) h' nx' = .ok True) : (CS Tryz.prog B).fn 169 p0 [encI p, encI l, .ptr b 0] h nx K = .ok True := by
 refine jL (p := .of 169) (K := K) (zR zW dreg 10000000 fun hf => ?_) fun _ _ _ _ q => q
 rw [F169.go, F169.t22, zA, F169.t0_s, F169.t21, zA, F169.t1_s, F169.t20, zA, F169.t15, zA, F169.t2_s, zG, F169.t14, yD]
 refine F169.t13_L (fun m x4 x8 h' nx' => ∃ (i : Nat) (o : Option Pa), x8 = I i ∧ x4 = rowV o 1 i ∧ m = l.length - i ∧ i ≤ l.length ∧ Hp h0 h' nx' (.gro o 1 i ((imL p (l.take i)).map I) :: .arr b [.map gm] :: .map gm (entL lines) :: L)) (m := l.length) (by omega) ⟨0, none, rfl, rfl, by omega, by omega, H.addGro 1⟩ ?_
 rintro m z4 z5 z8 z9 h5 nx5 R ⟨i, o, rfl, rfl, rfl, hi, H5⟩ hR
 rw [F169.t12, zA, F169.t3_s, sLss]
 by_cases hlt : i < l.length
 case pos =>
  have hx : l[i]? = some l[i] := List.getElem?_eq_getElem hlt
  obtain ⟨a1, a2⟩ := hl _ (List.getElem_mem hlt)
  have hpx : p[l[i].toNat]? = some (p.getD l[i].toNat 0) := by rw [List.getD_eq_getElem?_getD, List.getElem?_eq_getElem (by omega)]; rfl
  rw [decide_eq_true (by omega), F169.t11, zA, F169.t4, zM, F169.v9, zC, yG, F169.t10, zA, F169.t8, yD, F169.t7, zA, F169.t5_s, sIxL rfl hlt, ldL (getI hx), F169.t6_s, sIxL (i := l[i].toNat) (by omega) (by omega), ldL (getI hpx)]
  refine H5.bslice (l := [I (p.getD l[i].toNat 0)]) rfl fun tb h15 nx15 H15 => ?_
  refine H15.appN (k := 1) (o := o) (c := 1) (esz := 1) (new := [I (p.getD l[i].toNat 0)]) rfl (HasArr.rd (l := [I (p.getD l[i].toNat 0)]) (n := 1) (e := 1) (H15.own _ (List.mem_cons_self ..)) rfl) rfl rfl (by decide) (by decide) (by omega) fun o'' h16 nx16 _ H16 => ?_
  rw [F169.t9_s, sAdd (by omega)]
  refine hR (l.length - (i + 1)) _ _ _ _ _ _ (by omega) ⟨i + 1, o'', rfl, rfl, rfl, by omega, ?_⟩
  have e : (imL p (l.take (i + 1))).map I = (imL p (l.take i)).map I ++ [I (p.getD l[i].toNat 0)] := by
   rw [List.take_add_one, hx]
   show (imL p (l.take i ++ [l[i]])).map I = _
   rw [imL_snoc, List.map_append]; rfl
  rw [e]
  exact H16.drop
 obtain rfl : i = l.length := by omega
 rw [List.take_of_length_le (Nat.le_refl _)] at H5
 obtain ⟨id, rfl⟩ : ∃ id, o = some id := by
  cases o with
  | some id => exact ⟨id, rfl⟩
  | none => obtain ⟨h1, h2⟩ := H5.own _ (List.mem_cons_self ..); omega
 rw [decide_eq_false (by omega), F169.t11, zA, F169.t4, zM, F169.v9, zD, jY, uJ, F169.t19, zA, F169.t16_s]
 refine sort91g H5 (k := 0) rfl (by omega) fun h6 H6 => ?_
 have hsl : (srt (imL p l)).length = l.length := by rw [(qG _).length_eq]; exact List.length_map _
 have hrb : RB (srt (imL p l)) := fun x hx => imL_rb hp hl x ((qG _).mem_iff.1 hx)
 have ebd : ∀ op : AV → OP, kC [.nils, .bool false] [(0, 1, rowV (some id) 1 l.length)] op = op (.agg [rowV (some id) 1 l.length, .bool false]) := fun op => nr rfl
 rw [F169.t18, zA, F169.t17_s, H6.load (k := 1) (i := 0) rfl rfl, ebd]
 obtain ⟨h7, hkp, H7, hfz⟩ := Hp.letGro (o := some id) (e := 1) (n := l.length) (l := (srt (imL p l)).map I) H6 fun v hv => by obtain ⟨a, _, rfl⟩ := List.mem_map.1 hv; rfl
 have hfz2 : FrzL h7 h6 [.agg [rowV (some id) 1 l.length, .bool false]] [encS (srt (imL p l), false)] := by
  have e : AV.lst 1 l.length ((srt (imL p l)).map I) = encI (srt (imL p l)) := by rw [← hsl]
  rw [e] at hfz
  exact .cons (dT hfz (zK rfl) rfl) .nil
 refine CS_let hkp hfz2 (vW (a := (srt (imL p l), false)) hrb (show (srt (imL p l)).length ≤ 1000 by omega) _ _ _ _ ?_)
 rintro _ rfl _
 have hld : ∀ op : AV → OP, zF (.ptr b 0) h7 op = op (.map gm) := fun op => H7.load (k := 0) (i := 0) rfl rfl
 rw [hld, zB, lookL hrb hks H7 (k := 1) rfl]
 simp only [yL, jN]
 rw [F169.ret]
 exact hK _ _ H7
end Go.Ev
namespace Go.Ev
theorem mF {cells : Int} : ∀ {r prev : List (List Int)}, gQ cells prev r = 0 → (∀ l ∈ r, l ≠ [] ∧ yN cells none l = 0 ∧ l ∉ prev) ∧ r.Nodup
 | [], _, _ => ⟨fun l hl => (by cases hl), .nil⟩
 | l :: r, prev, h => by
  rw [gQ] at h
  by_cases c : jO cells prev l = 0
  case neg => rw [if_pos c] at h; exact absurd h c
  rw [if_neg (fun q => q c)] at h
  obtain ⟨h1, h2⟩ := mF h
  have hl : l ≠ [] ∧ yN cells none l = 0 ∧ l ∉ prev := by
   rw [jO] at c
   by_cases c1 : l = []
   ·rw [if_pos c1] at c; cases c
   rw [if_neg c1] at c
   by_cases c2 : yN cells none l = 0
   case neg => rw [if_pos c2] at c; exact absurd c c2
   rw [if_neg (fun q => q c2)] at c
   by_cases c3 : l ∈ prev
   ·rw [if_pos c3] at c; cases c
   ·exact ⟨c1, c2, c3⟩
  refine ⟨fun q hq => ?_, List.nodup_cons.2 ⟨fun q => (h1 l q).2.2 (by simp), h2⟩⟩
  rcases List.mem_cons.1 hq with rfl | hq
  ·exact hl
  ·exact ⟨(h1 q hq).1, (h1 q hq).2.1, fun z => (h1 q hq).2.2 (by simp [z])⟩
theorem mK {cells : Int} : ∀ {l : List Int} {p : Option Int}, yN cells p l = 0 → (∀ x ∈ l, 0 ≤ x ∧ x < cells) ∧ l.Pairwise (· < ·) ∧ ∀ q, p = some q → ∀ x ∈ l, q < x
 | [], p, _ => ⟨fun x hx => (by cases hx), .nil, fun q _ x hx => (by cases hx)⟩
 | c :: l, p, h => by
  rw [yN] at h
  by_cases c1 : c < 0 ∨ cells ≤ c
  ·rw [if_pos c1] at h; cases h
  rw [if_neg c1] at h
  by_cases c2 : p.any (fun q => decide (c ≤ q)) = true
  ·rw [if_pos c2] at h; cases h
  rw [if_neg c2] at h
  obtain ⟨h1, h2, h3⟩ := mK h
  have hp : ∀ q, p = some q → q < c := fun q hq => by
   subst hq
   have : ¬ c ≤ q := fun z => c2 (decide_eq_true z)
   omega
  refine ⟨fun x hx => ?_, List.pairwise_cons.2 ⟨fun x hx => h3 c rfl x hx, h2⟩, fun q hq x hx => ?_⟩
  ·rcases List.mem_cons.1 hx with rfl | hx
   ·omega
   ·exact h1 x hx
  ·rcases List.mem_cons.1 hx with rfl | hx
   ·exact hp q hq
   ·have := hp q hq; have := h3 c rfl x hx; omega
theorem sysErr_ok {cells : Int} {lines : List (List Int)} (h : jE cells lines = 0) : 1 ≤ cells ∧ cells ≤ 256 ∧ lines.length ≤ 128 ∧ lines.Nodup ∧ ∀ l ∈ lines, l ≠ [] ∧ (∀ x ∈ l, 0 ≤ x ∧ x < cells) ∧ l.Pairwise (· < ·) := by
 rw [jE] at h
 by_cases c1 : cells < 1 ∨ 256 < cells
 ·rw [if_pos c1] at h; cases h
 rw [if_neg c1] at h
 by_cases c2 : 128 < lines.length
 ·rw [if_pos c2] at h; cases h
 rw [if_neg c2] at h
 obtain ⟨h1, h2⟩ := mF h
 refine ⟨by omega, by omega, by omega, h2, fun l hl => ?_⟩
 obtain ⟨a, b, _⟩ := h1 l hl
 obtain ⟨d, e, _⟩ := mK b
 exact ⟨a, d, e⟩
end Go.Ev
namespace Go.Ev
open Go Go.Proofs
variable {B : Nat}
set_option maxRecDepth 100000
theorem asc_len {l : List Int} {n : Int} (h : ∀ x ∈ l, 0 ≤ x ∧ x < n) (ha : l.Pairwise (· < ·)) (hn : n ≤ 256) : l.length ≤ 256 := by
 have hnd : l.Nodup := ha.imp fun h e => by omega
 have := lenG hnd (r := (List.range 256).map fun k : Nat => (k : Int)) fun x hx => by
  obtain ⟨a, b⟩ := h x hx
  exact List.mem_map.2 ⟨x.toNat, List.mem_range.2 (by omega), by omega⟩
 simpa using this
def keepB (lines : List (List Int)) (p : List Int) : Bool := lines.all fun l => decide (srt (imL p l) ∈ lines)
def kK (cells : Int) (lines : List (List Int)) (p : List Int) : Int := if jE cells lines ≠ 0 then jE cells lines else jR p cells
def keepV (cells : Int) (lines : List (List Int)) (p : List Int) : AV := if kK cells lines p ≠ 0 then .tup [.bool false, I (kK cells lines p)] else .tup [.bool (keepB lines p), I 0]
theorem keeps73 {cells : Int} {lines : List (List Int)} {p : List Int} {c : Bool} (hw : ∀ q ∈ lines, q.length ≤ 1000000) (hpl : p.length ≤ 100000) : Pure Tryz.prog B 73 [.agg [I cells, encT lines], .agg [encI p, .bool c]] (· = keepV cells lines p) := by
 refine jI fun h nx K H0 hK => zR zW dreg 10000000 fun hf' => ?_
 rw [F73.go, F73.t32, zA, F73.t0_s]
 refine H0.box (l := [I cells, encT lines]) rfl fun b2 h1 nx1 H1 => ?_
 refine H1.box (l := [encI p, .bool c]) rfl fun b3 h2 nx2 H2 => ?_
 have l1 : ∀ op : AV → OP, zJ 2 (.ptr b2 0) h2 op = op (.agg [I cells, encT lines]) := fun op => H2.loadN (k := 1) (n := 2) rfl rfl
 have l2 : ∀ op : AV → OP, zJ 2 (.ptr b3 0) h2 op = op (.agg [encI p, .bool c]) := fun op => H2.loadN (k := 0) (n := 2) rfl rfl
 have l3 : ∀ op : AV → OP, zF (.ptr b2 (0 + 0)) h2 op = op (I cells) := fun op => H2.load (k := 1) (i := 0 + 0) rfl rfl
 rw [F73.t31, zA, F73.t7, zA, F73.t1_s]
 simp only [l1, l2, sFx, l3]
 refine sys81 hw _ _ _ _ ?_
 rintro _ rfl _
 simp only [l1, l2, sFx, l3, zB]
 refine sym200 (g := p) (c := c) hpl _ _ _ _ ?_
 rintro _ rfl _
 refine H2.bslice (l := [I (jE cells lines), I (jR p cells)]) rfl fun tb h5 nx5 H5 => ?_
 refine kZ (l := [jE cells lines, jR p cells]) H5 (k := 0) rfl (fun B => dX (by simp)) (fun v hv => by rw [hv]; exact .int _ _) ?_
 rintro _ rfl
 have e1 : uC [jE cells lines, jR p cells] = kK cells lines p := by
  unfold kK
  show (if jE cells lines ≠ 0 then jE cells lines else if jR p cells ≠ 0 then jR p cells else 0) = _
  by_cases z : jE cells lines = 0 <;> by_cases z2 : jR p cells = 0 <;> simp [z, z2]
 rw [e1, F73.t6, zA, F73.t2_s, sNeq, F73.t5, zM, F73.v9]
 by_cases c1 : kK cells lines p = 0
 case neg =>
  rw [decide_eq_false c1, Bool.not_false, zC, F73.t4, zA, F73.t3_s]
  simp only [yL, jN]
  rw [F73.ret]
  exact hK _ _ _ _ _ H5 (u7 (zK rfl) (zK rfl)) (by rw [keepV, if_pos c1])
 have c0 := c1
 unfold kK at c0
 by_cases z : jE cells lines = 0
 case neg => rw [if_pos z] at c0; exact absurd c0 z
 rw [if_neg (fun q => q z)] at c0
 obtain ⟨n1, n2, n3, n4, n5⟩ := sysErr_ok z
 obtain ⟨_, s2, s3⟩ := q8 c0
 have hrb : ∀ l ∈ lines, RB l := fun l hl x hx => by have := (n5 l hl).2.1 x hx; omega
 have hpb : RB p := fun x hx => by have := s3.2 x hx; omega
 have hll : ∀ l ∈ lines, l.length ≤ 256 := fun l hl => asc_len (n5 l hl).2.1 (n5 l hl).2.2 n2
 rw [decide_eq_true c1, Bool.not_true, zD, yG, F73.t30, zA, F73.t8_s, H5.loadN (k := 2) (n := 2) rfl rfl]
 refine keeper104 H5 (by omega) n4 (fun l hl => ⟨hrb l hl, by have := hll l hl; omega⟩) fun gm b b1 h6 nx6 H6 => ?_
 rw [F73.t29, zA, F73.t26, zA, F73.t9_s, sFx, H6.load (k := 5) (i := 0 + 1) rfl rfl, zG, F73.t25, yD]
 have H7 : Hp h h6 nx6 (.arr b [.map gm] :: .map gm (entL lines) :: [.arr b1 [I cells, encT lines], .arr tb [I (jE cells lines), I (jR p cells)], .arr b3 [encI p, .bool c], .arr b2 [I cells, encT lines]]) := H6
 refine F73.t24_L (fun m x12 h' nx' => ∃ i : Nat, x12 = I i ∧ m = lines.length - i ∧ i ≤ lines.length ∧ (lines.take i).all (fun l => decide (srt (imL p l) ∈ lines)) = true ∧ Hp h h' nx' (.arr b [.map gm] :: .map gm (entL lines) :: [.arr b1 [I cells, encT lines], .arr tb [I (jE cells lines), I (jR p cells)], .arr b3 [encI p, .bool c], .arr b2 [I cells, encT lines]])) (m := lines.length) (by omega) ⟨0, rfl, by omega, by omega, by simp, H7⟩ ?_
 rintro m z4 z5 z8 z12 z13 z14 h8 nx8 R ⟨i, rfl, rfl, hi, hal, H8⟩ hR
 rw [F73.t23, zA, F73.t10_s, sLss]
 by_cases hlt : i < lines.length
 case neg =>
  rw [List.take_of_length_le (by omega)] at hal
  rw [decide_eq_false (by omega), F73.t22, zA, F73.t11, zM, F73.v13, zD, jY, uJ, F73.t28, zA, F73.t27_s]
  simp only [yL, jN]
  rw [F73.ret]
  exact hK _ _ _ _ _ H8 (u7 (zK rfl) (zK rfl)) (by rw [keepV, if_neg (fun q => q c1), keepB, hal])
 have hx : lines[i]? = some lines[i] := List.getElem?_eq_getElem hlt
 have hm := List.getElem_mem hlt
 obtain ⟨m1, m2, m3⟩ := n5 _ hm
 have hpos : 1 ≤ lines[i].length := by
  cases q : lines[i] with
  | nil => exact absurd q m1
  | cons a l => simp
 rw [decide_eq_true (by omega), F73.t22, zA, F73.t11, zM, F73.v13, zC, yG, F73.t21, zA, F73.t19, yD, F73.t18, zA, F73.t12_s, sIxL rfl hlt, ldL (getT hx), F73.t17, zA, F73.t13_s, sFx, H8.load (k := 4) (i := 0 + 0) rfl rfl]
 show (CS Tryz.prog B).fn 169 (.of 169) [encI p, encI lines[i], .ptr b 0] h8 nx8 _ = _
 refine kept169 H8 hpb (fun x hx => by have := m2 x hx; omega) hpos (by have := hll _ hm; omega) hrb fun h9 nx9 H9 => ?_
 rw [yF, F73.t16, zM, F73.v14]
 by_cases d : srt (imL p lines[i]) ∈ lines
 ·rw [decide_eq_true d, Bool.not_true, zD, yG, F73.t20_s, sAdd (by omega)]
  exact hR (lines.length - (i + 1)) _ _ _ _ _ _ _ _ (by omega) ⟨i + 1, rfl, rfl, by omega, uQ hx hal (decide_eq_true d), H9⟩
 ·rw [decide_eq_false d, Bool.not_false, zC, F73.t15, zA, F73.t14_s]
  simp only [yL, blk_rt, jN]
  rw [F73.ret]
  refine hK _ _ _ _ _ H9 (u7 (zK rfl) (zK rfl)) ?_
  have : keepB lines p = false := Bool.eq_false_iff.2 fun q => d (of_decide_eq_true (List.all_eq_true.1 q _ hm))
  rw [keepV, if_neg (fun q => q c1), this]
end Go.Ev
namespace Go.Ev
open Go Go.Proofs
variable {B : Nat}
set_option maxRecDepth 100000
theorem ins_perm (q : List Int) (i : Nat) (v : Int) : (q.take i ++ [v] ++ q.drop i).Perm (q ++ [v]) := by
 have h1 : (q.take i ++ [v] ++ q.drop i).Perm (q.take i ++ (q.drop i ++ [v])) := by
  rw [List.append_assoc]
  exact List.Perm.append_left _ List.perm_append_comm
 rw [← List.append_assoc, List.take_append_drop] at h1
 exact h1
theorem ins_sorted {q : List Int} {i : Nat} {v : Int} (hs : q.Pairwise (· ≤ ·)) (ha : (q.take i).all (fun x => decide (x < v)) = true) (hn : ∀ h : i < q.length, v ≤ q[i]) : (q.take i ++ [v] ++ q.drop i).Pairwise (· ≤ ·) := by
 have hs' := hs
 rw [← List.take_append_drop i q] at hs'
 obtain ⟨h1, h2, h3⟩ := List.pairwise_append.1 hs'
 have hlt : ∀ x ∈ q.take i, x < v := fun x hx => of_decide_eq_true (List.all_eq_true.1 ha x hx)
 have hge : ∀ x ∈ q.drop i, v ≤ x := fun x hx => by
  by_cases hi : i < q.length
  ·have hv := hn hi
   rw [List.drop_eq_getElem_cons hi] at hx h2
   rcases List.mem_cons.1 hx with rfl | hx
   ·exact hv
   ·have := (List.pairwise_cons.1 h2).1 x hx; omega
  ·rw [List.drop_of_length_le (by omega)] at hx; cases hx
 rw [List.append_assoc]
 refine List.pairwise_append.2 ⟨h1, List.pairwise_cons.2 ⟨hge, h2⟩, fun x hx y hy => ?_⟩
 have hy : y = v ∨ y ∈ q.drop i := by simpa using hy
 rcases hy with rfl | hy
 ·have := hlt x hx; omega
 ·exact h3 x hx y hy
theorem image155 {p l : List Int} (hl : ∀ x ∈ l, 0 ≤ x ∧ x < (p.length : Int)) (hl2 : l.length ≤ 1000) : Pure Tryz.prog B 155 [encI p, encI l] (· = encI (srt (imL p l))) := by
 refine jI fun h nx K H0 hK => zR zW dreg 10000000 fun hf' => ?_
 rw [F155.go, F155.t31, zA, F155.t0_s, F155.t30, zA, F155.t1_s, F155.t29, zA, F155.t26, zA, F155.t2_s, F155.t25, yD]
 refine F155.t24_L (fun m x3 x4 h' nx' => ∃ (j : Nat) (o : Option Pa) (q : List Int), x4 = I j ∧ x3 = rowV o 1 j ∧ m = l.length - j ∧ j ≤ l.length ∧ q.length = j ∧ q.Perm (imL p (l.take j)) ∧ q.Pairwise (· ≤ ·) ∧ Hp h h' nx' [.gro o 1 j (q.map I)]) (m := l.length) (by omega) ⟨0, none, [], rfl, rfl, by omega, by omega, rfl, .refl _, .nil, H0.addGro 1⟩ ?_
 rintro m z3 z4 z5 z6 z7 z8 h3 nx3 R ⟨j, o, q, rfl, rfl, rfl, hj, hql, hqp, hqs, H3⟩ hR
 rw [F155.t23, zA, F155.t5, zA, F155.t3_s, zG, sLss]
 by_cases hlt : j < l.length
 case neg =>
  obtain rfl : j = l.length := by omega
  rw [List.take_of_length_le (Nat.le_refl _)] at hqp
  rw [decide_eq_false (by omega), F155.t4, zM, F155.v7, zD, jY, uJ, F155.t28, zA, F155.t27_s, yL, jN, F155.ret]
  have e := srt_unique hqp hqs
  refine hK _ _ _ _ _ H3 (H3.frzGro (k := 0) rfl fun v hv => by obtain ⟨a, _, rfl⟩ := List.mem_map.1 hv; rfl) ?_
  rw [← e, ← hql]
 have hx : l[j]? = some l[j] := List.getElem?_eq_getElem hlt
 obtain ⟨a1, a2⟩ := hl _ (List.getElem_mem hlt)
 have hpx : p[l[j].toNat]? = some (p.getD l[j].toNat 0) := by rw [List.getD_eq_getElem?_getD, List.getElem?_eq_getElem (by omega)]; rfl
 generalize hv : p.getD l[j].toNat 0 = v at hpx
 have htk : imL p (l.take (j + 1)) = imL p (l.take j) ++ [v] := by
  rw [List.take_add_one, hx]
  show imL p (l.take j ++ [l[j]]) = _
  rw [imL_snoc, hv]
 rw [decide_eq_true (by omega), F155.t4, zM, F155.v7, zC, yG, F155.t22, zA, F155.t20, yD, F155.t19, zA, F155.t6_s, sIxL rfl hlt, ldL (getI hx), sIxL (i := l[j].toNat) (by omega) (by omega), ldL (getI hpx), F155.t18, zA, F155.t7_s, F155.t17, zA, F155.t15, yD]
 refine F155.t14_L (fun m x6 h' nx' => ∃ i : Nat, x6 = I i ∧ m = j - i ∧ i ≤ j ∧ (q.take i).all (fun x => decide (x < v)) = true ∧ Hp h h' nx' [.gro o 1 j (q.map I)]) (m := j) (by omega) ⟨0, rfl, by omega, by omega, by simp, H3⟩ ?_
 rintro m y6 y8 h5 nx5 R2 ⟨i, rfl, rfl, hi, hal, H5⟩ hR2
 have fin : (∀ z : i < q.length, v ≤ q[i]) → ∀ (O : Outs Prop) (x8 : AV), IR.run F155.t16 (CS Tryz.prog B) 10000000 O (IR.run F155.t21 (CS Tryz.prog B) 10000000 ((fnO F155.res K).blk 0 (IR.run F155.t28 (CS Tryz.prog B) 10000000 (fnO F155.res K) (retK F155.res K))) R) (F155.fr (encI p) (encI l) .nils (rowV o 1 j) (I j) (I v) (I i) (.bool true) x8) h5 nx5 = .ok True := by
  intro hn O x8
  have e1 : ∀ op : AV → OP, gG 1 (rowV o 1 j) none (some (I (i : Int))) none op = op (rowV o 1 i) := fun op => H5.groHi (k := 0) rfl hi
  have e2 : ∀ op : AV → OP, gG 1 (rowV o 1 j) (some (I (i : Int))) none none op = op (d5 o 1 j i) := fun op => H5.groLo (k := 0) rfl hi
  have f0 : (gE (repl 0 [I 0]) []).isSome = true := rfl
  have f1 : (gE (repl 1 [I 0]) [(0, 1, I v)]).isSome = true := rfl
  rw [F155.t16_s, f0, Bool.and_self, yK, e1, f1, Bool.and_self, yK, e2]
  refine H5.bslice (l := []) rfl fun e0 h6 nx6 H6 => ?_
  try simp only [e1, e2, zB]
  refine H6.app0E (by decide) (fun no K' => H6.groRdHi (k := 1) rfl hi no K') (by rw [List.length_take, List.length_map]; omega) (List.all_eq_true.2 fun w hw => by obtain ⟨a, _, rfl⟩ := List.mem_map.1 (List.mem_of_mem_take hw); rfl) (by decide) (by omega) fun w X h7 nx7 H7 hp => ?_
  try simp only [e1, e2, zB]
  refine H7.bslice (l := [I v]) rfl fun b h8 nx8 H8 => ?_
  try simp only [e1, e2, zB]
  refine hp _ _ _ _ [I v] b _ H8 rfl rfl fun id h9 nx9 H9 => ?_
  try simp only [e1, e2, zB]
  show sApp 1 8 (rowV (some id) 1 (i + 1)) (d5 o 1 j i) h9 nx9 _ = _
  refine H9.appN (k := 0) (o := some id) (n := i + 1) (c := j - i) (new := (q.map I).drop (i * 1)) rfl (fun no K' => H9.groRdLo (k := 1) rfl hi no K') (by rw [List.length_drop, List.length_map]; omega) (List.all_eq_true.2 fun w hw => by obtain ⟨a, _, rfl⟩ := List.mem_map.1 (List.mem_of_mem_drop hw); rfl) (by decide) (by decide) (by omega) fun o' h10 nx10 _ H10 => ?_
  rw [F155.t21_s, sAdd (by omega)]
  have e3 : i + 1 + (j - i) = j + 1 := by omega
  rw [e3] at H10 ⊢
  refine hR (l.length - (j + 1)) _ _ _ _ _ _ _ _ (by omega) ⟨j + 1, o', q.take i ++ [v] ++ q.drop i, rfl, rfl, rfl, by omega, ?_, ?_, ins_sorted hqs hal hn, ?_⟩
  ·simp only [List.length_append, List.length_take, List.length_drop, List.length_cons, List.length_nil]; omega
  ·rw [htk]; exact (ins_perm q i v).trans (hqp.append_right _)
  ·have e4 : (q.take i ++ [v] ++ q.drop i).map I = (q.map I).take (i * 1) ++ [I v] ++ (q.map I).drop (i * 1) := by
    rw [List.map_append, List.map_append, Nat.mul_one, List.map_take, List.map_drop]; rfl
   rw [e4]
   exact Hp.dropMid (A := []) (L := []) (Hp.pre [] (by have := H10; exact (this.perm (List.Perm.swap _ _ _)).drop))
 rw [F155.t13, zA, F155.t10, zA, F155.t8_s, F155.r6_0, F155.r6_0_g, H5.groLen (k := 0) rfl, sLss]
 by_cases hlk : i < j
 case neg =>
  simp only [show ¬ (i : Int) < (j : Int) by omega, decide_false, jJ]
  rw [F155.r6_1, F155.r6_1_g]
  simp only [jJ, zN]
  rw [F155.t9, zM, F155.v8, zD, jY, uJ]
  exact fin (fun z => absurd z (by omega)) _ _
 have hiq : i < q.length := by omega
 have hqx : (q.map I)[i]? = some (I q[i]) := getI (List.getElem?_eq_getElem hiq)
 obtain ⟨id, rfl⟩ : ∃ id, o = some id := by
  cases o with
  | some id => exact ⟨id, rfl⟩
  | none => obtain ⟨h1, h2⟩ := H5.own _ (List.mem_cons_self ..); omega
 simp only [show (i : Int) < (j : Int) by omega, decide_true, jG]
 have eix : ∀ op : AV → OP, zS 1 (rowV (some id) 1 j) (I (i : Int)) op = op (.ptr id i) := fun op => by
  show zS 1 (.sl id 0 j none 1) (I (i : Int)) op = _
  exact sIx rfl hlk
 rw [eix, F155.r6_1, F155.r6_1_g]
 simp only [jG]
 rw [H5.loadGro (k := 0) rfl hqx, sLss, zP, F155.t9, zM, F155.v8]
 by_cases c : q[i] < v
 ·rw [decide_eq_true c, zC, yG, F155.t12, yD, F155.t11_s, sAdd (by omega)]
  exact hR2 (j - (i + 1)) _ _ _ _ (by omega) ⟨i + 1, rfl, rfl, by omega, uQ (List.getElem?_eq_getElem hiq) hal (decide_eq_true c), H5⟩
 ·rw [decide_eq_false c, zD, jY, uJ]
  exact fin (fun z => by omega) _ _
end Go.Ev
namespace Go.Ev
open Go Go.Proofs
variable {B : Nat}
set_option maxRecDepth 100000
theorem any_mem {lines : List (List Int)} {s : List Int} : (lines.any fun q => decide (s = q)) = decide (s ∈ lines) := by
 rw [Bool.eq_iff_iff, List.any_eq_true, decide_eq_true_eq]
 constructor
 ·rintro ⟨q, hq, e⟩; rw [of_decide_eq_true e]; exact hq
 ·intro h; exact ⟨s, h, decide_eq_true rfl⟩
theorem any_take_snoc {lines : List (List Int)} {k : Nat} {q : List Int} {f : List Int → Bool} (h : lines[k]? = some q) : (lines.take (k + 1)).any f = ((lines.take k).any f || f q) := by
 rw [List.take_add_one, h, List.any_append]; simp
theorem keeps74 {cells : Int} {lines : List (List Int)} {p : List Int} (hn : lines.length ≤ 1000000) (hl : ∀ l ∈ lines, l.length ≤ 1000 ∧ ∀ x ∈ l, 0 ≤ x ∧ x < (p.length : Int)) : Pure Tryz.prog B 74 [.agg [I cells, encT lines], encI p] (· = .bool (keepB lines p)) := by
 refine jI fun h nx K H0 hK => zR zW dreg 10000000 fun hf' => ?_
 rw [F74.go, F74.t37, zA, F74.t0_s]
 refine H0.box (l := [I cells, encT lines]) rfl fun b2 h1 nx1 H1 => ?_
 rw [F74.t36, zA, F74.t33, zA, F74.t1_s, F74.t32, yD]
 refine F74.t31_L (fun m x4 h' nx' => ∃ i : Nat, x4 = I i ∧ m = lines.length - i ∧ i ≤ lines.length ∧ (lines.take i).all (fun l => decide (srt (imL p l) ∈ lines)) = true ∧ Hp h h' nx' [.arr b2 [I cells, encT lines]]) (m := lines.length) (by omega) ⟨0, rfl, by omega, by omega, by simp, H1⟩ ?_
 rintro m z3 z4 z5 z6 z7 z8 z9 z10 h3 nx3 R ⟨i, rfl, rfl, hi, hal, H3⟩ hR
 have l3 : ∀ op : AV → OP, zF (.ptr b2 (0 + 1)) h3 op = op (encT lines) := fun op => H3.load (k := 0) (i := 0 + 1) rfl rfl
 rw [F74.t30, zA, F74.t4, zA, F74.t2_s, sFx, l3, zG, sLss]
 by_cases hlt : i < lines.length
 case neg =>
  rw [List.take_of_length_le (by omega)] at hal
  rw [decide_eq_false (by omega), F74.t3, zM, F74.v8, zD, jY, uJ, F74.t35, zA, F74.t34_s, yL, jN, F74.ret]
  exact hK _ _ _ _ _ H3 (zK rfl) (by rw [keepB, hal])
 have hx : lines[i]? = some lines[i] := List.getElem?_eq_getElem hlt
 have hm := List.getElem_mem hlt
 obtain ⟨hl1, hl2⟩ := hl _ hm
 rw [decide_eq_true (by omega), F74.t3, zM, F74.v8, zC, yG, F74.t29, zA, F74.t27, yD, F74.t26, zA, F74.t5_s, sFx, l3, sIxL rfl hlt, ldL (getT hx)]
 refine image155 hl2 hl1 _ _ _ _ ?_
 rintro _ rfl _
 have hsl : (srt (imL p lines[i])).length ≤ 1000 := by rw [(qG _).length_eq]; unfold imL; rw [List.length_map]; exact hl1
 rw [F74.t25, zA, F74.t6_s, F74.t24, zA, F74.t18, zA, F74.t7_s, F74.t17, yD]
 refine F74.t16_L (fun m x6 x7 h' nx' => ∃ k : Nat, x7 = I k ∧ x6 = .bool ((lines.take k).any fun q => decide (srt (imL p lines[i]) = q)) ∧ m = lines.length - k ∧ k ≤ lines.length ∧ Hp h h' nx' [.arr b2 [I cells, encT lines]]) (m := lines.length) (by omega) ⟨0, rfl, rfl, by omega, by omega, H3⟩ ?_
 rintro m y6 y7 y9 h5 nx5 R2 ⟨k, rfl, rfl, rfl, hk, H5⟩ hR2
 have l5 : ∀ op : AV → OP, zF (.ptr b2 (0 + 1)) h5 op = op (encT lines) := fun op => H5.load (k := 0) (i := 0 + 1) rfl rfl
 rw [F74.t15, zA, F74.t10, zA, F74.t8_s, sFx, l5, zG, sLss]
 by_cases hlk : k < lines.length
 case neg =>
  rw [List.take_of_length_le (by omega), any_mem]
  rw [decide_eq_false (show ¬ (k : Int) < (lines.length : Int) by omega), F74.t9, zM, F74.v9, zD, jY, uJ, F74.t23, zA, F74.t19_s, yF, F74.t22, zM, F74.v10]
  by_cases d : srt (imL p lines[i]) ∈ lines
  ·rw [decide_eq_true d, Bool.not_true, zD, yG, F74.t28_s, sAdd (by omega)]
   exact hR (lines.length - (i + 1)) _ _ _ _ _ _ _ _ _ _ (by omega) ⟨i + 1, rfl, rfl, by omega, uQ hx hal (decide_eq_true d), H5⟩
  ·rw [decide_eq_false d, Bool.not_false, zC, F74.t21, zA, F74.t20_s]
   simp only [yL, blk_rt, jN]
   rw [F74.ret]
   have : keepB lines p = false := Bool.eq_false_iff.2 fun q => d (of_decide_eq_true (List.all_eq_true.1 q _ hm))
   exact hK _ _ _ _ _ H5 (zK rfl) (by rw [this])
 have hy : lines[k]? = some lines[k] := List.getElem?_eq_getElem hlk
 have hs := any_take_snoc (f := fun q => decide (srt (imL p lines[i]) = q)) hy
 rw [decide_eq_true (by omega), F74.t9, zM, F74.v9, zC, yG, F74.t14, zA, F74.t12, yD, F74.t11_s, F74.r7_0, F74.r7_0_g]
 cases c : (lines.take k).any fun q => decide (srt (imL p lines[i]) = q) with
 | true =>
  rw [c, Bool.true_or] at hs
  simp only [yX]
  rw [F74.r7_1, F74.r7_1_g]
  simp only [gW_tf]
  rw [F74.r7_2, F74.r7_2_g, zP, F74.t13_s, sAdd (by omega)]
  exact hR2 (lines.length - (k + 1)) _ _ _ _ _ (by omega) ⟨k + 1, rfl, by rw [hs], rfl, by omega, H5⟩
 | false =>
  rw [c, Bool.false_or] at hs
  simp only [yO, sFx, l5]
  rw [sIxL rfl hlk, ldL (getT hy), F74.r7_1, F74.r7_1_g]
  simp only [gW_ff]
  refine sameInts35 (by omega) _ _ _ _ ?_
  rintro _ rfl _
  rw [F74.r7_2, F74.r7_2_g, zN, F74.t13_s, sAdd (by omega)]
  exact hR2 (lines.length - (k + 1)) _ _ _ _ _ (by omega) ⟨k + 1, rfl, by rw [hs], rfl, by omega, H5⟩
end Go.Ev
namespace Go.Ev
open Go Go.Proofs
variable {B : Nat}
set_option maxRecDepth 100000
theorem longB_no {n : Nat} (h : longB n = false) : n ≤ 100000 := by
 have := of_decide_eq_false h; omega
end Go.Ev
namespace Go.Ev
open Go Go.Proofs
variable {B : Nat}
set_option maxRecDepth 100000
theorem law11 {cells : Int} {lines : List (List Int)} {p : List Int} {c : Bool} (haw : ∀ {B}, Pure Tryz.prog B 18 [] (· = .bool true)) : Pure Tryz.prog B 11 [.agg [I cells, encT lines], .agg [encI p, .bool c]] (· = .bool true) := by
 refine jI fun h nx K H0 hK => zR zW dreg 1000 fun hf => ?_
 have awk : ∀ (h : T Blk) (nx : Pa) (Z : Kw Prop), Z (.bool true) h nx = .ok True → (CS Tryz.prog B).fn 18 (.of 18) [] h nx Z = .ok True := fun h nx Z hZ => haw _ _ _ _ fun v hv _ => by rw [hv]; exact hZ
 have ret : ∀ {h1 nx1 L}, Hp h h1 nx1 L → K (.bool true) h1 nx1 = .ok True := fun H => hK _ _ _ _ _ H (zK rfl) rfl
 rw [F11.go, F11.t24, zA, F11.t0_s]
 refine H0.box (l := [I cells, encT lines]) rfl fun b2 h1 nx1 H1 => ?_
 refine H1.box (l := [encI p, .bool c]) rfl fun b3 h2 nx2 H2 => ?_
 have l1 : ∀ op : AV → OP, zJ 2 (.ptr b2 0) h2 op = op (.agg [I cells, encT lines]) := fun op => H2.loadN (k := 1) (n := 2) rfl rfl
 have l2 : ∀ op : AV → OP, zJ 2 (.ptr b3 0) h2 op = op (.agg [encI p, .bool c]) := fun op => H2.loadN (k := 0) (n := 2) rfl rfl
 have l3 : ∀ op : AV → OP, zF (.ptr b2 (0 + 0)) h2 op = op (I cells) := fun op => H2.load (k := 1) (i := 0 + 0) rfl rfl
 have l4 : ∀ op : AV → OP, zF (.ptr b3 (0 + 0)) h2 op = op (encI p) := fun op => H2.load (k := 0) (i := 0 + 0) rfl rfl
 rw [F11.t23, zA, F11.t5, zA, F11.t1_s, F11.r1_0, F11.r1_0_g]
 refine awk _ _ _ ?_
 rw [F11.r1_1, F11.r1_1_g, yF, Bool.not_true]
 simp only [yO, gW_ff, l1]
 refine short25 (by decide) _ _ _ _ ?_
 rintro _ rfl _
 rw [F11.r1_2, F11.r1_2_g]
 cases cd : decide ((lines.length : Int) ≤ 14 ∧ ∀ l ∈ lines, (l.length : Int) ≤ 20) with
 | false =>
  simp only [yO, yF, Bool.not_false, zN, yX, gW_tf]
  rw [F11.r1_3, F11.r1_3_g, zP, F11.t4, zM, F11.v8, zC, F11.t3, zA, F11.t2_s]
  refine awk _ _ _ ?_
  simp only [yL, jN]
  rw [F11.ret]
  exact ret H2
 | true =>
 have c1 := of_decide_eq_true cd
 simp only [yO, yF, Bool.not_true, zN, gW_ff, sFx, l4]
 (refine long51 _ _ _ _ ?_; rintro _ rfl _)
 rw [F11.r1_3, F11.r1_3_g, zN, F11.t4, zM, F11.v8]
 cases c2 : longB p.length with
 | true =>
  rw [zC, F11.t3, zA, F11.t2_s]
  refine awk _ _ _ ?_
  simp only [yL, jN]
  rw [F11.ret]
  exact ret H2
 | false =>
 have hpl : p.length ≤ 100000 := longB_no c2
 have hw : ∀ q ∈ lines, q.length ≤ 1000000 := fun q hq => by have := c1.2 q hq; omega
 rw [zD, yG, F11.t22, zA, F11.t6_s, l1, l2]
 refine keeps73 hw hpl _ _ _ _ ?_
 rintro _ rfl _
 obtain ⟨vb, ev, fv⟩ : ∃ vb : Bool, keepV cells lines p = .tup [.bool vb, I (kK cells lines p)] ∧ vb = (if kK cells lines p ≠ 0 then false else keepB lines p) := by
  by_cases z : kK cells lines p = 0
  ·exact ⟨_, by rw [keepV, if_neg (fun q => q z), z], by rw [if_neg (fun q => q z)]⟩
  ·exact ⟨_, by rw [keepV, if_pos z], by rw [if_pos z]⟩
 rw [ev, yP, yU, F11.t21, zA, F11.t7_s, l1]
 refine sysErr27 hw _ _ _ _ ?_
 rintro _ rfl _
 rw [F11.t20, zA, F11.t11, zA, F11.t8_s, sEql, F11.t10, zM, F11.v9]
 have rest : ∀ (x9 x10 x8 : AV), IR.run F11.t19 (CS Tryz.prog B) 1000 (fnO F11.res K) (retK F11.res K) (F11.fr (.agg [I cells, encT lines]) (.agg [encI p, .bool c]) (.ptr b2 0) (.ptr b3 0) (.bool false) (.bool vb) (I (kK cells lines p)) (I (kK cells lines p)) x8 x9 x10) h2 nx2 = .ok True := by
  intro x9 x10 x8
  rw [F11.t19, zA, F11.t16, zA, F11.t12_s, sNeq, F11.t15, zM, F11.v10]
  by_cases z : kK cells lines p = 0
  case neg =>
   rw [if_pos z] at fv
   rw [fv, decide_eq_false z, Bool.not_false, zC, F11.t14, zA, F11.t13_s, yF, Bool.not_false]
   simp only [jG, sEql, decide_true, zP]
   simp only [yL, jN]
   rw [F11.ret]
   exact ret H2
  rw [if_neg (fun q => q z)] at fv
  have z0 := z
  unfold kK at z0
  by_cases y : jE cells lines = 0
  case neg => rw [if_pos y] at z0; exact absurd z0 y
  rw [if_neg (fun q => q y)] at z0
  obtain ⟨n1, n2, n3, n4, n5⟩ := sysErr_ok y
  obtain ⟨_, s2, s3⟩ := q8 z0
  rw [fv, z, decide_eq_true rfl, Bool.not_true, zD, yG, F11.t18, zA, F11.t17_s, F11.r9_0, F11.r9_0_g, sEql, decide_eq_true rfl]
  simp only [jG, l1, sFx, l4, gW_tt]
  refine keeps74 (by omega) (fun l hl => ⟨by have := c1.2 l hl; omega, fun x hx => by have := (n5 l hl).2.1 x hx; omega⟩) _ _ _ _ ?_
  rintro _ rfl _
  rw [F11.r9_1, F11.r9_1_g]
  simp only [jG, sEqlB, beq_self_eq_true, zP]
  simp only [yL, jN]
  rw [F11.ret]
  exact ret H2
 by_cases y : jE cells lines = 0
 ·have e : kK cells lines p = jR p cells := by rw [kK, if_neg (fun q => q y)]
  rw [decide_eq_true y, zC, F11.t9_s, l2, sFx, l3]
  refine sym47x _ _ _ _ ?_
  rintro _ rfl _
  rw [← e]
  exact rest ..
 ·have e : kK cells lines p = jE cells lines := by rw [kK, if_pos y]
  rw [decide_eq_false y, zD, yG, ← e]
  exact rest ..
end Go.Ev
