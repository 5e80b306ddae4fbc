import Derived.Test.YtkjkjpmahgeneaaGreatDoorWordsa
import Derived.Test.YtkjkjpmahgeneaaGreatDoorCodea
import Derived.Test.YtkjkjpmahgeneaaGreatDoorEvD
import Derived.Test.YtkjkjpmahgeneaaGreatDoorLaws
import Derived.Shelf.SlSortCmp.Whole1
import Derived.Deep.Slices
set_option linter.unusedSimpArgs false
set_option linter.unusedVariables false
namespace Go.Ev
open Go Go.Proofs
variable {B : Nat}
set_option maxRecDepth 100000
theorem perm5 {α : Type} (a b c d e f g : α) (L : List α) : (a :: b :: c :: d :: e :: f :: g :: L).Perm (b :: c :: e :: ([a, d, f, g] ++ L)) :=
 (List.Perm.swap b a _).trans (.cons b ((List.Perm.swap c a _).trans (.cons c (((List.Perm.swap e d _).cons a).trans (List.Perm.swap e a _)))))
def subE (G S : List Sym) (n : Int) : Int := if yO G n ≠ 0 then yO G n else if yO S n ≠ 0 then yO S n else if S.all (fun a => decide (a ∈ G)) then 0 else 28
theorem mN {h0 h : T Blk} {nx p : Pa} {K : Kw Prop} {L : List Ob} {n : Int} {G S : List Sym} (hG : G.length <= 100000) (hw : ∀ g ∈ G, g.1.length <= 100000) (hS : S.length <= 100000) (hw2 : ∀ g ∈ S, g.1.length <= 100000) (H : Hp h0 h nx L)
  (hbad : ∀ e h' nx' X, e = subE G S n -> e ≠ 0 -> Hp h0 h' nx' (X ++ L) -> K (.tup [.jv, .agg [.zf, .zf], I e]) h' nx' = .ok True)
  (hok : ∀ (n' : Nat) (u1 q1 u2 q2 : List Sym) g o1 o2 h' nx' X, n = n' -> bH G n' -> bH S n' -> subE G S n = 0 -> (∀ c ∈ u1, c ∈ G) -> u1.length <= G.length -> CloS n' u1 q1 -> (∀ a, a ∈ q1 ↔ a ∈ G) -> (∀ c ∈ u2, c ∈ S) -> u2.length <= S.length -> CloS n' u2 q2 -> (∀ a, a ∈ q2 ↔ a ∈ S) -> (∀ a ∈ S, a ∈ G) ->
   Hp h0 h' nx' (.map g (qf q2) :: .gro o2 2 u2.length (yQ u2) :: .gro o1 2 u1.length (yQ u1) :: (X ++ L)) -> K (.tup [.map g, .agg [qg o1 2 u1.length, qg o2 2 u2.length], I 0]) h' nx' = .ok True) :
  (CS Tryz.prog B).fn 120 p [jd G, jd S, I n] h nx K = .ok True := by
 refine gI (p := .of 120) (K := K) (zP zS yt 10000000 fun hf => ?_) fun _ _ _ _ q => q;rw [zk.go, zk.t40, zA, zk.bM];refine H.alloc fun b4 h1 nx1 H1 => ?_;rw [zk.t39, zA, zk.bP];refine H1.alloc fun b6 h2 nx2 H2 => ?_;rw [zk.t38, zA, zk.bU];refine open167 hG hw H2 (fun h3 nx3 hg H3 => ?_) fun n' u1 q1 g1 o1 h3 nx3 hn ok1 hg1 hu1 hul1 hC1 hnd1 hq1 H3 => ?_
 ·rw [y0, jA, jT, zk.t37, zA, zk.t7, zA, zk.t3_s, qp, decide_eq_false hg, Zag, zk.t6, zI, zk.v13, zC, zk.t5, zA, zk.t4_s, H3.zi (k := 0) (n := 2) rfl rfl];refine H3.jk (k := 1) (n := 2) rfl rfl rfl fun h4 H4 => ?_;rw [zB];simp only [zQ, yK];rw [zk.ret, H4.zi (k := 1) (n := 2) rfl rfl];exact hbad _ _ _ [_, _] (by rw [subE, if_pos hg]) hg H4
 rw [y0, jA, jT, zk.t37, zA, zk.t7, zA, zk.t3_s, qp, decide_eq_true rfl, Zaf, zk.t6, zI, zk.v13, zE, zR, zk.t36, zA, zk.t8_s];refine open167 hS hw2 H3 (fun h4 nx4 hg H4 => ?_) fun n2 u2 q2 g2 o2 h4 nx4 hn2 ok2 hg2 hu2 hul2 hC2 hnd2 hq2 H4 => ?_
 ·rw [y0, jA, jT, zk.t35, zA, zk.t13, zA, zk.t9_s, qp, decide_eq_false hg, Zag, zk.t12, zI, zk.v14, zC, zk.t11, zA, zk.t10_s, H4.zi (k := 2) (n := 2) rfl rfl];refine H4.jk (k := 3) (n := 2) rfl rfl rfl fun h5 H5 => ?_;rw [zB];simp only [zQ, yK];rw [zk.ret, H5.zi (k := 3) (n := 2) rfl rfl];exact hbad _ _ _ [_, _, _, _] (by rw [subE, if_neg (by simp [hg1]), if_pos hg]) hg H5
 subst hn;obtain rfl : n' = n2 := by omega
 rw [y0, jA, jT, zk.t35, zA, zk.t13, zA, zk.t9_s, qp, decide_eq_true rfl, Zaf, zk.t12, zI, zk.v14, zE, zR, zk.t34, zA, zk.t29, zA, zk.t14_s];refine H4.range (k := 0) rfl fun it h5 nx5 H5 => ?_;have hlen : (qf q2).length = q2.length := by simp [qf]
 have hql : q2.length <= S.length := lenG hnd2 fun a ha => (hq2 a).1 ha;have hn256 : n' <= 256 := ok1.n256;have hd1 : ∀ b ∈ q1, DS n' b := fun b hb => (ok1.dp b ((hq1 b).1 hb)).1;rw [zk.t28, yD]
 refine zk.t27_L (fun m' h' nx' => ∃ seen : List Nat, (gJ q2.length seen).length = m' /\ (∀ i ∈ seen, ∀ a, q2[i]? = some a -> a ∈ G) /\
  Hp h0 h' nx' (.iter it g2 (qf q2).length seen (qf q2).length :: .map g2 (qf q2) :: .gro o2 2 u2.length (yQ u2) :: .map g1 (qf q1) :: .gro o1 2 u1.length (yQ u1) :: .arr b6 [.zf, .zf] :: .arr b4 [.zf, .zf] :: L)) (m := q2.length) (by omega)
  ⟨[], by (have e : gJ q2.length [] = List.range q2.length := List.filter_eq_self.2 (by simp)); rw [e]; simp, by simp, H5⟩ ?_
 rintro m' z3 z5 z12 z16 z17 h6 nx6 R ⟨seen, rfl, hse, H6⟩ hR;rw [zk.t26, zA, zk.t15_s];refine H6.next (k := 0) (j := 1) rfl rfl (fun hall => ?_) fun i a b h7 hi hnin hab H7 => ?_
 ·have hsub : ∀ a ∈ S, a ∈ G := fun a ha => by
   obtain ⟨i, hi⟩ := List.getElem?_of_mem ((hq2 a).2 ha);exact hse i (hall i (by rw [hlen]; exact (List.getElem?_eq_some_iff.1 hi).1)) a hi
  rw [y0, zk.t25, zA, zk.t16, zI, zk.v16, zE, gL, kP, zk.t33, zA, zk.t30_s, sAx0];refine H6.store (k := 5) rfl (by simp) (uA _ _ _) fun h7 H7 => ?_;rw [sAx1];refine H7.store (k := 5) rfl (by simp) (uA _ _ _) fun h8 H8 => ?_;rw [zk.t32, zA, zk.t31_s, H8.zi (k := 5) (n := 2) rfl rfl];refine H8.jk (k := 6) (n := 2) rfl rfl rfl fun h9 H9 => ?_;simp only [zQ, yK];rw [zk.ret, H9.zi (k := 6) (n := 2) rfl rfl];refine hok n' u1 q1 u2 q2 g2 o1 o2 _ _ [_, _, _, _] rfl ok1 ok2 (by rw [subE, if_neg (by simp [hg1]), if_neg (by simp [hg2]), if_pos (List.all_eq_true.2 fun a ha => decide_eq_true (hsub a ha))]) hu1 hul1 hC1 hq1 hu2 hul2 hC2 hq2 hsub (H9.perm (perm5 _ _ _ _ _ _ _ _))
 ·have hi' : i < q2.length := by rw [<- hlen]; exact hi
  have hx : q2[i]? = some q2[i] := List.getElem?_eq_getElem hi';have hent : (qf q2)[i]? = some (.str (cO q2[i]), encS q2[i]) := by rw [qf, List.getElem?_map, hx]; rfl
  rw [hent] at hab;cases hab
  rw [y0, zk.t25, zA, zk.t16, zI, zk.v16, zC, zR, zk.t24, yD, zk.t23, zA, zk.t17_s, H7.entry (k := 0) (j := 1) rfl rfl hent, jA];refine H7.alloc fun b5 h8 nx8 H8 => ?_;refine H8.jk (k := 0) (n := 2) rfl rfl rfl fun h9 H9 => ?_;rw [zk.t22, zA, zk.t18_s, H9.zi (k := 0) (n := 2) rfl rfl];have hd2 : DS n' q2[i] := (ok2.dp _ ((hq2 _).1 (Zak hi'))).1;refine has204 (a := q2[i]) hn256 hd2 hd1 H9 (k := 4) rfl ?_;rw [yS, zk.t21, zI, zk.v17];by_cases c : q2[i] ∈ q1
  ·rw [decide_eq_true c, Zaf, zE, zR];refine hR _ _ _ _ _ _ _ _ (show (gJ q2.length (i :: seen)).length < _ by have := leftA_step hi' hnin; omega) ⟨i :: seen, rfl, fun j hj a ha => ?_, H9.drop⟩;rcases List.mem_cons.1 hj with rfl | r
   ·rw [hx] at ha; cases ha; exact (hq1 _).1 c
   ·exact hse j r a ha
  ·rw [decide_eq_false c, Zag, zC, zk.t20, zA, zk.t19_s, H9.zi (k := 6) (n := 2) rfl rfl];refine H9.jk (k := 7) (n := 2) rfl rfl rfl fun h10 H10 => ?_;simp only [zQ, kY, yK];rw [zk.ret, H10.zi (k := 7) (n := 2) rfl rfl];refine hbad 28 _ _ [_, _, _, _, _, _, _, _] ?_ (by decide) H10;rw [subE, if_neg (by simp [hg1]), if_neg (by simp [hg2]), if_neg];intro hall;have := List.all_eq_true.1 hall q2[i] ((hq2 _).1 (Zak hi'));exact c ((hq1 _).2 (of_decide_eq_true this))
def closE (l : List Sym) (n : Int) : Int := if n < 0 \/ 256 < n then 3 else if 256 < l.length then 5 else jF n l
def ClosQ (l : List Sym) (n : Int) (v : AV) : Prop := if closE l n ≠ 0 then v = .tup [.zf, I (closE l n)] else ∃ n' : Nat, n = n' /\ n' <= 256 /\ (∀ a ∈ l, DP n' a) /\
 ((bD n' 1536 l /\ v = .tup [.zf, I 20]) \/ ∃ u q s, (∀ c ∈ u, c ∈ l) /\ (∀ a ∈ l, a ∈ q) /\ q.Nodup /\ CloS n' u q /\ q.length <= 1536 /\ s.Perm q /\ s.Pairwise (fun a b => bF a b <= 0) /\ v = .tup [jd s, I 0])
abbrev fxP (a : Sym) : AV × Sym := (encI a.1, a)
theorem fxP_snd : ∀ q : List Sym, (q.map fxP).map (·.2) = q
 | [] => rfl
 | a :: q => congrArg (a :: ·) (fxP_snd q)
theorem sort_ex (q : List Sym) : ∃ s : List Sym, s.Perm q /\ s.Pairwise (fun a b => bF a b <= 0) :=
 ⟨(srtP (q.map fxP)).map (·.2), by have := (pT (q.map fxP)).map (·.2); rw [fxP_snd] at this; exact this, List.pairwise_map.2 (srtP_srt _)⟩
theorem entP_fx (q : List Sym) : entP (q.map fxP) = qf q := by simp [entP, qf]
theorem flatP_fx : ∀ q : List Sym, jB (q.map fxP) = yQ q
 | [] => rfl
 | a :: q => by
  show encI a.1 :: .bool a.2 :: jB (q.map fxP) = _;rw [flatP_fx q]; rfl
theorem fixd_flatG {q : List Sym} : ∀ v ∈ yQ q, fB v = true := fun v hv => by
 obtain ⟨x, _, hx⟩ := List.mem_flatMap.1 hv;simp only [Zae, List.not_mem_nil, or_false] at hx;rcases hx with rfl | rfl
 ·exact u6 _
 ·rfl
theorem closure27 {l : List Sym} {n : Int} (hl : l.length <= 100000) (hw : ∀ g ∈ l, g.1.length <= 100000) : Pure Tryz.prog B 27 [jd l, I n] (ClosQ l n) := by
 refine yL fun h nx K H0 hK => zP zS yt 1000 fun hf' => ?_;rw [F27.go, F27.t27, zA, F27.bM, F27.t26, zA, F27.t7, zA, F27.bP]
 (refine cells182 n _ _ _ _ ?_; rintro _ rfl _)
 rw [zH, bQ]
 (refine kK _ _ _ _ _ _ ?_; rintro _ rfl _)
 refine H0.yj (l := [I (if n < 0 \/ 256 < n then 3 else 0), I (if decide ((256 : Int) < (l.length : Int)) = true then 5 else 0)]) rfl fun tb h1 nx1 H1 => ?_;refine wO (l := [if n < 0 \/ 256 < n then 3 else 0, if decide ((256 : Int) < (l.length : Int)) = true then 5 else 0]) H1 (k := 0) rfl (fun B => xW (by simp)) (fun v hv => by rw [hv]; exact .int _ _) ?_;rintro _ rfl;have fE : kC [if n < 0 \/ 256 < n then (3 : Int) else 0, if decide ((256 : Int) < (l.length : Int)) = true then 5 else 0] = if n < 0 \/ 256 < n then 3 else if 256 < l.length then 5 else 0 := by
  by_cases c1 : n < 0 \/ 256 < n
  ·rw [if_pos c1, if_pos c1]; rfl
  rw [if_neg c1, if_neg c1];by_cases c2 : 256 < l.length
  ·rw [decide_eq_true (show (256 : Int) < (l.length : Int) by omega), if_pos c2]; rfl
  ·rw [decide_eq_false (show ¬ (256 : Int) < (l.length : Int) by omega), if_neg c2]; rfl
 rw [fE, F27.t6, zA, F27.bU, qp, F27.t5, zI, F27.v8];have bad : ∀ (e : Int) h' nx' L', Hp h h' nx' L' -> e = closE l n -> e ≠ 0 -> K (.tup [.zf, I e]) h' nx' = .ok True := fun e h' nx' L' H' he hne =>
  hK _ _ _ _ _ H' (jJ (zG rfl) (zG rfl)) (by rw [ClosQ, <- he, if_pos hne])
 by_cases c1 : (if n < 0 \/ 256 < n then (3 : Int) else if 256 < l.length then 5 else 0) = 0
 case neg =>
  rw [decide_eq_false c1, Zag, zC, F27.t4, zA, F27.t3_s];simp only [zQ, yK];rw [F27.ret];refine bad _ _ _ _ H1 ?_ c1;rw [closE];split at c1
  ·rename_i q; rw [if_pos q, if_pos q]
  ·rename_i q; rw [if_neg q, if_neg q];split at c1
   ·rename_i q; rw [if_pos q, if_pos q]
   ·exact absurd rfl c1
 rw [decide_eq_true c1, Zaf, zE, zR, F27.t25, zA, F27.t14, zA, F27.t8_s];obtain ⟨c2, c3⟩ : ¬ (n < 0 \/ 256 < n) /\ ¬ 256 < l.length := by
  split at c1
  ·omega
  ·rename_i q;split at c1
   ·omega
   ·rename_i q2; exact ⟨q, q2⟩
 have e0 : closE l n = jF n l := by rw [closE, if_neg c2, if_neg c3]
 refine mX hl hw _ _ _ _ ?_;rintro _ rfl _;rw [F27.t13, zA, F27.t9_s, qp, F27.t12, zI, F27.v9];by_cases c4 : jF n l = 0
 case neg =>
  rw [decide_eq_false c4, Zag, zC, F27.t11, zA, F27.t10_s];simp only [zQ, yK];rw [F27.ret];exact bad _ _ _ _ H1 e0.symm c4
 rw [decide_eq_true c4, Zaf, zE, zR, F27.t24, zA, F27.t15_s];obtain ⟨n', rfl⟩ : ∃ n' : Nat, n = (n' : Int) := ⟨n.toNat, by omega⟩;have hdp : ∀ g ∈ l, DP n' g := fun g hg => by
  obtain ⟨_, q2, q3⟩ := uX (qN c4 g hg);exact DP.of q3 (by omega)
 have hn256 : n' <= 256 := by omega
 have good : ∀ {v h' nx' L' v'}, Hp h h' nx' L' -> FrzN h h' v v' -> ((bD n' 1536 l /\ v' = .tup [.zf, I 20]) \/ ∃ u q s, (∀ c ∈ u, c ∈ l) /\ (∀ a ∈ l, a ∈ q) /\ q.Nodup /\ CloS n' u q /\ q.length <= 1536 /\ s.Perm q /\ s.Pairwise (fun a b => bF a b <= 0) /\ v' = .tup [jd s, I 0]) -> K v h' nx' = .ok True := fun H' hF hq =>
  hK _ _ _ _ _ H' hF (by rw [ClosQ, e0, if_neg (by simp [c4])]; exact ⟨n', rfl, hn256, hdp, hq⟩)
 refine closure187 (n := n') (limit := 1536) hn256 (by omega) (by omega) (fun g hg => (hdp g hg).1) (by omega) H1 (fun h16 nx16 hT H16 => ?_) fun u q g o h16 nx16 hu _ hin hqn hC hql H16 => ?_
 ·rw [y0, jA, jT, F27.t23, zA, F27.t20, zA, F27.t16_s, yS, Zag, F27.t19, zI, F27.v10, zC, F27.t18, zA, F27.t17_s];simp only [zQ, yK];rw [F27.ret];exact good H16 (jJ (zG rfl) (zG rfl)) (.inl ⟨hT, rfl⟩)
 rw [y0, jA, jT, F27.t23, zA, F27.t20, zA, F27.t16_s, yS, Zaf, F27.t19, zI, F27.v10, zE, zR, F27.t22, zA, F27.t21_s];have hdq : ∀ a ∈ q, DP n' a := hC.dom (jN n') fun b hb => hdp b (hu b hb);have hone : idS n' ∈ q := hC.one;have hq0 : 0 < q.length := List.length_pos_of_mem hone;obtain ⟨s, hs1, hs2⟩ : ∃ s : List Sym, s.Perm q /\ s.Pairwise (fun a b => bF a b <= 0) := by
  exact sort_ex q
 have hsm := fxP_snd;have he : (Ob.map g (qf q)) = .map g (entP (q.map fxP)) := by rw [entP_fx]
 rw [he] at H16;refine list99P (k := 0) (q := q.map fxP) (s := s.map fxP) H16 rfl (by simpa using hq0) (by simp; omega) (fun a ha => ?_) (by rw [hsm]; exact hqn) (hs1.map _) (List.pairwise_map.2 hs2) fun o' h17 nx17 A H17 => ?_
 ·obtain ⟨b, hb, rfl⟩ := List.mem_map.1 ha;have := (hdq b hb).1.1;exact ⟨.inl rfl, by show b.1.length <= _; omega⟩
 ·simp only [zQ, yK];rw [F27.ret];rw [Zap, flatP_fx] at H17;rw [Zap];refine good H17 (jJ (H17.frzGro (k := 0) rfl fixd_flatG) (zG rfl)) (.inr ⟨u, q, s, hu, hin, hqn, hC, hql, hs1, hs2, rfl⟩)
end Go.Ev
namespace Go.Ev
theorem befS_asymm {a b : Sym} (h : befS a b = true) : befS b a = false := by
 cases c : befS b a with
 | false => rfl
 | true => have := befS_trans h c; rw [qY] at this; cases this
def jV (S : List Sym) (a : Sym) : Bool := S.all fun b => !befS (zL a b) a
def cosL (G S : List Sym) : List Sym := G.filter (jV S)
def cosU (C S : List Sym) : List Sym := C.flatMap fun a => S.map (zL a)
theorem mem_cosU {C S : List Sym} {x : Sym} : x ∈ cosU C S ↔ ∃ a ∈ C, ∃ b ∈ S, zL a b = x := by
 simp [cosU]
section
variable {G S : List Sym} {n : Nat}
theorem bH.inv2 (hS : bH S n) {b : Sym} (hb : b ∈ S) : ∃ c ∈ S, ∀ a, DP n a -> zL (zL a b) c = a := by
 obtain ⟨c, hc, e⟩ := hS.inv b hb;exact ⟨c, hc, fun a ha => by rw [(jN n).assoc a b c ha (hS.dp b hb) (hS.dp c hc), e, (jN n).er a ha]⟩
theorem coset_back (hS : bH S n) {a x b : Sym} (ha : DP n a) (hb : b ∈ S) (e : zL a b = x) : ∃ c ∈ S, zL x c = a := by
 obtain ⟨c, hc, q⟩ := hS.inv2 hb;exact ⟨c, hc, by rw [<- e]; exact q a ha⟩
theorem coset_step (hS : bH S n) {a x b c : Sym} (ha : DP n a) (hb : b ∈ S) (hc : c ∈ S) (e : zL a b = x) : zL x c = zL a (zL b c) /\ zL b c ∈ S :=
 ⟨by rw [<- e, (jN n).assoc a b c ha (hS.dp b hb) (hS.dp c hc)], hS.cl b hb c hc⟩
theorem ord_lt (hG : bH G n) {i j : Nat} {a b : Sym} (hi : G[i]? = some a) (hj : G[j]? = some b) (h : i < j) : befS a b = true := by
 obtain ⟨hi1, rfl⟩ := List.getElem?_eq_some_iff.1 hi;obtain ⟨hj1, rfl⟩ := List.getElem?_eq_some_iff.1 hj;exact List.pairwise_iff_getElem.1 (m6 hG.ord) i j hi1 hj1 h
theorem ord_idx (hG : bH G n) {i j : Nat} {a b : Sym} (hi : G[i]? = some a) (hj : G[j]? = some b) (h : befS a b = true) : i < j := by
 rcases Nat.lt_trichotomy i j with q | rfl | q
 ·exact q
 ·rw [hi] at hj; cases hj; rw [qY] at h; cases h
 ·have := ord_lt hG hj hi q;rw [befS_asymm this] at h; cases h
theorem coset_first (hG : bH G n) (hS : bH S n) (hs : ∀ a ∈ S, a ∈ G) {i : Nat} {a : Sym} (hi : G[i]? = some a) : ∃ (j : Nat) (m : Sym), j <= i /\ G[j]? = some m /\ jV S m = true /\ (∃ b ∈ S, zL a b = m) /\ ∀ k x, G[k]? = some x -> (∃ b ∈ S, zL a b = x) -> j <= k := by
  have haG := Zaa hi;have hda := hG.dp a haG;have hex : ∃ (k : Nat) (x : Sym), G[k]? = some x /\ ∃ b ∈ S, zL a b = x := ⟨i, a, hi, idS n, hS.one, (jN n).er a hda⟩;have key : ∀ N : Nat, (∃ (k : Nat) (x : Sym), k <= N /\ G[k]? = some x /\ ∃ b ∈ S, zL a b = x) -> ∃ (j : Nat) (m : Sym), G[j]? = some m /\ (∃ b ∈ S, zL a b = m) /\ ∀ (k : Nat) (x : Sym), G[k]? = some x -> (∃ b ∈ S, zL a b = x) -> j <= k := by
    intro N
    induction N with
    | zero => rintro ⟨k, x, hk, hx, hb⟩; obtain rfl : k = 0 := by omega
              exact ⟨0, x, hx, hb, fun _ _ _ _ => Nat.zero_le _⟩
    | succ N ih =>
      rintro ⟨k, x, hk, hx, hb⟩;by_cases c : ∃ (k : Nat) (x : Sym), k <= N /\ G[k]? = some x /\ ∃ b ∈ S, zL a b = x
      · exact ih c
      · have hkN : k = N + 1 := by
          rcases Nat.lt_or_ge k (N + 1) with q | q
          · exact absurd ⟨k, x, by omega, hx, hb⟩ c
          · omega
        subst hkN;refine ⟨_, x, hx, hb, fun k' x' hk' hb' => ?_⟩;rcases Nat.lt_or_ge k' (N + 1) with q | q
        · exact absurd ⟨k', x', by omega, hk', hb'⟩ c
        · exact q
  obtain ⟨k0, x0, h1, h2⟩ := hex;obtain ⟨j, m, hj, hm, hmin⟩ := key k0 ⟨k0, x0, Zai _, h1, h2⟩;refine ⟨j, m, hmin i a hi ⟨idS n, hS.one, (jN n).er a hda⟩, hj, List.all_eq_true.2 fun b hb => ?_, hm, hmin⟩;obtain ⟨c, hc, e⟩ := hm;obtain ⟨e2, hcb⟩ := coset_step hS hda hc hb e;have hin : zL m b ∈ G := hG.cl m (Zaa hj) b (hs b hb);obtain ⟨k, hk⟩ := List.getElem?_of_mem hin;have hle := hmin k _ hk ⟨_, hcb, e2.symm⟩;cases q : befS (zL m b) m with
  | false => rfl
  | true => have := ord_idx hG hk hj q; omega
theorem coset_seen (hG : bH G n) (hS : bH S n) (hs : ∀ a ∈ S, a ∈ G) {i : Nat} {a : Sym} (hi : G[i]? = some a) : a ∈ cosU ((G.take i).filter (jV S)) S ↔ jV S a = false := by
 rw [mem_cosU];have hda := hG.dp a (Zaa hi);constructor
 ·rintro ⟨m, hm, b, hb, e⟩;obtain ⟨hm1, hm2⟩ := List.mem_filter.1 hm;obtain ⟨j, hj⟩ := List.getElem?_of_mem hm1;have hjl := (List.getElem?_eq_some_iff.1 hj).1;rw [Zax] at hjl;rw [List.getElem?_take_of_lt (by omega)] at hj;have hlt := ord_lt hG hj hi (by omega);obtain ⟨c, hc, e2⟩ := coset_back hS (hG.dp m (Zaa hj)) hb e;cases q : jV S a with
  | false => rfl
  | true =>
   have := List.all_eq_true.1 q c hc;rw [e2, hlt] at this; cases this
 ·intro hl;obtain ⟨j, m, hj1, hj, hm, ⟨b, hb, e⟩, _⟩ := coset_first hG hS hs hi;have hne : j ≠ i := by
   rintro rfl;rw [hi] at hj; cases hj;rw [hm] at hl; cases hl
  refine ⟨m, List.mem_filter.2 ⟨?_, hm⟩, coset_back hS hda hb e⟩;exact Zaa (i := j) (by rw [List.getElem?_take_of_lt (by omega)]; exact hj)
theorem coset_new (hG : bH G n) (hS : bH S n) {C : List Sym} (hC : ∀ m ∈ C, m ∈ G) {a b : Sym} (ha : a ∈ G) (hb : b ∈ S) (hn : a ∉ cosU C S) : zL a b ∉ cosU C S := by
 intro h;obtain ⟨m, hm, c, hc, e⟩ := mem_cosU.1 h;obtain ⟨d, hd, q⟩ := hS.inv2 hb;have hdm := hG.dp m (hC m hm);refine hn (mem_cosU.2 ⟨m, hm, zL c d, hS.cl c hc d hd, ?_⟩);rw [<- (jN n).assoc m c d hdm (hS.dp c hc) (hS.dp d hd), e];exact q a (hG.dp a ha)
theorem coset_inj (hS : bH S n) {a b c : Sym} (ha : DP n a) (hb : b ∈ S) (hc : c ∈ S) (e : zL a b = zL a c) : b = c := (jN n).cl a b c ha (hS.dp b hb) (hS.dp c hc) e
end
end Go.Ev
namespace Go.Ev
open Go Go.Proofs
variable {B : Nat}
set_option maxRecDepth 100000
theorem clone106o {h0 h : T Blk} {nx p : Pa} {L : List Ob} {f : List Int} {K : Kw Prop} (hf : 0 < f.length) (hl : f.length <= 1000) (H : Hp h0 h nx L)
  (hK : ∀ id cap h' nx', pG f.length cap -> Hp h0 h' nx' (.arr id (f.map I) :: L) -> K (.sl id 0 f.length cap 1) h' nx' = .ok True) : (CS Tryz.prog B).fn 106 p [encI f] h nx K = .ok True := by
 refine gI (p := .of 106) (K := K) (zP zS yt 9 fun hf => ?_) fun _ _ _ _ q => q;cases f with
 | nil => simp at hf
 | cons x t =>
  rw [F106.go];have e : ∀ A C : OP, (zu .eql (.nil .sl) (encI (x :: t)) .zf fun v1 => zZ v1 A C) = C := fun A C => nr rfl;rw [e];exact H.copyArrO (new := (x :: t).map I) (c := (x :: t).length) (fun e h1 n1 H1 => rdLst 1) (by simp) (List.all_eq_true.2 fun v hv => by obtain ⟨z, _, rfl⟩ := List.mem_map.1 hv; rfl) (by decide) (by omega) hK
def RowOwn (L : List Ob) (p : AV × Sym) : Prop := ∃ rid cap, p.1 = .sl rid 0 p.2.1.length cap 1 /\ pG p.2.1.length cap /\ Ob.arr rid (p.2.1.map I) ∈ L
theorem RowOwn.mono {L L' : List Ob} {p : AV × Sym} (h : RowOwn L p) (hl : ∀ x ∈ L, x ∈ L') : RowOwn L' p := by
 obtain ⟨r, c, e, hc, m⟩ := h;exact ⟨r, c, e, hc, hl _ m⟩
theorem frzArrN {h0 h : T Blk} {nx : Pa} {L : List Ob} {id : Pa} {l : List Int} {cap : Option Nat} (H : Hp h0 h nx L) (hm : Ob.arr id (l.map I) ∈ L) (hc : pG l.length cap) : Frz False (fun _ => True) (fun _ => False) h (.sl id 0 l.length cap 1) (encI l) := by
 obtain ⟨op, t, h1, h2⟩ := H.own _ hm;rw [Zap] at h1 h2;refine .sl _ _ _ _ _ op _ t _ trivial hc h1 (by omega) (by simp) (List.all_eq_true.2 fun v hv => by obtain ⟨z, _, rfl⟩ := List.mem_map.1 hv; rfl) fun i v hi => ?_;have hil : i < l.length := by have := (List.getElem?_eq_some_iff.1 hi).1; simpa using this
 have := yC t 0 l.length i hil;rw [h2, hi] at this;rw [<- Option.some.inj this];obtain ⟨z, _, rfl⟩ := List.mem_map.1 (Zaa hi);exact .int _ _
theorem frzOwn {h0 h : T Blk} {nx : Pa} {L : List Ob} {k n : Nat} {o : Option Pa} {out : List (AV × Sym)} (H : Hp h0 h nx L) (hk : L[k]? = some (.gro o 2 n (jB out))) (hr : ∀ p ∈ out, RowOwn L p) : Frz False (fun _ => True) (fun _ => False) h (qg o 2 n) (jd (out.map (·.2))) := by
 have own := H.own _ (Zaa hk);have hlen := qH out;cases o with
 | none =>
  obtain ⟨e, rfl⟩ := own;rw [e] at hlen;obtain rfl : out = [] := Zbc (by simp at hlen; omega);exact .lnils 2
 | some id =>
  obtain ⟨t, h1, h2, h3⟩ := own;have hn : n = (out.map (·.2)).length := by rw [Zap]; omega
  subst hn;refine .sl _ _ _ _ _ true _ t _ trivial trivial h1 (by omega) (u5 _) (List.all_eq_true.2 fun v hv => fB.je (fixd_flatG v hv)) fun i v hi => ?_;have hil : i < (out.map (·.2)).length * 2 := by have := (List.getElem?_eq_some_iff.1 hi).1; rwa [u5] at this
  have := yC t 0 ((out.map (·.2)).length * 2) i hil;rw [h3, wT] at this;rw [mF, List.getElem?_map] at hi;cases hq : out[i / 2]? with
  | none => rw [hq] at hi; cases hi
  | some p =>
   rw [hq] at hi this;obtain ⟨rid, cap, e, hc, hm⟩ := hr p (Zaa hq);have hi := Option.some.inj hi;have this := Option.some.inj this;by_cases c : i % 2 = 0
   ·simp only [if_pos c] at hi this;rw [<- this, <- hi, e];exact frzArrN H hm hc
   ·simp only [if_neg c] at hi this;rw [<- this, <- hi];exact .bool _
theorem frz_tup2N {N : Pa -> Prop} {O : AV -> Prop} {A : Prop} {hh : T Blk} {a b a' b' : AV} (h1 : Frz A N O hh a a') (h2 : Frz A N O hh b b') : Frz A N O hh (.tup [a, b]) (.tup [a', b']) := by
 refine .tup _ _ rfl fun i v v' hi hi' => ?_
 match i with
 | 0 => simp at hi hi'; subst hi; subst hi'; exact h1
 | 1 => simp at hi hi'; subst hi; subst hi'; exact h2
 | i + 2 => simp at hi
theorem cosets39N {G S : List Sym} {n : Int} (hG : G.length <= 100000) (hw : ∀ g ∈ G, g.1.length <= 100000) (hS : S.length <= 100000) (hw2 : ∀ g ∈ S, g.1.length <= 100000) (hse0 : subE G S n = 0) (hn0 : 0 < n) : PureN Tryz.prog 39 [jd G, jd S, I n] (.tup [jd (cosL G S), I 0]) := by
 intro B K hK0;have hK : ∀ v h' nx' L v', Hp .e h' nx' L -> Frz False (fun _ => True) (fun _ => False) h' v v' -> v' = .tup [jd (cosL G S), I 0] -> K v h' nx' = .ok True := fun v h' nx' L v' _ hF e => hK0 _ _ _ (e ▸ hF);refine zP zS yt 10000000 fun hf' => ?_;have H0 : Hp .e .e .z [] := Hp.init hf';rw [F39.go, F39.t37, zA, F39.bM];refine H0.box (l := [jd S]) rfl fun b3 h1 nx1 H1 => ?_;rw [F39.t36, zA, F39.t7, zA, F39.bP, H1.load (k := 0) (i := 0) rfl rfl];refine mN hG hw hS hw2 H1 (fun e h2 nx2 X he hne H2 => ?_) fun n' u1 q1 u2 q2 g o1 o2 h2 nx2 X hn ok1 ok2 hse _ _ _ _ _ _ _ _ hsub H2 => ?_
 ·rw [y0, jA, jT];refine H2.alloc fun b6 h3 nx3 H3 => ?_;refine H3.jk (k := 0) (n := 2) rfl rfl rfl fun h4 H4 => ?_;rw [hse0] at he; exact absurd he hne
 subst hn;have hn256 := ok1.n256;have H2 : Hp .e h2 nx2 [.arr b3 [jd S]] := Hp.pre (_ :: _ :: _ :: X) H2;rw [y0, jA, jT];refine H2.alloc fun b6 h3 nx3 H3 => ?_;refine H3.jk (k := 0) (n := 2) rfl rfl rfl fun h4 H4 => ?_;rw [F39.t6, zA, F39.bU, qp, decide_eq_true rfl, Zaf, F39.t5, zI, F39.v12, zE, zR, F39.t35, zA, F39.t8_s];refine H4.mkmap fun gm h5 nx5 H5 => ?_;refine H5.alloc fun b7 h6 nx6 H6 => ?_;refine H6.store (k := 0) rfl (by simp) rfl fun h7 H7 => ?_;rw [F39.t34, zA, F39.t9_s];refine H7.alloc fun b8 h8 nx8 H8 => ?_;rw [F39.t33, zA, F39.t30, zA, F39.t10_s];refine mK _ _ _ _ ?_;rintro _ rfl _;rw [F39.t29, yD, F39.t28];have H9 := H8.addGro 2;have T : ∃ T : List Ob, T = [.arr b6 [qg o1 2 u1.length, qg o2 2 u2.length], .arr b3 [jd S]] := ⟨_, rfl⟩;obtain ⟨T, hT⟩ := T;have hout : ∀ i, ((G.take i).filter (jV S)).length <= G.length := fun i => by
  have := List.length_filter_le (jV S) (G.take i);rw [Zax] at this; omega
 refine rfAll H9 F39.t28_f (fun v w k => F39.t28_b k) (by omega)
  (fun i L' => ∃ (o : Option Pa) (out : List (AV × Sym)) (rows : List Ob), out.map (·.2) = (G.take i).filter (jV S) /\ (∀ p ∈ out, RowOwn rows p) /\ L' = .gro o 2 out.length (jB out) :: .arr b8 [qg o 2 out.length] :: .arr b7 [.map gm] :: .map gm (qf (cosU ((G.take i).filter (jV S)) S)) :: (T ++ rows))
  (fun _ => False) (fun _ _ => False) ⟨none, [], [], by simp, by simp, by subst hT; rfl⟩
  (fun i x Rb Rb' h10 nx10 L' M E O1 O2 hx hJ H10 hM hE hR hX => ?_) (fun h10 nx10 L' hJ H10 => ?_) (fun _ _ _ hX _ => hX.elim) (fun _ _ _ _ hX _ => hX.elim)
 case refine_2 =>
  obtain ⟨o, out, rows, ho, hr, rfl⟩ := hJ;rw [Zam (Zai _)] at H10 ho;rw [F39.t32, zA, F39.t31_s, H10.load (k := 1) (i := 0) rfl rfl];simp only [zQ, yK];rw [F39.ret];refine hK _ _ _ _ (.tup [jd (cosL G S), I 0]) H10 (frz_tup2N ?_ (.int _ _)) rfl;have := frzOwn (k := 0) H10 rfl fun p hp => (hr p hp).mono fun x hx => by simp [hx]
  rw [ho] at this;exact this
 obtain ⟨o, out, rows, ho, hr, rfl⟩ := hJ;have hol : out.length = ((G.take i).filter (jV S)).length := by rw [<- ho, Zap]
 have hxm := Zaa hx;have hdx := ok1.dp x hxm;have htake : G.take (i + 1) = G.take i ++ [x] := by rw [Zao, hx]; rfl
 have hCm : ∀ m ∈ (G.take i).filter (jV S), m ∈ G := fun m hm => List.mem_of_mem_take (List.mem_filter.1 hm).1;have hks : ∀ b ∈ cosU ((G.take i).filter (jV S)) S, DS n' b := fun b hb => by
  obtain ⟨m, hm, c, hc, rfl⟩ := mem_cosU.1 hb;exact (ok1.dp _ (ok1.cl m (hCm m hm) c (hsub c hc))).1
 rw [F39.t11_s];refine H10.alloc fun b9 h11 nx11 H11 => ?_;refine H11.jk (k := 0) (n := 2) rfl rfl rfl fun h12 H12 => ?_;refine hM _ _ _ [_] H12 fun h13 H13 => ?_;rw [F39.t27, yD, F39.t26, zA, F39.t14, zA, F39.t12_s, H13.load (k := 4) (i := 0) rfl rfl, H13.zi (k := 0) (n := 2) rfl rfl];refine has204 (a := x) hn256 hdx.1 hks H13 (k := 5) rfl ?_;rw [F39.t13, zI, F39.v16];have hseen := coset_seen ok1 ok2 hsub hx;by_cases c : x ∈ cosU ((G.take i).filter (jV S)) S
 ·rw [decide_eq_true c, zC, gL, kP];have hfl : (G.take (i + 1)).filter (jV S) = (G.take i).filter (jV S) := by
   rw [htake, List.filter_append, List.filter_cons_of_neg (by rw [hseen.1 c]; decide)]; simp
  exact hE _ _ _ [_] _ ⟨o, out, rows, by rw [hfl]; exact ho, hr, by rw [hfl]⟩ H13
 have hlx : jV S x = true := by
  cases q : jV S x with
  | true => rfl
  | false => exact absurd (hseen.2 q) c
 have hfl : (G.take (i + 1)).filter (jV S) = (G.take i).filter (jV S) ++ [x] := by
  rw [htake, List.filter_append, List.filter_cons_of_pos hlx]; rfl
 rw [decide_eq_false c, zE, zR, F39.t25, zA, F39.t23, zA, F39.t15_s];subst hT;rw [H13.load (k := 7) (i := 0) rfl rfl];refine mK _ _ _ _ ?_;rintro _ rfl _;rw [F39.t22, yD, F39.t21]
 refine rfAll H13 F39.t21_f (fun v w k => F39.t21_b k) (by omega)
  (fun k L' => L' = .arr b9 [encI x.1, .bool x.2] :: Rb' :: .gro o 2 out.length (jB out) :: .arr b8 [qg o 2 out.length] :: .arr b7 [.map gm] :: .map gm (qf (cosU ((G.take i).filter (jV S)) S ++ (S.take k).map (zL x))) :: ([.arr b6 [qg o1 2 u1.length, qg o2 2 u2.length], .arr b3 [jd S]] ++ rows))
  (fun _ => False) (fun _ _ => False) (by simp)
  (fun k y Sb Sb' h14 nx14 L' M' E' O1' O2' hy hJ H14 hM' hE' hR' hX' => ?_) (fun h14 nx14 L' hJ H14 => ?_) (fun _ _ _ hX _ => hX.elim) (fun _ _ _ _ hX _ => hX.elim)
 ·subst hJ;have hym := Zaa hy;have hdy := ok2.dp y hym;have htk : S.take (k + 1) = S.take k ++ [y] := by rw [Zao, hy]; rfl
  have hxy : DS n' (zL x y) := (ok1.dp _ (ok1.cl x hxm y (hsub y hym))).1;rw [F39.t16_s];refine H14.alloc fun b10 h15 nx15 H15 => ?_;refine H15.jk (k := 0) (n := 2) rfl rfl rfl fun h16 H16 => ?_;refine hM' _ _ _ [_] H16 fun h17 H17 => ?_;rw [F39.t20, yD, F39.t19, zA, F39.t17_s, H17.zi (k := 2) (n := 2) rfl rfl, H17.zi (k := 0) (n := 2) rfl rfl];refine pN (a := x) (b := y) (fun z hz => by rw [hdx.1.1]; exact hdy.1.2 z hz) (by rw [hdy.1.1]; omega) _ _ _ _ ?_;rintro _ rfl _;refine H17.alloc fun b11 h18 nx18 H18 => ?_;refine H18.jk (k := 0) (n := 2) rfl rfl rfl fun h19 H19 => ?_;rw [F39.t18_s, H19.load (k := 7) (i := 0) rfl rfl, H19.zi (k := 0) (n := 2) rfl rfl, H19.zi (k := 0) (n := 2) rfl rfl];refine key203 (a := zL x y) (fun z hz => by have := hxy.2 z hz; omega) (by rw [hxy.1]; omega) _ _ _ _ ?_;rintro _ rfl _;rw [H19.zi (k := 0) (n := 2) rfl rfl, zB, H19.load (k := 7) (i := 0) rfl rfl, zB];refine H19.putS (a := zL x y) hn256 hxy (fun b hb => ?_) (fun hin => ?_) (k := 8) rfl fun h20 H20 => ?_
  ·rcases List.mem_append.1 hb with q | q
   ·exact hks b q
   ·obtain ⟨z, hz, rfl⟩ := List.mem_map.1 q;exact (ok1.dp _ (ok1.cl x hxm z (hsub z (List.mem_of_mem_take hz)))).1
  ·rcases List.mem_append.1 hin with q | q
   ·exact coset_new ok1 ok2 hCm hxm hym c q
   ·obtain ⟨z, hz, e⟩ := List.mem_map.1 q;have := coset_inj ok2 hdx (List.mem_of_mem_take hz) hym e;subst this;obtain ⟨j, hj⟩ := List.getElem?_of_mem hz;have hjl := (List.getElem?_eq_some_iff.1 hj).1;rw [Zax] at hjl;rw [List.getElem?_take_of_lt (by omega)] at hj;have := ord_lt ok2 hj hy (by omega);rw [qY] at this; cases this
  ·refine hE' _ _ _ [_, _] _ ?_ H20;rw [htk, Zbo, <- Zbx]
   rfl
 ·subst hJ;rw [Zam (Zai _)] at H14;rw [F39.t24_s, H14.load (k := 3) (i := 0) rfl rfl, sFx, H14.load (k := 0) (i := 0 + 0) rfl rfl, sFx, H14.load (k := 0) (i := 0 + 1) rfl rfl];refine clone106o (f := x.1) (by rw [hdx.1.1]; omega) (by rw [hdx.1.1]; omega) H14 fun rid cap h15 nx15 hcap H15 => ?_;rw [H15.load (k := 1) (i := 0 + 1) rfl rfl, zB, sFx, zB, H15.load (k := 4) (i := 0) rfl rfl, zB, vD rfl rfl];refine H15.yj (l := [.sl rid 0 x.1.length cap 1, .bool x.2]) rfl fun tb h16 nx16 H16 => ?_;rw [H16.load (k := 5) (i := 0) rfl rfl, zB, sAppq_row];refine H16.appN (k := 4) (o := o) (c := 1) (esz := 2) (new := [.sl rid 0 x.1.length cap 1, .bool x.2]) rfl (jh.rd (l := [.sl rid 0 x.1.length cap 1, .bool x.2]) (n := 1) (e := 2) (H16.own _ (Zal ..)) rfl) rfl rfl (by decide) (by decide) (by have := hout i; omega) fun o'' h17 nx17 _ H17 => ?_;refine H17.store (k := 5) rfl (by simp) (uA _ _ _) fun h18 H18 => ?_;have hp : Hp .e h18 nx17 ([.arr tb [.sl rid 0 x.1.length cap 1, .bool x.2], .arr b9 [encI x.1, .bool x.2]] ++ Rb' :: (.gro o'' 2 (out.length + 1) (jB out ++ [.sl rid 0 x.1.length cap 1, .bool x.2]) :: .arr b8 [qg o'' 2 (out.length + 1)] :: .arr b7 [.map gm] :: .map gm (qf (cosU ((G.take i).filter (jV S)) S ++ S.map (zL x))) :: ([.arr b6 [qg o1 2 u1.length, qg o2 2 u2.length], .arr b3 [jd S]] ++ (.arr rid (x.1.map I) :: rows)))) := by
   refine H18.perm ?_;show List.Perm (_ :: _ :: _ :: _ :: _ :: _ :: _ :: _ :: _ :: _ :: rows) (_ :: _ :: _ :: _ :: _ :: _ :: _ :: _ :: _ :: _ :: rows);exact .cons _ (Zbi (l₁ := [_, _, _, _, _, _, _, _]) (a := Ob.arr rid (x.1.map I)) (l₂ := rows)).symm
  refine hE _ _ _ [_, _] _ ⟨o'', out ++ [(.sl rid 0 x.1.length cap 1, x)], .arr rid (x.1.map I) :: rows, ?_, ?_, ?_⟩ hp
  ·rw [Zbo, ho, hfl]; rfl
  ·intro p hp;rcases List.mem_append.1 hp with q | q
   ·exact (hr p q).mono fun z hz => Zan _ hz
   ·obtain rfl := List.mem_singleton.1 q;exact ⟨rid, cap, rfl, hcap, Zal ..⟩
  ·rw [hfl];have e1 : cosU ((G.take i).filter (jV S) ++ [x]) S = cosU ((G.take i).filter (jV S)) S ++ S.map (zL x) := by simp [cosU]
   have e2 : jB (out ++ [(.sl rid 0 x.1.length cap 1, x)]) = jB out ++ [.sl rid 0 x.1.length cap 1, .bool x.2] := by unfold jB; rw [List.flatMap_append]; rfl
   rw [e1, e2, Zau]
   subst_vars
   rfl
end Go.Ev
namespace Go.Ev
theorem sub_permG {α : Type} [DecidableEq α] : ∀ (l r : List α), l.Nodup -> (∀ x ∈ l, x ∈ r) -> ∃ s, r.Perm (l ++ s)
 | [], r, _, _ => ⟨r, .refl _⟩
 | a :: l, r, hn, hs => by
  obtain ⟨h1, h2⟩ := List.nodup_cons.1 hn;have ha := hs a (by simp);obtain ⟨s, hp⟩ := sub_permG l (r.erase a) h2 fun x hx => (List.mem_erase_of_ne (by rintro rfl; exact h1 hx)).2 (hs x (by simp [hx]));exact ⟨s, (List.perm_cons_erase ha).trans (.cons a hp)⟩
theorem perm_of_sub {α : Type} [DecidableEq α] {l r : List α} (h1 : l.Nodup) (h2 : ∀ x ∈ l, x ∈ r) (h3 : r.length <= l.length) : r.Perm l := by
 obtain ⟨s, hs⟩ := sub_permG l r h1 h2;have hl := hs.length_eq;obtain rfl : s = [] := Zbc (by rw [Zau] at hl; omega);simpa using hs
theorem nodup_get {α : Type} {l : List α} (h : l.Nodup) {i j : Nat} {x : α} (hi : l[i]? = some x) (hj : l[j]? = some x) : i = j := by
 obtain ⟨a1, a2⟩ := List.getElem?_eq_some_iff.1 hi;obtain ⟨b1, b2⟩ := List.getElem?_eq_some_iff.1 hj;have hp := List.pairwise_iff_getElem.1 h;rcases Nat.lt_trichotomy i j with c | c | c
 ·exact absurd (a2.trans b2.symm) (hp i j a1 b1 c)
 ·exact c
 ·exact absurd (b2.trans a2.symm) (hp j i b1 a1 c)
theorem getD_some {l : List Int} {i : Nat} (h : i < l.length) : l[i]? = some (l.getD i 0) := by
 rw [Zac, List.getElem?_eq_getElem h]; rfl
theorem bJ.surj {g : List Int} (h : bJ g) {j : Nat} (hj : j < g.length) : ∃ i, i < g.length /\ g[i]? = some (j : Int) := by
 have hp : ((List.range g.length).map fun (i : Nat) => (i : Int)).Perm g := perm_of_sub h.1 (fun x hx => by
  have := h.2 x hx;exact List.mem_map.2 ⟨x.toNat, List.mem_range.2 (by omega), by omega⟩) (by simp)
 have hm : (j : Int) ∈ g := hp.mem_iff.1 (List.mem_map.2 ⟨j, List.mem_range.2 hj, rfl⟩);obtain ⟨i, hi⟩ := List.mem_iff_getElem?.1 hm;exact ⟨i, (List.getElem?_eq_some_iff.1 hi).1, hi⟩
theorem applyP_get {n : Nat} {c : Bool} {g f : List Int} (hg : bJ g) (hgn : g.length = n) : ∀ (i k : Nat), i <= n -> k < i -> (gR n c g f i)[(g.getD k 0).toNat]? = some (xOf n c (f.getD k 0))
 | 0, k, _, h => by omega
 | i + 1, k, hi, h => by
  rw [uD];have hk := hg.2 _ (Zaa (getD_some (l := g) (i := k) (by omega)));have hi' := hg.2 _ (Zaa (getD_some (l := g) (i := i) (by omega)));by_cases e : k = i
  ·subst e;rw [List.getElem?_set, if_pos rfl, if_pos (by rw [yY]; omega)]
  ·rw [List.getElem?_set_ne, applyP_get hg hgn i k (by omega) (by omega)];intro q;have e1 : g.getD i 0 = g.getD k 0 := by omega
   have := nodup_get hg.1 (getD_some (l := g) (i := i) (by omega)) (e1 ▸ getD_some (l := g) (i := k) (by omega));omega
theorem applyS_get {c : Bool} {g f : List Int} (hg : bJ g) (hgn : g.length = f.length) {k : Nat} (h : k < f.length) : (zY c g f)[(g.getD k 0).toNat]? = some (xOf f.length c (f.getD k 0)) := applyP_get hg hgn _ k (Zai _) h
theorem j4 (c : Bool) (g f : List Int) : (zY c g f).length = f.length := yY _ _ _ _ _
theorem xOf_xOf (n : Nat) (a b : Bool) (x : Int) : xOf n a (xOf n b x) = xOf n (a != b) x := by
 cases a <;> cases b <;> simp [xOf] <;> omega
theorem DP.surj {n : Nat} {a : Sym} (ha : DP n a) {j : Nat} (hj : j < n) : ∃ i, i < n /\ a.1.getD i 0 = (j : Int) := by
 have h1 := ha.1.1;obtain ⟨i, hi, e⟩ := ha.perm.surj (show j < a.1.length by omega);exact ⟨i, by omega, by rw [Zac, e]; rfl⟩
theorem wY {n : Nat} {a : Sym} (ha : DP n a) {f : List Int} (hf : f.length = n) {k : Nat} (hk : k < n) : (zY a.2 a.1 f)[(a.1.getD k 0).toNat]? = some (xOf n a.2 (f.getD k 0)) := by
 have h1 := ha.1.1;have := applyS_get (c := a.2) ha.perm (show a.1.length = f.length by omega) (show k < f.length by omega);rw [hf] at this;exact this
theorem qZ {n : Nat} {a b : Sym} (ha : DP n a) (hb : DP n b) {f : List Int} (hf : f.length = n) : zY (zL a b).2 (zL a b).1 f = zY a.2 a.1 (zY b.2 b.1 f) := by
 have hc := (jN n).dm a b ha hb;have hl := j4 b.2 b.1 f;refine qI (n := n) (by rw [j4, hf]) (by rw [j4, j4, hf]) fun j hj => ?_;obtain ⟨i, hi, e⟩ := hc.surj hj;have g1 := wY hc hf hi;obtain ⟨_, b1, b2⟩ := hb.1.get hi;have hk : (b.1.getD i 0).toNat < n := by omega
 have g2 := wY hb hf hi;have g3 := wY ha (show (zY b.2 b.1 f).length = n by omega) hk;rw [Zac (l := zY b.2 b.1 f), g2] at g3;have e2 : a.1.getD (b.1.getD i 0).toNat 0 = (j : Int) := by
  rw [<- e, Zac (l := (zL a b).1), uI hb.1 hi]; rfl
 rw [e2, Int.toNat_natCast] at g3;rw [e, Int.toNat_natCast] at g1;rw [g1, g3]
 congr 1
 exact (xOf_xOf n a.2 b.2 _).symm
theorem apply_id {n : Nat} {f : List Int} (hf : f.length = n) : zY (idS n).2 (idS n).1 f = f := by
 have hd := (jN n).de;refine qI (n := n) (by rw [j4, hf]) hf fun j hj => ?_;have e : (idS n).1.getD j 0 = (j : Int) := by
  show ((List.range n).map fun j : Nat => (j : Int)).getD j 0 = _;rw [Zac, List.getElem?_map, List.getElem?_range hj]; rfl
 have := wY hd hf hj;rw [e, Int.toNat_natCast] at this;rw [this, Zac, List.getElem?_eq_getElem (by omega)]; rfl
theorem bH.linv {G : List Sym} {n : Nat} (h : bH G n) {a : Sym} (ha : a ∈ G) : ∃ b ∈ G, zL b a = idS n := by
 have L := jN n;obtain ⟨b, hb, e1⟩ := h.inv a ha;obtain ⟨c, hc, e2⟩ := h.inv b hb;have da := h.dp a ha;have db := h.dp b hb;have dc := h.dp c hc;have : a = c := by
  have := L.assoc a b c da db dc;rw [e1, e2, L.el c dc, L.er a da] at this;exact this.symm
 exact ⟨b, hb, by rw [this]; exact e2⟩
def idL (n : Nat) : List Int := (List.range n).map fun j : Nat => (j : Int)
theorem m7 (n : Nat) : (idL n).length = n := by simp [idL]
theorem idL_get {n i : Nat} (h : i < n) : (idL n).getD i 0 = (i : Int) := by
 rw [idL, Zac, List.getElem?_map, List.getElem?_range h]; rfl
def invS (a : Sym) : Sym := (zY false a.1 (idL a.1.length), a.2)
theorem inv_get {n : Nat} {a : Sym} (ha : DP n a) {k : Nat} (hk : k < n) : (invS a).1[(a.1.getD k 0).toNat]? = some (k : Int) := by
 have h1 := ha.1.1;have := applyS_get (c := false) ha.perm (f := idL a.1.length) (by rw [m7]) (k := k) (by rw [m7]; omega);rw [idL_get (by omega)] at this;exact this
theorem xR {n : Nat} {a : Sym} (ha : DP n a) : DP n (invS a) := by
 have h1 := ha.1.1;have hl : (invS a).1.length = n := by show (zY _ _ _).length = n; rw [j4, m7, h1]
 have hv : ∀ j, j < n -> ∃ i, i < n /\ a.1.getD i 0 = (j : Int) /\ (invS a).1[j]? = some (i : Int) := fun j hj => by
  obtain ⟨i, hi, e⟩ := ha.surj hj;have := inv_get ha hi;rw [e, Int.toNat_natCast] at this;exact ⟨i, hi, e, this⟩
 refine ⟨⟨hl, fun x hx => ?_⟩, ?_⟩
 ·obtain ⟨j, hj⟩ := List.getElem?_of_mem hx;obtain ⟨i, hi, _, e⟩ := hv j (by rw [<- hl]; exact (List.getElem?_eq_some_iff.1 hj).1);rw [hj] at e; cases e; omega
 ·rw [List.Nodup, Zbg];intro i j hi hj hij e;obtain ⟨a1, _, b1, c1⟩ := hv i (by omega);obtain ⟨a2, _, b2, c2⟩ := hv j (by omega);rw [List.getElem?_eq_getElem hi] at c1;rw [List.getElem?_eq_getElem hj] at c2;have e1 := Option.some.inj c1;have e2 := Option.some.inj c2;have : a1 = a2 := by omega
  subst this;rw [b1] at b2;omega
theorem inv_l {n : Nat} {a : Sym} (ha : DP n a) : zL (invS a) a = idS n := by
 refine Prod.ext (qI (n := n) (by show (kD _ _).length = n; rw [uJ, ha.1.1]) (by simp [idS]) fun i hi => ?_) (by show (a.2 != a.2) = false; cases a.2 <;> rfl);rw [uI ha.1 hi, Zac (l := (invS a).1), inv_get ha hi];show some (i : Int) = ((List.range n).map fun j : Nat => (j : Int))[i]?;rw [List.getElem?_map, List.getElem?_range hi]; rfl
theorem inv_r {n : Nat} {a : Sym} (ha : DP n a) : zL a (invS a) = idS n := by
 have L := jN n;have hb := xR ha;have hc := xR hb;have e1 := inv_l ha;have e2 := inv_l hb;have : a = invS (invS a) := by
  have q := L.assoc (invS (invS a)) (invS a) a hc hb ha;rw [e2, e1, L.el a ha, L.er _ hc] at q;exact q
 rw [show zL a (invS a) = zL (invS (invS a)) (invS a) by rw [<- this]];exact e2
theorem inv_uniq {n : Nat} {a b : Sym} (ha : DP n a) (hb : DP n b) (h : zL a b = idS n) : b = invS a := by
 have L := jN n;have hi := xR ha;have q := L.assoc (invS a) a b hi ha hb;rw [inv_l ha, h, L.el b hb, L.er _ hi] at q;exact q
def conj (a b : Sym) : Sym := zL (zL a b) (invS a)
theorem conj_mul {n : Nat} {a b c : Sym} (ha : DP n a) (hb : DP n b) (hc : DP n c) : conj a (zL b c) = zL (conj a b) (conj a c) := by
 have L := jN n;have hi := xR ha;have hab := L.dm a b ha hb;have hac := L.dm a c ha hc;have hci := L.dm _ _ hac hi;unfold conj;rw [L.assoc (zL a b) (invS a) (zL (zL a c) (invS a)) hab hi hci, <- L.assoc (invS a) (zL a c) (invS a) hi hac hi, <- L.assoc (invS a) a c hi ha hc, inv_l ha, L.el c hc, <- L.assoc (zL a b) c (invS a) hab hc hi, L.assoc a b c ha hb hc]
theorem conj_comp {n : Nat} {a b c : Sym} (ha : DP n a) (hb : DP n b) (hc : DP n c) : conj (zL a b) c = conj a (conj b c) := by
 have L := jN n;have hia := xR ha;have hib := xR hb;have hab := L.dm a b ha hb;have e : invS (zL a b) = zL (invS b) (invS a) := by
  refine (inv_uniq hab (L.dm _ _ hib hia) ?_).symm;rw [L.assoc a b _ ha hb (L.dm _ _ hib hia), <- L.assoc b (invS b) (invS a) hb hib hia, inv_r hb, L.el _ hia, inv_r ha]
 have hbc := L.dm b c hb hc;unfold conj;rw [e, L.assoc a b c ha hb hc, <- L.assoc (zL a (zL b c)) (invS b) (invS a) (L.dm _ _ ha hbc) hib hia, L.assoc a (zL b c) (invS b) ha hbc hib]
theorem conj_dp {n : Nat} {a b : Sym} (ha : DP n a) (hb : DP n b) : DP n (conj a b) := (jN n).dm _ _ ((jN n).dm _ _ ha hb) (xR ha)
def normB (G S : List Sym) : Bool := G.all fun a => S.all fun b => decide (conj a b ∈ S)
theorem normB_gen {G S u1 q1 u2 q2 : List Sym} {n : Nat} (hG : bH G n) (hS : bH S n) (hu1 : ∀ c ∈ u1, c ∈ G) (h1 : CloS n u1 q1) (hq1 : ∀ a, a ∈ q1 ↔ a ∈ G) (hu2 : ∀ c ∈ u2, c ∈ S) (h2 : CloS n u2 q2) (hq2 : ∀ a, a ∈ q2 ↔ a ∈ S) :
  (u1.all fun a => u2.all fun b => decide (conj a b ∈ S)) = normB G S := by
 rw [Bool.eq_iff_iff];simp only [normB, Zah, decide_eq_true_eq];have L := jN n;constructor
 ·intro h;have k1 : ∀ a ∈ u1, ∀ b ∈ S, conj a b ∈ S := fun a ha b hb => by
   have da := hG.dp a (hu1 a ha)
   have := h2.ind (fun b => DP n b /\ conj a b ∈ S) ⟨L.de, by unfold conj; rw [L.er a da, inv_r da]; exact hS.one⟩ (fun x hx c hc => by
    have dc := hS.dp c (hu2 c hc);exact ⟨L.dm _ _ dc hx.1, by rw [conj_mul da dc hx.1]; exact hS.cl _ (h a ha c hc) _ hx.2⟩) b ((hq2 b).2 hb)
   exact this.2
  intro a ha
  have := h1.ind (fun a => DP n a /\ ∀ b ∈ S, conj a b ∈ S) ⟨L.de, fun b hb => by
   have e : invS (idS n) = idS n := (inv_uniq L.de L.de (L.el _ L.de)).symm;unfold conj
   rw [e, L.er _ (L.dm _ _ L.de (hS.dp b hb)), L.el b (hS.dp b hb)]; exact hb⟩ (fun x hx c hc => by
    have dc := hG.dp c (hu1 c hc);exact ⟨L.dm _ _ dc hx.1, fun b hb => by rw [conj_comp dc hx.1 (hS.dp b hb)]; exact k1 c hc _ (hx.2 b hb)⟩) a ((hq1 a).2 ha)
  exact this.2
 ·intro h a ha b hb;exact h a (hu1 a ha) b (hu2 b hb)
end Go.Ev
namespace Go.Ev
open Go Go.Proofs
variable {B : Nat}
set_option maxRecDepth 100000
theorem inv124 {a : Sym} {n : Nat} (ha : DP n a) (hn : n <= 1000) : Pure Tryz.prog B 124 [encS a] (· = encS (invS a)) := by
 have hl := ha.1.1;refine yL fun h nx K H0 hK => zP zS yt 10000 fun hf' => ?_;rw [yh.go, yh.t20, zA, yh.bM];refine H0.box (l := [encI a.1, .bool a.2]) rfl fun b1 h1 nx1 H1 => ?_;refine H1.alloc fun b2 h2 nx2 H2 => ?_;have ld0 : ∀ {hh nn L'} (HH : Hp h hh nn (L' ++ [.arr b2 [.zf, .bool false], .arr b1 [encI a.1, .bool a.2]])) (op : AV -> OP), zF (.ptr b1 (0 + 0)) hh op = op (encI a.1) := fun {hh nn L'} HH op => HH.load (k := L'.length + 1) (i := 0) (l := [encI a.1, .bool a.2]) (by rw [List.getElem?_append_right (by omega)]; simp) rfl;have ld1 : ∀ {hh nn L'} (HH : Hp h hh nn (L' ++ [.arr b2 [.zf, .bool false], .arr b1 [encI a.1, .bool a.2]])) (op : AV -> OP), zF (.ptr b1 (0 + 1)) hh op = op (.bool a.2) := fun {hh nn L'} HH op => HH.load (k := L'.length + 1) (i := 1) (l := [encI a.1, .bool a.2]) (by rw [List.getElem?_append_right (by omega)]; simp) rfl;have mk : mkSl 8 (I (a.1.length : Int)) (I (a.1.length : Int)) = true := by
  show (Nat.ble a.1.length a.1.length && Nat.ble a.1.length 1000000 && Nat.ble (8 * a.1.length) 281474976710656) = true;rw [Zab (Zai _), Zab (by omega), Zab (by omega)]; rfl
 rw [yh.t19, zA, yh.bP];simp only [Bool.and_self, jM, sFx];rw [ld0 (L' := []) H2, zH, mk];simp only [Bool.and_self, jM];rw [ld1 (L' := []) H2];refine H2.mk1 a.1.length rfl rfl (by omega) (by decide) fun tb h3 nx3 H3 => ?_;rw [ld1 (L' := [_]) H3];simp only [zB, zH];rw [ld0 (L' := [_]) H3]
 try simp only [zB]
 rw [vD rfl rfl];refine H3.alloc fun b3 h4 nx4 H4 => ?_;rw [vD rfl rfl]
 try simp only [zB]
 rw [ld1 (L' := [_, _]) H4]
 try simp only [zB, zH]
 rw [ld0 (L' := [_, _]) H4]
 try simp only [zB]
 refine H4.jk (k := 0) (n := 2) rfl rfl rfl fun h5 H5 => ?_;rw [yh.t18, zA, yh.t15, zA, yh.bU, sFx, ld0 (L' := [_, _]) H5, zH];have e0 : List.replicate a.1.length (I 0) = (gR a.1.length false a.1 (idL a.1.length) 0).map I := by simp [gR]
 rw [e0] at H5;rw [yh.t14, yD]
 refine yh.t13_L (fun m x8 h' nx' => ∃ i : Nat, x8 = I i /\ m = a.1.length - i /\ i <= a.1.length /\ Hp h h' nx' [.arr b3 [.sl tb 0 a.1.length (some a.1.length) 1, .bool a.2], .arr tb ((gR a.1.length false a.1 (idL a.1.length) i).map I), .arr b2 [.zf, .bool false], .arr b1 [encI a.1, .bool a.2]]) (m := a.1.length) (by omega)
  ⟨0, rfl, by omega, by omega, H5⟩ ?_
 rintro m z4 z5 z8 z9 h6 nx6 R ⟨i, rfl, rfl, hi, H6⟩ hR;rw [yh.t12, zA, yh.t3_s, qi];by_cases hlt : i < a.1.length
 case neg =>
  rw [decide_eq_false (by omega), yh.t11, zA, yh.t4, zI, yh.v9, zE, gL, kP, yh.t17, zA, yh.t16_s, H6.zi (k := 0) (n := 2) rfl rfl];refine H6.jk (k := 2) (n := 2) rfl rfl rfl fun h7 H7 => ?_;simp only [zQ, yK];rw [yh.ret, H7.zi (k := 2) (n := 2) rfl rfl];obtain rfl : i = a.1.length := by omega
  have hal := yY a.1.length false a.1 (idL a.1.length) a.1.length;have e : invS a = (gR a.1.length false a.1 (idL a.1.length) a.1.length, a.2) := by
   unfold invS zY; rw [m7]
  refine hK _ _ _ _ (encS (invS a)) H7 (xT ?_ (zG rfl) rfl) rfl;rw [e];have := H7.frzArr (k := 1) (e := 1) (n := a.1.length) (cap := some a.1.length) rfl (Zai _) (by simp [hal]) fixdI;show FrzN h h7 _ (AV.lst 1 (gR _ _ _ _ _).length _);rw [hal];exact this
 rw [decide_eq_true (by omega), yh.t11, zA, yh.t4, zI, yh.v9, zC, zR];have hx : a.1[i]? = some a.1[i] := List.getElem?_eq_getElem hlt;have hgb := ha.perm.2 _ (Zak hlt);have hgd : a.1.getD i 0 = a.1[i] := by rw [Zac, hx]; rfl
 rw [yh.t10, zA, yh.t8, yD, yh.t7, zA, yh.t5_s, xg rfl hlt, ldL (bZ hx), yh.t6_s, sFx, H6.load (k := 0) (i := 0 + 0) rfl rfl, sIx (i := (a.1[i]).toNat) (by omega) (by omega)];refine H6.store (k := 1) rfl (by rw [Zap, yY]; omega) rfl fun h7 H7 => ?_;rw [yh.t9_s, ql (by omega)];refine hR _ _ _ _ _ _ _ (by omega) ⟨i + 1, rfl, rfl, by omega, H7.cast ?_⟩;rw [uD, hgd, idL_get hlt];simp [List.map_set, xOf]
def nrmV (G S : List Sym) (n : Int) : AV := if subE G S n ≠ 0 then .tup [.bool false, I (subE G S n)] else .tup [.bool (normB G S), I 0]
theorem wH {α : Type} {l : List α} {p : α -> Bool} {i : Nat} {x : α} (hx : l[i]? = some x) (h : (l.take i).all p = true) (hp : p x = true) : (l.take (i + 1)).all p = true := by
 rw [Zao, hx, List.all_append, h]; simp [hp]
theorem pL {α : Type} {l : List α} {p : α -> Bool} (h : (l.take l.length).all p = true) : l.all p = true := by rwa [Zam (Zai _)] at h
theorem isNormal40 {G S : List Sym} {n : Int} (hG : G.length <= 100000) (hw : ∀ g ∈ G, g.1.length <= 100000) (hS : S.length <= 100000) (hw2 : ∀ g ∈ S, g.1.length <= 100000) : Pure Tryz.prog B 40 [jd G, jd S, I n] (· = nrmV G S n) := by
 refine yL fun h nx K H0 hK => zP zS yt 10000000 fun hf' => ?_;rw [F40.go, F40.t43, zA, F40.bM, F40.t42, zA, F40.bP];refine mN hG hw hS hw2 H0 (fun e h2 nx2 X he hne H2 => ?_) fun n' u1 q1 u2 q2 g o1 o2 h2 nx2 X hn ok1 ok2 hse hu1 hul1 hC1 hq1 hu2 hul2 hC2 hq2 hsub H2 => ?_
 ·rw [y0, jA, jT];refine H2.alloc fun b6 h3 nx3 H3 => ?_;refine H3.jk (k := 0) (n := 2) rfl rfl rfl fun h4 H4 => ?_;rw [F40.t41, zA, F40.t6, zA, F40.bU, qp, decide_eq_false hne, Zag, F40.t5, zI, F40.v10, zC, F40.t4, zA, F40.t3_s];simp only [zQ, yK];rw [F40.ret];exact hK _ _ _ _ _ H4 (jJ (zG rfl) (zG rfl)) (by rw [nrmV, <- he, if_pos hne])
 subst hn;have hn256 := ok1.n256;have hgen := normB_gen ok1 ok2 hu1 hC1 hq1 hu2 hC2 hq2;rw [y0, jA, jT];refine H2.alloc fun b6 h3 nx3 H3 => ?_;refine H3.jk (k := 0) (n := 2) rfl rfl rfl fun h4 H4 => ?_;rw [F40.t41, zA, F40.t6, zA, F40.bU, qp, decide_eq_true rfl, Zaf, F40.t5, zI, F40.v10, zE, zR, F40.t40, zA, F40.t37, zA, F40.t7_s, sAx0, H4.load (k := 0) (i := 0) rfl rfl, H4.groLen (k := 3) rfl];have hd2 : ∀ b ∈ q2, DS n' b := fun b hb => (ok2.dp b ((hq2 b).1 hb)).1;have no : ∀ {h' nx' L'}, Hp h h' nx' L' -> (∃ a ∈ u1, ∃ b ∈ u2, conj a b ∉ S) -> K (.tup [.bool false, I 0]) h' nx' = .ok True := fun H' ⟨a, ha, b, hb, hc⟩ => by
  refine hK _ _ _ _ _ H' (jJ (zG rfl) (zG rfl)) ?_;rw [nrmV, hse, if_neg (by decide), <- hgen]
  congr 3
  refine (Bool.eq_false_iff.2 fun q => ?_).symm;have := List.all_eq_true.1 (List.all_eq_true.1 q a ha) b hb;exact hc (of_decide_eq_true this)
 rw [F40.t36, yD]
 refine F40.t35_L (fun m x13 h' nx' => ∃ i : Nat, x13 = I i /\ m = u1.length - i /\ i <= u1.length /\ (u1.take i).all (fun a => u2.all fun b => decide (conj a b ∈ S)) = true /\ Hp h h' nx' (.arr b6 [qg o1 2 u1.length, qg o2 2 u2.length] :: .map g (qf q2) :: .gro o2 2 u2.length (yQ u2) :: .gro o1 2 u1.length (yQ u1) :: (X ++ []))) (m := u1.length) (by omega)
  ⟨0, rfl, by omega, by omega, by simp, H4⟩ ?_
 rintro m z3 z4 z8 z9 z13 z14 z15 z16 z17 z18 z19 h6 nx6 R ⟨i, rfl, rfl, hi, hal, H6⟩ hR;rw [F40.t34, zA, F40.t8_s, qi];by_cases hlt : i < u1.length
 case neg =>
  rw [decide_eq_false (by omega), F40.t33, zA, F40.t9, zI, F40.v14, zE, gL, kP, F40.t39, zA, F40.t38_s];simp only [zQ, yK];rw [F40.ret];obtain rfl : i = u1.length := by omega
  exact hK _ _ _ _ _ H6 (jJ (zG rfl) (zG rfl)) (by rw [nrmV, hse, if_neg (by decide), <- hgen, pL hal])
 rw [decide_eq_true (by omega), F40.t33, zA, F40.t9, zI, F40.v14, zC, zR, F40.t32, zA, F40.t30, yD, F40.t29, zA, F40.t10_s];have hx : u1[i]? = some u1[i] := List.getElem?_eq_getElem hlt;have hxm := Zaa hx;have hdx := ok1.dp _ (hu1 _ hxm);obtain ⟨iu, ou, e1, e2⟩ := groIx2 (k := 3) H6 rfl hx;rw [e1, e2];refine H6.alloc fun b8 h7 nx7 H7 => ?_;refine H7.jk (k := 0) (n := 2) rfl rfl rfl fun h8 H8 => ?_;rw [F40.t28, zA, F40.t11_s, sAx1, H8.load (k := 1) (i := 0 + 1) rfl rfl, H8.groLen (k := 3) rfl, F40.t27, yD]
 refine F40.t26_L (fun m x17 h' nx' => ∃ k : Nat, x17 = I k /\ m = u2.length - k /\ k <= u2.length /\ (u2.take k).all (fun b => decide (conj u1[i] b ∈ S)) = true /\ Hp h h' nx' (.arr b8 [encI u1[i].1, .bool u1[i].2] :: .arr b6 [qg o1 2 u1.length, qg o2 2 u2.length] :: .map g (qf q2) :: .gro o2 2 u2.length (yQ u2) :: .gro o1 2 u1.length (yQ u1) :: (X ++ []))) (m := u2.length) (by omega)
  ⟨0, rfl, by omega, by omega, by simp, H8⟩ ?_
 rintro m y3 y4 y9 y17 y18 y19 h9 nx9 R' ⟨k, rfl, rfl, hk, hal2, H9⟩ hR';rw [F40.t25, zA, F40.t12_s, qi];by_cases hlt2 : k < u2.length
 case neg =>
  rw [decide_eq_false (by omega), F40.t24, zA, F40.t13, zI, F40.v18, zE, gL, kP, F40.t31_s, ql (by omega)];obtain rfl : k = u2.length := by omega
  exact hR _ _ _ _ _ _ _ _ _ _ _ _ _ _ (by omega) ⟨i + 1, rfl, rfl, by omega, wH hx hal (pL hal2), H9.drop⟩
 rw [decide_eq_true (by omega), F40.t24, zA, F40.t13, zI, F40.v18, zC, zR, F40.t23, zA, F40.t21, yD, F40.t20, zA, F40.t14_s];have hy : u2[k]? = some u2[k] := List.getElem?_eq_getElem hlt2;have hym := Zaa hy;have hdy := ok2.dp _ (hu2 _ hym);obtain ⟨iv, ov, e3, e4⟩ := groIx2 (k := 3) H9 rfl hy;rw [e3, e4];refine H9.alloc fun b9 h10 nx10 H10 => ?_;refine H10.jk (k := 0) (n := 2) rfl rfl rfl fun h11 H11 => ?_;rw [F40.t19, zA, F40.t15_s, H11.zi (k := 1) (n := 2) rfl rfl, H11.zi (k := 0) (n := 2) rfl rfl, H11.zi (k := 1) (n := 2) rfl rfl];refine pN (a := u1[i]) (b := u2[k]) (fun z hz => by rw [hdx.1.1]; exact hdy.1.2 z hz) (by rw [hdy.1.1]; omega) _ _ _ _ ?_;rintro _ rfl _;rw [H11.zi (k := 1) (n := 2) rfl rfl, zB, zB];refine inv124 (a := u1[i]) hdx (by omega) _ _ _ _ ?_;rintro _ rfl _;have hdi := xR hdx;have hdxy := (jN n').dm _ _ hdx hdy;rw [zB];refine pN (a := zL u1[i] u2[k]) (b := invS u1[i]) (fun z hz => by rw [hdxy.1.1]; exact hdi.1.2 z hz) (by rw [hdi.1.1]; omega) _ _ _ _ ?_;rintro _ rfl _;rw [zB];have hdc : DP n' (conj u1[i] u2[k]) := conj_dp hdx hdy;refine has204 (a := conj u1[i] u2[k]) hn256 hdc.1 hd2 H11 (k := 3) rfl ?_;rw [yS, F40.t18, zI, F40.v19];by_cases c : conj u1[i] u2[k] ∈ q2
 ·rw [decide_eq_true c, Zaf, zE, zR, F40.t22_s, ql (by omega)];exact hR' _ _ _ _ _ _ _ _ _ (by omega) ⟨k + 1, rfl, rfl, by omega, wH hy hal2 (decide_eq_true ((hq2 _).1 c)), H11.drop⟩
 ·rw [decide_eq_false c, Zag, zC, F40.t17, zA, F40.t16_s];simp only [zQ, kY, yK];rw [F40.ret];exact no H11 ⟨_, hxm, _, hym, fun q => c ((hq2 _).2 q)⟩
end Go.Ev
namespace Go.Ev
abbrev AscS (l : List Sym) : Prop := l.Pairwise fun a b => befS a b = true
theorem AscS.nd {l : List Sym} (h : AscS l) : l.Nodup := h.imp fun hab e => by rw [e, qY] at hab; cases hab
theorem asc_uniq : ∀ {a b : List Sym}, AscS a -> AscS b -> (∀ x, x ∈ a ↔ x ∈ b) -> a = b
 | [], [], _, _, _ => rfl
 | [], y :: b, _, _, h => by have := (h y).2 (by simp); cases this
 | x :: a, [], _, _, h => by have := (h x).1 (by simp); cases this
 | x :: a, y :: b, ha, hb, h => by
  have ha' := List.pairwise_cons.1 ha;have hb' := List.pairwise_cons.1 hb;have e : x = y := by
   have h1 := (h x).1 (by simp);have h2 := (h y).2 (by simp);rcases List.mem_cons.1 h1 with q | q
   ·exact q
   ·rcases List.mem_cons.1 h2 with r | r
    ·exact r.symm
    ·have h3 := hb'.1 x q;have h4 := ha'.1 y r;rw [befS_asymm h3] at h4; cases h4
  subst e
  congr 1
  refine asc_uniq ha'.2 hb'.2 fun z => ?_;have hz := h z;simp only [Zae] at hz;constructor
  ·intro q;rcases hz.1 (.inr q) with rfl | r
   ·have := ha'.1 z q; rw [qY] at this; cases this
   ·exact r
  ·intro q;rcases hz.2 (.inr q) with rfl | r
   ·have := hb'.1 z q; rw [qY] at this; cases this
   ·exact r
end Go.Ev
namespace Go.Ev
open Go Go.Proofs
theorem ordS_bef {a b : Sym} (h : a ≠ b) (h2 : bF a b <= 0) : befS a b = true := by
 rw [wP] at h2;unfold befS;by_cases c : a.1 = b.1
 ·rw [if_pos c] at h2 ⊢;have : a.2 ≠ b.2 := fun q => h (Prod.ext c q)
  revert h2 this; cases a.2 <;> cases b.2 <;> simp
 ·rw [if_neg c] at h2 ⊢;rw [u3];have := pZ c;exact decide_eq_true (by omega)
theorem asc_of_ord {s : List Sym} (hn : s.Nodup) (h : s.Pairwise fun a b => bF a b <= 0) : AscS s := (List.pairwise_and_iff.2 ⟨hn, h⟩).imp fun ⟨h1, h2⟩ => ordS_bef h1 h2
end Go.Ev
namespace Go.Ev
open Go Go.Proofs
variable {B : Nat}
set_option maxRecDepth 100000
theorem CS_args {P : Program} {f : Nat} {p : Pa} {args args' : List AV} {h : T Blk} {nx : Pa} {K : Kw Prop} (hv : ∀ (E : Env) (vs : List Value), VRL E args vs -> VRL E args' vs) (hk : (CS P B).fn f p args' h nx K = .ok True) : (CS P B).fn f p args h nx K = .ok True := by
 rw [CS_fn] at hk ⊢;exact ⟨fun E w vs H hv' => hk.1 E w vs H (hv _ _ hv'), rfl⟩
theorem VR_nil0 {E : Env} {e : Nat} {vv : Value} (h : VR E .zf vv) : VR E (.lst e 0 []) vv := by
 simp only [VR] at h ⊢;exact ⟨rfl, by simp, none, 0, h, .inl (by simp)⟩
def LG (v : AV) (l : List Sym) : Prop := (v = .zf /\ l = []) \/ (v = jd l /\ l ≠ [])
theorem LG.len {v : AV} {l : List Sym} (h : LG v l) {op : AV -> OP} : sLen v op = op (I l.length) := by
 rcases h with ⟨rfl, rfl⟩ | ⟨rfl, _⟩
 ·exact y8
 ·exact zH ..
theorem LG.frz {v : AV} {l : List Sym} (h : LG v l) {N : Pa -> Prop} {O : AV -> Prop} {hh : T Blk} : Frz True N O hh v (jd l) := by
 rcases h with ⟨rfl, rfl⟩ | ⟨rfl, _⟩
 ·exact .lnils 2
 ·exact zG (fixd_encG _)
theorem LG.call {P : Program} {f : Nat} {p : Pa} {v : AV} {rest : List AV} {l : List Sym} (h : LG v l) {hh : T Blk} {nx : Pa} {K : Kw Prop} (hk : (CS P B).fn f p (jd l :: rest) hh nx K = .ok True) : (CS P B).fn f p (v :: rest) hh nx K = .ok True := by
 rcases h with ⟨rfl, rfl⟩ | ⟨rfl, _⟩
 ·refine CS_args (fun E vs hv => ?_) hk;simp only [VRL] at hv ⊢;obtain ⟨a, m, q, r, s⟩ := hv;exact ⟨a, m, q, VR_nil0 r, s⟩
 ·exact hk
end Go.Ev
namespace Go.Ev
open Go.Proofs (ji gC kN uZ gN)
abbrev AscT (l : List (List Int)) : Prop := l.Pairwise fun a b => yU a b = true
theorem p8 (a : List Int) : yU a a = false := by rw [u3, uZ]; rfl
theorem lexLt_asy {a b : List Int} (h : yU a b = true) : yU b a = false := by
 rw [u3] at h ⊢;have := of_decide_eq_true h;have := gC a b;exact decide_eq_false (by omega)
theorem lexLt_tri {a b : List Int} (h : a ≠ b) (h2 : yU a b = false) : yU b a = true := by
 rw [u3] at h2 ⊢;have n1 := gC a b;have e : ¬ ji a b < 0 := fun q => by simp [q] at h2
 have e2 : ji a b ≠ 0 := fun q => h (kN q);exact decide_eq_true (by omega)
def mS (l : List (List Int)) (f : List Int) : List (List Int) := if f ∈ l then l else l.takeWhile (yU · f) ++ f :: l.dropWhile (yU · f)
def qO (l : List (List Int)) : List (List Int) := l.foldl mS []
theorem mem_insT1 {l : List (List Int)} {a x : List Int} : x ∈ mS l a ↔ x = a \/ x ∈ l := by
 unfold mS;split
 ·rename_i h;exact ⟨.inr, fun q => q.elim (fun e => e ▸ h) id⟩
 ·have := List.takeWhile_append_dropWhile (p := (yU · a)) (l := l)
  conv => rhs; rw [<- this]
  simp only [Zas, Zae];constructor
  ·rintro (h | h | h)
   ·exact .inr (.inl h)
   ·exact .inl h
   ·exact .inr (.inr h)
  ·rintro (h | h | h)
   ·exact .inr (.inl h)
   ·exact .inl h
   ·exact .inr (.inr h)
theorem insT1_asc {l : List (List Int)} {a : List Int} (h : AscT l) : AscT (mS l a) := by
 unfold mS;split
 ·exact h
 ·rename_i h0;have e := List.takeWhile_append_dropWhile (p := (yU · a)) (l := l);have h' := h;rw [<- e] at h';obtain ⟨h1, h2, h3⟩ := List.pairwise_append.1 h';have ht : ∀ x ∈ l.takeWhile (yU · a), yU x a = true := fun x hx => (List.all_eq_true.1 (List.all_takeWhile (p := (yU · a)) (l := l))) x hx;have hd : ∀ x ∈ l.dropWhile (yU · a), yU a x = true := by
   cases q : l.dropWhile (yU · a) with
   | nil => intro x hx; cases hx
   | cons y r =>
    have hy : yU y a = false := by
     have := List.head?_dropWhile_not (p := (yU · a)) (l := l);rw [q] at this; simpa using this
    have hym : y ∈ l := by rw [<- e, q]; simp
    have hya : yU a y = true := lexLt_tri (fun e => h0 (e ▸ hym)) hy;intro x hx;rcases List.mem_cons.1 hx with rfl | hx
    ·exact hya
    ·rw [q] at h2;exact xP hya ((List.pairwise_cons.1 h2).1 x hx)
  refine List.pairwise_append.2 ⟨h1, List.pairwise_cons.2 ⟨hd, h2⟩, fun x hx y hy => ?_⟩;rcases List.mem_cons.1 hy with rfl | hy
  ·exact ht x hx
  ·exact xP (ht x hx) (hd y hy)
theorem fold_insT (l : List (List Int)) : ∀ (acc : List (List Int)), AscT acc -> AscT (l.foldl mS acc) /\ ∀ x, x ∈ l.foldl mS acc ↔ x ∈ acc \/ x ∈ l := by
 induction l with
 | nil => intro acc h; exact ⟨h, fun x => by simp⟩
 | cons a l ih =>
  intro acc h;obtain ⟨h1, h2⟩ := ih (mS acc a) (insT1_asc h);refine ⟨h1, fun x => ?_⟩;rw [List.foldl_cons, h2, mem_insT1, Zae];constructor
  ·rintro ((q | q) | q)
   ·exact .inr (.inl q)
   ·exact .inl q
   ·exact .inr (.inr q)
  ·rintro (q | q | q)
   ·exact .inl (.inr q)
   ·exact .inl (.inl q)
   ·exact .inr q
theorem vC (l : List (List Int)) : AscT (qO l) := (fold_insT l [] .nil).1
theorem mem_sortT {l : List (List Int)} {x : List Int} : x ∈ qO l ↔ x ∈ l := by rw [qO, (fold_insT l [] .nil).2]; simp
theorem mI : ∀ {a b : List (List Int)}, AscT a -> AscT b -> (∀ x, x ∈ a ↔ x ∈ b) -> a = b
 | [], [], _, _, _ => rfl
 | [], y :: b, _, _, h => by have := (h y).2 (by simp); cases this
 | x :: a, [], _, _, h => by have := (h x).1 (by simp); cases this
 | x :: a, y :: b, ha, hb, h => by
  have ha' := List.pairwise_cons.1 ha;have hb' := List.pairwise_cons.1 hb;have e : x = y := by
   have h1 := (h x).1 (by simp);have h2 := (h y).2 (by simp);rcases List.mem_cons.1 h1 with q | q
   ·exact q
   ·rcases List.mem_cons.1 h2 with r | r
    ·exact r.symm
    ·have h3 := hb'.1 x q;have h4 := ha'.1 y r;rw [lexLt_asy h3] at h4; cases h4
  subst e
  congr 1
  refine mI ha'.2 hb'.2 fun z => ?_;have hz := h z;simp only [Zae] at hz;constructor
  ·intro q;rcases hz.1 (.inr q) with rfl | r
   ·have := ha'.1 z q; rw [p8] at this; cases this
   ·exact r
  ·intro q;rcases hz.2 (.inr q) with rfl | r
   ·have := hb'.1 z q; rw [p8] at this; cases this
   ·exact r
end Go.Ev
namespace Go.Ev
open Go Go.Proofs Go.RowKit Go.Sort
theorem HR.sortedG {P : Program} {B : Nat} {E : Env} {h : T Blk} {nx : Pa} {w : World} {α : Type} [Inhabited α] {enc : α -> Value} {av : α -> AV} (hva : ∀ x, VR E (av x) (enc x)) (hsc : ∀ x, je (av x) = true)
  (H : HR P B E h nx w) {id : Pa} {op : Bool} {m off b n k : Nat} {t : T AV} {l' : List α} {os : Array Obj} (hb : T.get .no id h = .cells op m t) (hE : E id = some (b, n)) (hm : off + l'.length <= m) :
  HR P B E (T.set .no (.cells op m (yW (l'.map av) t off)) id h) nx (grow (putRow enc (Sort.ahead w k) b off l'.toArray) os) /\ Ex E E w (grow (putRow enc (Sort.ahead w k) b off l'.toArray) os) := by
 have hid : T.get .no id h ≠ .no := by rw [hb]; intro e; cases e
 obtain ⟨b', n', o, h1, h2, h3⟩ := H.blk id hid;rw [hE] at h1; cases h1;rw [hb] at h3;obtain ⟨c, ty, fr, rfl, q1, q2, q3, q4, q5⟩ := h3;have hcs : (putCells enc off l'.toArray c).size = c.size := by simp [putCells]
 have hbr : BR P E n (.cells op m (yW (l'.map av) t off)) (.cells (putCells enc off l'.toArray c) ty fr) := by
  refine ⟨_, ty, fr, rfl, by rw [hcs]; exact q1, by rw [hcs]; exact q2, q3, q4, fun i hi => ?_⟩;rw [gU];have hic : i < c.size := by omega
  have hce : (putCells enc off l'.toArray c)[i]? = some (if off <= i /\ i < off + l'.length then enc (l'.toArray[i - off]!) else c[i]) := by
   simp [putCells, Array.getElem?_eq_getElem hic]
  rw [Zap];by_cases hr : off <= i /\ i < off + l'.length
  ·rw [if_pos hr];rw [if_pos hr] at hce;have hj : i - off < l'.length := by omega
   have e1 : (l'.map av).getD (i - off) .undef = av l'[i - off] := by
    rw [Zac, List.getElem?_map, List.getElem?_eq_getElem hj]; rfl
   have e2 : l'.toArray[i - off]! = l'[i - off] := by simp [getElem!_pos, hj]
   rw [e1];exact ⟨hsc _, _, hce, by rw [e2]; exact hva _⟩
  ·rw [if_neg hr];rw [if_neg hr] at hce;obtain ⟨r1, v, r2, r3⟩ := q5 i hi;rw [Array.getElem?_eq_getElem hic] at r2;exact ⟨r1, _, hce, by rw [Option.some.inj r2]; exact r3⟩
 have H1 := H.put hid hE hbr;have X1 : Ex E E w (w.putObj b (.cells (putCells enc off l'.toArray c) ty fr)) := Ex.put hE h2 fun L hL => by cases hL
 have hbl : b < w.heap.size := (Array.getElem?_eq_some_iff.1 h2).1;have hBel : Below (w.putObj b (.cells (putCells enc off l'.toArray c) ty fr)).heap.size (w.putObj b (.cells (putCells enc off l'.toArray c) ty fr)) (grow (putRow enc (Sort.ahead w k) b off l'.toArray) os) := by
  refine ⟨rfl, rfl, rfl, ?_, fun j hj => ?_⟩
  ·rw [World.putObj_size]; simp [grow, putRow, mapBlock, Sort.ahead]
  ·rw [World.putObj_size] at hj;have e1 : (grow (putRow enc (Sort.ahead w k) b off l'.toArray) os).heap[j]? = (w.heap.modify b (onCells (putCells enc off l'.toArray)))[j]? := by
    show (w.heap.modify b (onCells (putCells enc off l'.toArray)) ++ os)[j]? = _;rw [Array.getElem?_append_left (by simpa using hj)]
   rw [e1, Array.getElem?_modify];by_cases e : b = j
   ·subst e;rw [if_pos rfl, h2, gO _ hbl]; rfl
   ·rw [if_neg e, yJ _ (fun q => e q.symm)]
 obtain ⟨r1, r2⟩ := H1.below hBel;exact ⟨r1, X1.trans r2⟩
theorem sort91_J {B : Nat} {h : T Blk} {id : Pa} {op : Bool} {m off n : Nat} {o : Option Nat} {t : T AV} {ps qs : List (AV × List Int)} (hb : T.get .no id h = .cells op m t) (hm : off + n <= m) (hn : n <= 1000000) (hp : yI t off n = ps.map (·.1))
  (hr : ∀ p ∈ ps, RowAt h id p.1 p.2 /\ p.2.length <= 1000000) (hnd : ∀ a ∈ ps, ∀ a' ∈ ps, a.2 = a'.2 -> a = a') (hq : qs.Perm ps) (hqs : qs.Pairwise fun a b => ji a.2 b.2 <= 0) :
  JOk Tryz.prog B (fun f a h' => open Classical in if f = 200 /\ a = [.sl id off n o 1, .fn 201 (.of 201) []] /\ h' = h then some (.tup [], T.set .no (.cells op m (yW (qs.map (·.1)) t off)) id h) else none) := by
 intro E h' nx w f args vs v h2 H hv hj
 dsimp only at hj
 by_cases hc : f = 200 /\ args = [AV.sl id off n o 1, .fn 201 (.of 201) []] /\ h' = h
 case neg => rw [if_neg hc] at hj; cases hj
 rw [if_pos hc] at hj;obtain ⟨rfl, rfl, rfl⟩ := hc;simp only [Option.some.injEq, Prod.mk.injEq] at hj;obtain ⟨rfl, rfl⟩ := hj;refine ⟨_, Tryz.func200, by kernel_rfl, by kernel_rfl, fun nn => callsIn_wide.2 ?_⟩;obtain ⟨l⟩ := vs;simp only [VRL] at hv;obtain ⟨u, _, rfl, hu, u2, _, rfl, hu2, rfl⟩ := hv;simp only [VR, VRL] at hu2;obtain ⟨_, vs2, rfl, hvs2⟩ := hu2;obtain rfl : vs2 = #[] := by cases vs2; simpa using hvs2
 have hln : ps.length = n := by
  have := congrArg List.length hp;simpa using this.symm
 obtain ⟨b, bn, c, hE, rfl, hcap⟩ := hu.sl_inv;obtain ⟨b', n', ob, h1, h2, h3⟩ := H.blk id (by rw [hb]; intro e; cases e);rw [hE] at h1; cases h1;have h3' := h3;rw [hb] at h3;obtain ⟨cs, ty, fr, rfl, g1, g2, g3, g4, hc⟩ := h3
 let α := {x : (AV × List Int) × Value // RowAt h' id x.1.1 x.1.2 /\ x.1.2.length <= 1000000 /\ VR E x.1.1 x.2}
 haveI : Inhabited α := ⟨⟨((encI [], []), .slice none 0 0), .inl rfl, by simp, by simp only [VR]; exact ⟨rfl, rfl, none, 0, rfl, .inl ⟨rfl, fun _ => rfl⟩⟩⟩⟩
 let enc : α -> Value := fun x => x.1.2
 let av : α -> AV := fun x => x.1.1.1
 let cf : α -> α -> Int := fun x y => ji x.1.1.2 y.1.1.2
 have hva : ∀ x : α, VR E (av x) (enc x) := fun x => x.2.2.2;have hsc : ∀ x : α, je (av x) = true := fun x => x.2.1.je;have hone : OneCell enc := fun x => by
  obtain ⟨p, c, e, _⟩ := x.2.1.cells H x.2.2.2;show (x.1.2).oneCell' = true;rw [e]; rfl
 have hO : SWO (ltOf cf) := {
  irrefl := fun x => by show decide (ji _ _ < 0) = false; rw [uZ]; rfl
  trans := fun x y z p q => by
   have p := of_decide_eq_true p;have q := of_decide_eq_true q;exact decide_eq_true (gN p q)
  ntrans := fun x y z p q => by
   have p := of_decide_eq_false p;have q := of_decide_eq_false q;exact decide_eq_false (Int.not_lt.2 (ordL_ge_trans (Int.not_lt.1 p) (Int.not_lt.1 q))) }
 have each : ∀ j, j < n -> ∃ x : α, ps[j]? = some x.1.1 /\ w.cell? ⟨b, off + j, none⟩ = some (enc x) /\ w.frozen? ⟨b, off + j, none⟩ = false := by
  intro j hj;have hjp : j < ps.length := by omega
  obtain ⟨_, v', k1, k2⟩ := hc (off + j) (by omega);have he : T.get .undef (.of (off + j)) t = ps[j].1 := by
   have e1 := yC t off n j hj;rw [hp, List.getElem?_map, List.getElem?_eq_getElem hjp] at e1;exact (Option.some.inj e1).symm
  rw [he] at k2;obtain ⟨r1, r2⟩ := hr _ (Zak hjp);refine ⟨⟨(ps[j], v'), r1, r2, k2⟩, List.getElem?_eq_getElem hjp, by simp [World.cell?, h2, k1, enc], ?_⟩;have := g1 (off + j) (Array.getElem?_eq_some_iff.1 k1).1;simp only [World.frozen?, h2];obtain ⟨lo, hi⟩ := fr;simp only [Bool.and_eq_false_iff, decide_eq_false_iff_not];simp only at this;omega
 obtain ⟨D, hD⟩ := Go.Deep.choose_lt each;have hsz : ((List.range n).map D).toArray.size = n := by simp
 have hget : ∀ j, j < n -> ((List.range n).map D).toArray[j]! = D j := fun j hj => by simp [getElem!_pos, hj]
 have hH : Holds enc w b off ((List.range n).map D).toArray := by
  intro j hj;rw [hsz] at hj;rw [hget j hj];exact (hD j hj).2
 have hcmp : CmpLays1 Tryz.prog 201 #[] enc cf b off ((List.range n).map D).toArray.size w := by
  intro k os dk hs x y;rw [hsz] at hs;obtain ⟨H', _⟩ := H.sortedG (k := k) (os := os) (l' := dk.toList) hva hsc hb hE (by rw [show dk.toList.length = n from Array.length_toList.trans hs]; exact hm);obtain ⟨p1, c1, e1, m1⟩ := (x.2.1.set (b := .cells op m (yW (dk.toList.map av) t off))).cells H' x.2.2.2;obtain ⟨p2, c2, e2, m2⟩ := (y.2.1.set (b := .cells op m (yW (dk.toList.map av) t off))).cells H' y.2.2.2;have := compare92W p1 p2 _ c1 _ c2 x.1.1.2 y.1.1.2 (sortWorld enc w b off k dk os) rfl rfl x.2.2.1 y.2.2.1 m1 m2;show Go.Calls Tryz.prog 201 #[x.1.2, y.1.2] _ _;rw [e1, e2];exact this.mono fun e w' ⟨he, q, hq⟩ => ⟨he, q, #[], by rw [hq, grow_empty]⟩
 have key := Any.slices_SortFunc Tryz.sortF enc hone cf hO 201 #[] b off c ((List.range n).map D).toArray w (enters_of Tryz.func201 (by kernel_rfl) rfl) hcmp hH (H.lt _ _ _ hE).2 (by rw [hsz]; omega);rw [hsz] at key;refine key.mono ?_;rintro e w' ⟨rfl, d', k, os, hP, hS, rfl⟩;obtain ⟨hd1, _, hperm⟩ := hP;rw [hsz] at hd1;have e1 : d'.extract 0 n = d' := by rw [<- hd1]; exact Array.extract_size
 have e2 : ((List.range n).map D).toArray.extract 0 n = ((List.range n).map D).toArray := by
  have := @Array.extract_size _ ((List.range n).map D).toArray
  rwa [hsz] at this
 rw [e1, e2] at hperm;have hps : ((List.range n).map D).map (fun x : α => x.1.1) = ps := by
  refine Zaw fun j => ?_;rw [List.getElem?_map, List.getElem?_map];by_cases hj : j < n
  ·rw [List.getElem?_range hj, (hD j hj).1]; rfl
  ·rw [List.getElem?_eq_none (by simp; omega), List.getElem?_eq_none (by omega)]; rfl
 have hpm : (d'.toList.map fun x : α => x.1.1).Perm ps := by rw [<- hps]; exact hperm.map _
 have hqe : (d'.toList.map fun x : α => x.1.1) = qs := by
  refine List.Perm.eq_of_pairwise (le := fun a b => ji a.2 b.2 <= 0) ?_ ?_ hqs (hpm.trans hq.symm)
  ·intro a a' ha ha' p q;have e : a.2 = a'.2 := kN (by have := gC a.2 a'.2; omega);have ma := hpm.mem_iff.1 ha;have ma' := hq.mem_iff.1 ha';exact hnd _ ma _ ma' e
  ·rw [Zbs, Zbg];intro i j hi hj hij;have hi' : i < d'.size := by simpa using hi
   have hj' : j < d'.size := by simpa using hj
   have := hS i j (Nat.zero_le _) hij (by omega);rw [getElem!_pos d' j hj', getElem!_pos d' i hi'] at this;have := of_decide_eq_false this;have e : ji d'[j].1.1.2 d'[i].1.1.2 = - ji d'[i].1.1.2 d'[j].1.1.2 := gC _ _;have f : ¬ ji d'[j].1.1.2 d'[i].1.1.2 < 0 := this;simp only [Array.getElem_toList];omega
 obtain ⟨r1, r2⟩ := H.sortedG (k := k) (os := os) (l' := d'.toList) hva hsc hb hE (by rw [show d'.toList.length = n from Array.length_toList.trans hd1]; exact hm);have e3 : d'.toList.map av = qs.map (·.1) := by rw [<- hqe, List.map_map]; rfl
 rw [e3] at r1;exact ⟨_, E, rfl, by simp only [VR, VRL]; exact ⟨_, rfl, rfl⟩, r1, r2⟩
end Go.Ev
namespace Go.Ev
open Go Go.Proofs
variable {B : Nat}
set_option maxRecDepth 100000
theorem sort200 {h0 h : T Blk} {nx p id : Pa} {L : List Ob} {k n : Nat} {K : Kw Prop} {q s : List (List Int)} (H : Hp h0 h nx L) (hk : L[k]? = some (.gro (some id) 1 n (q.map encI))) (hn : n <= 1000000) (hw : ∀ a ∈ q, a.length <= 1000000)
  (hq : s.Perm q) (hs : s.Pairwise fun a b => ji a b <= 0) (hK : ∀ h', Hp h0 h' nx (L.set k (.gro (some id) 1 n (s.map encI))) -> K (.tup []) h' nx = .ok True) : (CS Tryz.prog B).fn 200 p [qg (some id) 1 n, .fn 201 (.of 201) []] h nx K = .ok True := by
 obtain ⟨t, h1, h2, h3⟩ := H.own _ (Zaa hk);rw [Zap] at h2;have hsl : (s.map encI).length = n * 1 := by rw [Zap, hq.length_eq, h2]
 have hm1 : ∀ l : List (List Int), (l.map fun a => (encI a, a)).map (·.1) = l.map encI := fun l => by rw [List.map_map]; rfl
 refine CS_hook (sort91_J (ps := q.map fun a => (encI a, a)) (qs := s.map fun a => (encI a, a)) (off := 0) (o := none) h1 (by omega) hn (by rw [hm1]; rw [Zcc] at h3; exact h3)
  (fun a ha => by obtain ⟨x, hx, rfl⟩ := List.mem_map.1 ha; exact ⟨.inl rfl, hw x hx⟩) (fun a ha a' ha' e => by
   obtain ⟨x, hx, rfl⟩ := List.mem_map.1 ha;obtain ⟨y, hy, rfl⟩ := List.mem_map.1 ha';have : x = y := e;rw [this]) (hq.map _) (List.pairwise_map.2 hs)) (v := .tup []) (h2 := T.set .no (.cells true (n * 1) (yW ((s.map fun a => (encI a, a)).map (·.1)) t 0)) id h) (if_pos ⟨rfl, rfl, rfl⟩) (hK _ ?_)
 rw [hm1];refine H.upd hk (by simp [Ob.names]) rfl ⟨_, T.get_set_same .., hsl, ?_⟩;have := uY t [] (s.map encI) 0 rfl;rw [Zat, List.nil_append, hsl] at this;exact this
def Kept (s r : List (List Int)) (j : Nat) : Prop := AscT r /\ (∀ x, x ∈ r ↔ x ∈ s.take j) /\ 1 <= r.length /\ r.length <= j /\ r.getLast? = s[j - 1]?
theorem Kept.same {s r : List (List Int)} {j : Nat} (hj : 1 <= j) (h : Kept s r j) (hl : j < s.length) (e : s[j] = s[j - 1]) : Kept s r (j + 1) := by
 obtain ⟨h1, h2, h3, h4, h5⟩ := h;have hp : s[j - 1]? = some s[j - 1] := List.getElem?_eq_getElem (by omega);refine ⟨h1, fun x => ?_, h3, by omega, ?_⟩
 ·rw [h2, Zao, List.getElem?_eq_getElem hl, Zas];constructor
  ·exact .inl
  ·rintro (q | q)
   ·exact q
   ·have : x = s[j - 1] := by rw [<- e]; simpa using q
    rw [this];exact Zaa (i := j - 1) (by rw [List.getElem?_take_of_lt (by omega)]; exact hp)
 ·rw [h5, hp, Nat.add_sub_cancel, List.getElem?_eq_getElem hl, e]
theorem Kept.new {s r : List (List Int)} {j : Nat} (hj : 1 <= j) (h : Kept s r j) (hs : s.Pairwise fun a b => ji a b <= 0) (hl : j < s.length) (e : s[j] ≠ s[j - 1]) : Kept s (r ++ [s[j]]) (j + 1) := by
 obtain ⟨h1, h2, h3, h4, h5⟩ := h;have hlt : ∀ x ∈ s.take j, yU x s[j] = true := fun x hx => by
  have hpw := List.pairwise_iff_getElem.1 hs;obtain ⟨i, hi⟩ := List.getElem?_of_mem hx;have hil := (List.getElem?_eq_some_iff.1 hi).1;rw [Zax] at hil;rw [List.getElem?_take_of_lt (by omega), List.getElem?_eq_getElem (by omega)] at hi;obtain rfl := Option.some.inj hi;have a1 := hpw i j (by omega) hl (by omega);have a2 := hpw (j - 1) j (by omega) hl (by omega);have a3 : ji s[j - 1] s[j] ≠ 0 := fun q => e (kN q).symm;rw [u3];by_cases q : i = j - 1
  ·subst q; exact decide_eq_true (by omega)
  ·have a4 := hpw i (j - 1) (by omega) (by omega) (by omega);by_cases z : ji s[i] s[j - 1] = 0
   ·rw [kN z]; exact decide_eq_true (by omega)
   ·exact decide_eq_true (gN (b := s[j - 1]) (by omega) (by omega))
 refine ⟨List.pairwise_append.2 ⟨h1, by simp, fun x hx y hy => ?_⟩, fun x => ?_, by simp, by simp; omega, ?_⟩
 ·rw [List.mem_singleton.1 hy]; exact hlt x ((h2 x).1 hx)
 ·rw [Zas, h2, Zao, List.getElem?_eq_getElem hl, Zas]; simp
 ·rw [Nat.add_sub_cancel, List.getElem?_eq_getElem hl]; simp
theorem sCall_fnP {C : Calls Prop} {f : Nat} {p : Pa} {args : List AV} {h : T Blk} {nx : Pa} {K : KW3} : mP C (.fn f p []) args h nx K = C.fn f p args h nx K := by
 show C.fn f p (args ++ []) h nx K = _;rw [Zcd]
theorem Hp.clrGro {h0 h : T Blk} {nx : Pa} {L : List Ob} {k n i : Nat} {id : Pa} {l : List AV} {K : KW3} (H : Hp h0 h nx L) (hk : L[k]? = some (.gro (some id) 1 n l)) (hi : i < n) (hl : l.length = n)
  (hK : ∀ h', Hp h0 h' nx (L.set k (.gro (some id) 1 n (l.take i ++ List.replicate (n - i) .zf))) -> K .undef h' nx = .ok True) : sClr 1 [.zf] (dropV (some id) 1 n i) h nx K = .ok True := by
 obtain ⟨t, h1, h2, h3⟩ := H.own _ (Zaa hk);have hd : dropV (some id) 1 n i = .sl id (0 + i * 1) (n - i) none 1 := by
  by_cases c : i = 0
  ·subst c; rfl
  ·simp only [dropV, beqF c, Zab (show i + 1 <= n by omega), cond_true, cond_false]
 rw [hd]
 show (bif Nat.beq 1 1 && Nat.ble 1 (n - i) then jg (T.get .no id h) (fun op m t => bif Nat.ble (0 + i * 1 + (n - i) * 1) m && Nat.beq [AV.zf].length 1 && [AV.zf].all je then
   j8 (bG (n - i) [.zf]) t (0 + i * 1) fun t' => T.qm .no (.cells op m t') id h fun h' => K .undef h' nx else .no 57) (.no 57) else bif Nat.beq (n - i) 0 then K .undef h nx else .no 57) = _
 rw [Zaz, Zab (by omega), h1];show (bif Nat.ble (0 + i * 1 + (n - i) * 1) (n * 1) && Nat.beq [AV.zf].length 1 && [AV.zf].all je then _ else _) = _;rw [Zab (by omega)];show j8 (bG (n - i) [.zf]) t (0 + i * 1) (fun t' => T.qm .no (.cells true (n * 1) t') id h fun h' => K .undef h' nx) = _;rw [yR, T.yu];refine hK _ (H.upd hk (by simp [Ob.names]) rfl ⟨_, T.get_set_same .., by simp; omega, ?_⟩);have e1 : bG (n - i) [AV.zf] = List.replicate (n - i) .zf := repl_one _ _;rw [e1];have e2 : l.take i = yI t 0 i := by rw [<- h3, mQ _ _ _ _ (by omega)]
 have := uY t (l.take i) (List.replicate (n - i) .zf) i e2.symm;rw [List.length_replicate] at this;rw [show 0 + i * 1 = i by omega, show n * 1 = i + (n - i) by omega];exact this
theorem compact202 {h0 h : T Blk} {nx p id : Pa} {L : List Ob} {k n : Nat} {K : Kw Prop} {s : List (List Int)} (H : Hp h0 h nx L) (hk : L[k]? = some (.gro (some id) 1 n (s.map encI))) (hsl : s.length = n) (hn0 : 1 <= n) (hn : n <= 100000) (hw : ∀ a ∈ s, a.length <= 1000000)
  (hs : s.Pairwise fun a b => ji a b <= 0) (hK : ∀ (r : List (List Int)) (X : List AV) h', Kept s r n -> Hp h0 h' nx (L.set k (.gro (some id) 1 n (r.map encI ++ X))) -> K (qg (some id) 1 r.length) h' nx = .ok True) : (CS Tryz.prog B).fn 202 p [qg (some id) 1 n, .fn 158 (.of 158) []] h nx K = .ok True := by
 refine gI (p := .of 202) (K := K) (zP zS yt 10000000 fun hf => ?_) fun _ _ _ _ q => q;have hkl := (List.getElem?_eq_some_iff.1 hk).1;have hstart : Kept s (s.take 1) 1 := by
  have h1 : s.take 1 = [s[0]'(by omega)] := by
   rw [show (1 : Nat) = 0 + 1 from rfl, Zao, List.getElem?_eq_getElem (by omega)]; rfl
  refine ⟨by rw [h1]; simp, fun x => .rfl, by rw [h1]; simp, by rw [h1]; simp, by rw [h1]; simp⟩
 have keep : ∀ {h' nx'}, Hp h0 h' nx' L -> Hp h0 h' nx' (L.set k (.gro (some id) 1 n (s.map encI))) := fun {h' nx'} H' => by
  have : L.set k (.gro (some id) 1 n (s.map encI)) = L := by
   apply Zaw;intro j;rw [List.getElem?_set];split
   ·rename_i e; subst e; rw [hk]
   ·rfl
  rw [this]; exact H'
 rw [zh.go, zh.t48, zA, zh.bM, zh.t47, zA, zh.t5, zA, zh.bP, H.groLen hk, qi, zh.t4, zI, zh.v6];by_cases c1 : n < 2
 ·rw [decide_eq_true (by omega), zC, zh.t3, zA, zh.bU];simp only [zQ, yK];rw [zh.ret];obtain rfl : n = 1 := by omega
  have := hK (s.take 1) [] _ hstart (by rw [Zam (by omega), Zcd]; exact keep H);rw [Zax, hsl] at this;exact this
 rw [decide_eq_false (by omega), zE, zR, zh.t46, zA, zh.t43, zA, zh.t6_s, zh.t42, yD];refine zh.t41_L (fun m x3 h' nx' => ∃ i : Nat, x3 = I i /\ m = n - i /\ 1 <= i /\ i <= n /\ Kept s (s.take i) i /\ h' = h /\ nx' = nx) (m := n - 1) (by omega) ⟨1, rfl, rfl, by omega, by omega, hstart, rfl, rfl⟩ ?_;rintro m z2 z3 z4 z5 z7 z8 z9 z10 h1 nx1 R ⟨i, rfl, rfl, hi1, hi, hkp, rfl, rfl⟩ hR;rw [zh.t40, zA, zh.t9, zA, zh.t7_s, H.groLen hk, qi];by_cases hlt : i < n
 case neg =>
  rw [decide_eq_false (by omega), zh.t8, zI, zh.v7, zE, gL, kP, zh.t45, zA, zh.t44_s];simp only [zQ, yK];rw [zh.ret];obtain rfl : i = n := by omega
  have := hK (s.take i) [] _ hkp (by rw [Zam (by omega), Zcd]; exact keep H);rw [Zax, hsl, Nat.min_self] at this;exact this
 have hii : i < s.length := by omega
 have hx : (s.map encI)[i]? = some (encI s[i]) := by rw [List.getElem?_map, List.getElem?_eq_getElem hii]; rfl
 have hy : (s.map encI)[i - 1]? = some (encI s[i - 1]) := by rw [List.getElem?_map, List.getElem?_eq_getElem (by omega)]; rfl
 have ix : ∀ (j : Nat) (z : Int), z = (j : Int) -> j < n -> ∀ op : AV -> OP, zO 1 (qg (some id) 1 n) (I z) op = op (.ptr id j) := fun j z hz hj op => by
  show zO 1 (.sl id 0 n none 1) (I z) op = _;exact sIx hz hj
 rw [decide_eq_true (by omega), zh.t8, zI, zh.v7, zC, zR, zh.t39, zA, zh.t37, yD, zh.t36, zA, zh.t10_s, ix i _ rfl hlt, H.loadGro hk hx, sSub (by omega), ix (i - 1) _ (by omega) (by omega), H.loadGro hk hy, sCall_fnP];refine equal150 (by have := hw _ (Zak hii); omega) _ _ _ _ ?_;rintro _ rfl _;rw [zh.t35, zI, zh.v8];by_cases ce : s[i] = s[i - 1]
 case neg =>
  rw [decide_eq_false ce, zE, zR, zh.t38_s, ql (by omega)];have := hkp.new hi1 hs hii ce;have e : s.take i ++ [s[i]] = s.take (i + 1) := by rw [Zao, List.getElem?_eq_getElem hii]; rfl
  rw [e] at this;exact hR _ _ _ _ _ _ _ _ _ _ _ (by omega) ⟨i + 1, rfl, rfl, by omega, by omega, this, rfl, rfl⟩
 have hsame := hkp.same hi1 hii ce;have hlo : ∀ op : AV -> OP, wE 1 (qg (some id) 1 n) (some (I (i : Int))) none none op = op (.sl id (0 + i * 1) (n - i) none 1) := by
  intro op;rw [H.groLo hk (by omega)];simp only [dropV, beqF (show i ≠ 0 by omega), Zab (show i + 1 <= n by omega), cond_true, cond_false]
 rw [decide_eq_true ce, zC, zh.t34, zA, zh.t11_s, hlo, zh.t33, zA, zh.t28, zA, zh.t12_s, zh.t27, yD]
 refine zh.t26_L (fun m x3 x5 h' nx' => ∃ (r : List (List Int)) (j : Nat) (X : List AV), x3 = I r.length /\ x5 = I j /\ m = n - i - j /\ 1 <= j /\ j <= n - i /\ Kept s r (i + j) /\ r.length < i + j /\ nx' = nx1 /\ X.length = n - r.length /\ (∀ q, i + j - 1 <= q -> q < n -> (r.map encI ++ X)[q]? = (s.map encI)[q]?) /\ Hp h0 h' nx' (L.set k (.gro (some id) 1 n (r.map encI ++ X)))) (m := n - i - 1) (by omega)
  ⟨s.take i, 1, (s.drop i).map encI, by rw [Zax, Nat.min_eq_left (by omega)], rfl, rfl, by omega, by omega, hsame, by rw [Zax]; omega, rfl, by simp; omega, fun q _ _ => by rw [<- Zbo, List.take_append_drop], by rw [<- Zbo, List.take_append_drop]; exact keep H⟩ ?_
 rintro m y3 y5 y9 y10 h6 nx6 R' ⟨r, j, X, rfl, rfl, rfl, hj1, hj, hkr, hrl, rfl, hXl, hX, H6⟩ hR';have hrk : (L.set k (.gro (some id) 1 n (r.map encI ++ X)))[k]? = some (.gro (some id) 1 n (r.map encI ++ X)) := List.getElem?_set_self hkl;have hrlen : (r.map encI ++ X).length = n := by rw [Zau, Zap, hXl]; have := hkr.2.2.2.1; omega
 rw [zh.t25, zA, zh.t15, zA, zh.t13_s, jL, qi];by_cases hlt2 : j < n - i
 case neg =>
  rw [decide_eq_false (by omega), zh.t14, zI, zh.v9, zE, gL, kP, zh.t32, zA, zh.t29_s, H6.groLo hrk (by omega)];refine H6.clrGro hrk (by omega) hrlen fun h7 H7 => ?_;rw [List.set_set] at H7;have hk7 : (L.set k (.gro (some id) 1 n ((r.map encI ++ X).take r.length ++ List.replicate (n - r.length) .zf)))[k]? = some (.gro (some id) 1 n ((r.map encI ++ X).take r.length ++ List.replicate (n - r.length) .zf)) := List.getElem?_set_self hkl;rw [zh.t31, zA, zh.t30_s, H7.groHi hk7 (by omega)];simp only [zQ, kY, yK];rw [zh.ret];have e : (r.map encI ++ X).take r.length = r.map encI := by rw [List.take_left' (by simp)]
  rw [e] at H7;obtain rfl : j = n - i := by omega
  rw [show i + (n - i) = n by omega] at hkr;exact hK r _ _ hkr H7
 have hjj : i + j < s.length := by omega
 have hrn : r.length < n := by omega
 have hn0 : 0 < n := by omega
 have hX0 : 0 < X.length := by omega
 have hx2 : (r.map encI ++ X)[i + j]? = some (encI s[i + j]) := by rw [hX _ (by omega) (by omega), List.getElem?_map, List.getElem?_eq_getElem hjj]; rfl
 have hy2 : (r.map encI ++ X)[i + j - 1]? = some (encI s[i + j - 1]) := by rw [hX _ (by omega) (by omega), List.getElem?_map, List.getElem?_eq_getElem (by omega)]; rfl
 have ix2 : ∀ (q : Nat) (z : Int), z = (q : Int) -> q < n - i -> ∀ op : AV -> OP, zO 1 (.sl id (0 + i * 1) (n - i) none 1) (I z) op = op (.ptr id (i + q)) := fun q z hz hq op => by
  subst hz;rw [wL hq];rw [show 0 + i * 1 + q * 1 = i + q by omega]
 rw [decide_eq_true (by omega), zh.t14, zI, zh.v9, zC, zR, zh.t24, zA, zh.t22, yD, zh.t21, zA, zh.t16_s, ix2 j _ rfl hlt2, H6.loadGro hrk hx2, sSub (by omega), ix2 (j - 1) _ (by omega) (by omega), show i + (j - 1) = i + j - 1 by omega, H6.loadGro hrk hy2, sCall_fnP];refine equal150 (by have := hw _ (Zak hjj); omega) _ _ _ _ ?_;rintro _ rfl _;rw [yS, zh.t20, zI, zh.v10];by_cases ce2 : s[i + j] = s[i + j - 1]
 ·rw [decide_eq_true ce2, Zaf, zE, zR, zh.t23_s, ql (by omega)];exact hR' (n - i - (j + 1)) _ _ _ _ _ _ (by omega) ⟨r, j + 1, X, rfl, rfl, by omega, by omega, by omega, hkr.same (show 1 <= i + j by omega) hjj ce2, by omega, rfl, hXl, fun q h1 h2 => hX q (by omega) h2, H6⟩
 ·rw [decide_eq_false ce2, Zag, zC, zh.t19, zA, zh.t17_s, ix2 j _ rfl hlt2, H6.loadGro hrk hx2, ix r.length _ rfl (by omega)];refine H6.storeGro hrk (by rw [hrlen]; exact hrn) rfl fun h7 H7 => ?_;rw [List.set_set] at H7;rw [zh.t18_s, ql (by omega), zh.t23_s, ql (by omega)];obtain ⟨x0, X', rfl⟩ : ∃ x0 X', X = x0 :: X' := by cases X with
   | nil => simp at hXl; omega
   | cons a b => exact ⟨a, b, rfl⟩
  have e : (r.map encI ++ x0 :: X').set r.length (encI s[i + j]) = (r ++ [s[i + j]]).map encI ++ X' := by
   have := dS (r.map encI) x0 (encI s[i + j]) X';rw [Zap] at this;rw [this, Zbo, Zbx]; rfl
  have hX2 : ∀ q, r.length < q -> ((r ++ [s[i + j]]).map encI ++ X')[q]? = (r.map encI ++ x0 :: X')[q]? := fun q hq => by
   rw [<- e, List.getElem?_set_ne (by omega)]
  rw [e] at H7;refine hR' (n - i - (j + 1)) _ _ _ _ _ _ (by omega) ⟨r ++ [s[i + j]], j + 1, X', by simp, rfl, by omega, by omega, by omega, hkr.new (show 1 <= i + j by omega) hs hjj ce2, by simp; omega, rfl, ?_, fun q h1 h2 => by rw [hX2 q (by omega)]; exact hX q (by omega) h2, H7⟩;have : X'.length + 1 = n - r.length := by simpa using hXl
  simp; omega
theorem Hp.frzGroP {id : Pa} {n : Nat} {l X : List AV} {h0 h : T Blk} {nx : Pa} {L : List Ob} {k : Nat} (H : Hp h0 h nx L) (hk : L[k]? = some (.gro (some id) 1 n (l ++ X))) (hf : ∀ v ∈ l, fB v = true) : FrzN h0 h (qg (some id) 1 l.length) (.lst 1 l.length l) := by
 have own := H.own _ (Zaa hk);have hoff := H.off;obtain ⟨t, h1, h2, h3⟩ := own;rw [Zau] at h2;refine .sl _ _ _ _ _ true _ t _ (hoff id (List.mem_flatMap.2 ⟨_, Zaa hk, by simp [Ob.names]⟩)) trivial h1 (by omega) (by omega) (List.all_eq_true.2 fun v hv => fB.je (hf v hv)) fun i v hi => ?_;have hil := (List.getElem?_eq_some_iff.1 hi).1;have := yC t 0 (n * 1) i (by omega);rw [h3, List.getElem?_append_left hil, hi] at this;rw [<- Option.some.inj this];exact zG (hf v (Zaa hi))
theorem uQ {a b c : List Int} (h1 : ji a b <= 0) (h2 : ji b c <= 0) : ji a c <= 0 := by
 by_cases z1 : ji a b = 0
 ·rw [kN z1]; exact h2
 ·by_cases z2 : ji b c = 0
  ·rw [<- kN z2]; exact h1
  ·have := gN (a := a) (b := b) (c := c) (by omega) (by omega); omega
theorem sorted_ex (q : List (List Int)) : ∃ s : List (List Int), s.Perm q /\ s.Pairwise fun a b => ji a b <= 0 := by
 refine ⟨q.mergeSort fun a b => decide (ji a b <= 0), List.mergeSort_perm .., ?_⟩
 have := List.pairwise_mergeSort (le := fun a b : List Int => decide (ji a b <= 0)) (fun a b c h1 h2 => by
  exact decide_eq_true (uQ (of_decide_eq_true h1) (of_decide_eq_true h2))) (fun a b => by
  have n1 := gC a b;simp; omega) q
 exact this.imp fun h => of_decide_eq_true h
def cZ (G : List Sym) (f : List Int) : List (List Int) := G.map fun a => zY a.2 a.1 f
def imgV (G : List Sym) (f : List Int) : AV := if (cZ G f).any (·.any farB) then .tup [.zf, I 3] else .tup [encT (qO (cZ G f)), I 0]
theorem kept_sort {s q r : List (List Int)} {n : Nat} (hp : s.Perm q) (hn : s.length = n) (hk : Kept s r n) : r = qO q := by
 refine mI hk.1 (vC q) fun x => ?_;rw [hk.2.1, Zam (by omega), hp.mem_iff, mem_sortT]
theorem images157 {G : List Sym} {f : List Int} (ok : bH G f.length) (hf : gE f = 0) : Pure Tryz.prog B 157 [jd G, encI f] (· = imgV G f) := by
 refine yL fun h nx K H0 hK => zP zS yt 10000000 fun hf' => ?_;have hgl := ok.len;obtain ⟨hf1, hf2⟩ := fillE_rng hf;rw [zy.go, zy.t23, zA, zy.bM];refine H0.box (l := [encI f]) rfl fun b2 h1 nx1 H1 => ?_;refine H1.alloc fun b3 h2 nx2 H2 => ?_;refine H2.alloc fun b4 h3 nx3 H3 => ?_;rw [zy.t22, zA, zy.bP];refine H3.alloc fun b5 h4 nx4 H4 => ?_;rw [zy.t21, zA, zy.t16, zA, zy.bU];refine mK _ _ _ _ ?_;rintro _ rfl _;rw [zy.t15, yD, zy.t14];have H5 := H4.addGro 1
 refine rfAll H5 zy.t14_f (fun v w k => zy.t14_b k) (by omega)
  (fun i L' => (cZ (G.take i) f).any (·.any farB) = false /\ ∃ o, L' = [.gro o 1 i ((cZ (G.take i) f).map encI), .arr b5 [qg o 1 i], .arr b4 [I 0], .arr b3 [.zf], .arr b2 [encI f]])
  (fun L' => (cZ G f).any (·.any farB) = true /\ ∃ o i l, L' = [.gro o 1 i l, .arr b5 [qg o 1 i], .arr b4 [I 3], .arr b3 [.zf], .arr b2 [encI f]]) (fun _ _ => False) ⟨rfl, none, rfl⟩
  (fun i x Rb Rb' h6 nx6 L' M E O1 O2 hx hJ H6 hM hE hR hX => ?_) (fun h6 nx6 L' hJ H6 => ?_) (fun h6 nx6 L' hX H6 => ?_) (fun _ _ _ _ hX _ => hX.elim)
 ·obtain ⟨hfar, o, rfl⟩ := hJ;have hxm := Zaa hx;have hil := (List.getElem?_eq_some_iff.1 hx).1;have hdp := ok.dp x hxm;have hal : (zY x.2 x.1 f).length = f.length := j4 ..;have htk : cZ (G.take (i + 1)) f = cZ (G.take i) f ++ [zY x.2 x.1 f] := by
   unfold cZ; rw [Zao, hx, Zbo]; rfl
  rw [zy.t3_s];refine H6.alloc fun b9 h7 nx7 H7 => ?_;refine H7.jk (k := 0) (n := 2) rfl rfl rfl fun h8 H8 => ?_;refine hM _ _ _ [_] H8 fun h9 H9 => ?_;rw [zy.t13, yD, zy.t12, zA, zy.t4_s, H9.zi (k := 0) (n := 2) rfl rfl, H9.load (k := 6) (i := 0) rfl rfl];refine image135 (g := x.1) (c := x.2) (by omega) (by rw [hdp.1.1]) hdp.perm (fun y hy => by have := hf2 y hy; omega) _ _ _ _ ?_;rintro _ rfl _;rw [zy.t11, zA, zy.t9, zA, zy.t5_s];refine contF131 (l := zY x.2 x.1 f) (by omega) (fun x _ K hK => far137 x _ _ _ _ fun v hv _ => by rw [hv]; exact hK) ?_;rw [zy.t8, zI, zy.v11];by_cases c : (zY x.2 x.1 f).any farB = true
  ·rw [c, zC, zy.t7, zA, zy.t6_s];refine H9.store (k := 5) rfl (by simp) rfl fun h10 H10 => ?_;refine H10.store (k := 4) rfl (by simp) rfl fun h11 H11 => ?_;simp only [zQ, kY];exact hR _ _ _ [_] _ ⟨List.any_eq_true.2 ⟨_, List.mem_map.2 ⟨x, hxm, rfl⟩, c⟩, o, i, _, rfl⟩ H11
  ·have c : (zY x.2 x.1 f).any farB = false := by cases q : (zY x.2 x.1 f).any farB <;> simp_all
   rw [c, zE, zR, zy.t10_s, H9.load (k := 3) (i := 0) rfl rfl];refine H9.yj (l := [encI (zY x.2 x.1 f)]) rfl fun tb h15 nx15 H15 => ?_;refine H15.appN (k := 3) (o := o) (c := 1) (esz := 1) (new := [encI (zY x.2 x.1 f)]) rfl (jh.rd (l := [encI (zY x.2 x.1 f)]) (n := 1) (e := 1) (H15.own _ (Zal ..)) rfl) rfl rfl (by decide) (by decide) (by omega) fun o'' h16 nx16 _ H16 => ?_;refine H16.store (k := 4) rfl (by simp) (uA _ _ _) fun h17 H17 => ?_;refine hE _ _ _ [_, _] _ ⟨by rw [htk, List.any_append, hfar]; simpa using c, o'', ?_⟩ H17;rw [htk, Zbo]
   rfl
 ·obtain ⟨hfar, o, rfl⟩ := hJ;rw [Zam (Zai _)] at H6 hfar;have hne : 0 < G.length := List.length_pos_iff.2 ok.ne;obtain ⟨id, rfl⟩ : ∃ id, o = some id := by
   cases o with
   | some id => exact ⟨id, rfl⟩
   | none => obtain ⟨h1, h2⟩ := H6.own _ (Zal ..); omega
  obtain ⟨s, hs1, hs2⟩ := sorted_ex (cZ G f);have hil : (cZ G f).length = G.length := Zap _;have hw : ∀ a ∈ cZ G f, a.length <= 1000000 := fun a ha => by
   obtain ⟨x, _, rfl⟩ := List.mem_map.1 ha;rw [j4]; omega
  rw [zy.t20, zA, zy.t17_s, H6.load (k := 1) (i := 0) rfl rfl];refine sort200 H6 (k := 0) rfl (by omega) hw hs1 hs2 fun h7 H7 => ?_;rw [zy.t19, zA, zy.t18_s, H7.load (k := 1) (i := 0) rfl rfl];refine compact202 (k := 0) H7 rfl (by rw [hs1.length_eq, hil]) hne (by omega) (fun a ha => hw a (hs1.mem_iff.1 ha)) hs2 fun r X h8 hkr H8 => ?_;have hr := kept_sort hs1 (by rw [hs1.length_eq, hil]) hkr;subst hr;refine H8.store (k := 3) rfl (by simp) (uA _ _ _) fun h9 H9 => ?_;refine H9.store (k := 2) rfl (by simp) rfl fun h10 H10 => ?_;simp only [zQ, yK];rw [zy.ret, H10.load (k := 3) (i := 0) rfl rfl, H10.load (k := 2) (i := 0) rfl rfl];have fz := H10.frzGroP (k := 0) (id := id) (n := G.length) (l := (qO (cZ G f)).map encI) (X := X) rfl fun v hv => by obtain ⟨a, _, rfl⟩ := List.mem_map.1 hv; exact u6 a
  rw [Zap] at fz;exact hK _ _ _ _ _ H10 (jJ fz (zG rfl)) (by rw [imgV, hfar]; rfl)
 ·obtain ⟨hany, o, i, l, rfl⟩ := hX;simp only [kY, yK];rw [zy.ret, H6.load (k := 3) (i := 0) rfl rfl, H6.load (k := 2) (i := 0) rfl rfl];exact hK _ _ _ _ _ H6 (jJ (zG rfl) (zG rfl)) (by rw [imgV, hany]; rfl)
def actE (G : List Sym) (f : List Int) : Int := if gE f ≠ 0 then gE f else yO G f.length
theorem acting156 {G : List Sym} {f : List Int} (hG : G.length <= 100000) (hw : ∀ g ∈ G, g.1.length <= 100000) (hfl : f.length <= 100000) : Pure Tryz.prog B 156 [jd G, encI f] (· = I (actE G f)) := by
 refine yL fun h nx K H0 hK => zP zS yt 1000 fun hf' => ?_;rw [yx.go, yx.t11, zA, yx.bM, yx.t10, zA, yx.t7, zA, yx.bP]
 (refine fill134 (by omega) _ _ _ _ ?_; rintro _ rfl _)
 rw [yx.t6, zA, yx.bU, qp, yx.t5, zI, yx.v4];by_cases c : gE f = 0
 case neg =>
  rw [decide_eq_false c, Zag, zC, yx.t4, zA, yx.t3_s];simp only [zQ, yK];rw [yx.ret];exact hK _ _ _ _ _ H0 (zG rfl) (by rw [actE, if_pos c])
 rw [decide_eq_true c, Zaf, zE, zR, yx.t9, zA, yx.t8_s, zH];refine kO hG hw _ _ _ _ ?_;rintro _ rfl _;simp only [zQ, yK];rw [yx.ret];exact hK _ _ _ _ _ H0 (zG rfl) (by rw [actE, if_neg (fun q => q c)])
theorem actE_ok {G : List Sym} {f : List Int} (h : actE G f = 0) : gE f = 0 /\ bH G f.length := by
 unfold actE at h;by_cases c : gE f = 0
 ·rw [if_neg (fun q => q c)] at h;obtain ⟨n, hn, ok⟩ := qG h;obtain rfl : f.length = n := by omega
  exact ⟨c, ok⟩
 ·rw [if_pos c] at h; exact absurd h c
def orbV (G : List Sym) (f : List Int) : AV := if actE G f ≠ 0 then .tup [.zf, I (actE G f)] else imgV G f
theorem orbit75 {G : List Sym} {f : List Int} (hG : G.length <= 100000) (hw : ∀ g ∈ G, g.1.length <= 100000) (hfl : f.length <= 100000) : Pure Tryz.prog B 75 [jd G, encI f] (· = orbV G f) := by
 refine yL fun h nx K H0 hK => zP zS yt 1000 fun hf' => ?_;rw [F75.go, F75.t11, zA, F75.bM, F75.t10, zA, F75.t7, zA, F75.bP];refine acting156 hG hw hfl _ _ _ _ ?_;rintro _ rfl _;rw [F75.t6, zA, F75.bU, qp, F75.t5, zI, F75.v5];by_cases c : actE G f = 0
 case neg =>
  rw [decide_eq_false c, Zag, zC, F75.t4, zA, F75.t3_s];simp only [zQ, yK];rw [F75.ret];exact hK _ _ _ _ _ H0 (jJ (zG rfl) (zG rfl)) (by rw [orbV, if_pos c])
 obtain ⟨hf, ok⟩ := actE_ok c;rw [decide_eq_true c, Zaf, zE, zR, F75.t9, zA, F75.t8_s];refine images157 ok hf _ _ _ _ ?_;rintro _ rfl _;by_cases d : (cZ G f).any (·.any farB) = true
 ·have e : imgV G f = .tup [.zf, I 3] := by rw [imgV, d]; rfl
  rw [e, y0, jA];simp only [zQ, yK];rw [F75.ret];exact hK _ _ _ _ _ H0 (jJ (zG rfl) (zG rfl)) (by rw [orbV, if_neg (fun q => q c), e])
 ·have e : imgV G f = .tup [encT (qO (cZ G f)), I 0] := by rw [imgV, if_neg d]
  rw [e, y0, jA];simp only [zQ, yK];rw [F75.ret];exact hK _ _ _ _ _ H0 (jJ (zG (fixd_encT _)) (zG rfl)) (by rw [orbV, if_neg (fun q => q c), e])
def qS (G : List Sym) (f : List Int) : Int := if actE G f ≠ 0 then actE G f else if (cZ G f).any (·.any farB) then 3 else 0
theorem orbV_bad {G : List Sym} {f : List Int} (h : qS G f ≠ 0) : orbV G f = .tup [.zf, I (qS G f)] := by
 unfold orbV qS at *
 by_cases c : actE G f = 0
 ·rw [if_neg (fun q => q c)] at h ⊢;rw [if_neg (fun q => q c), imgV];by_cases d : (cZ G f).any (·.any farB) = true
  ·rw [if_pos d, if_pos d]
  ·rw [if_neg d] at h; exact absurd rfl h
 ·rw [if_pos c, if_pos c]
theorem orbV_ok {G : List Sym} {f : List Int} (h : qS G f = 0) : orbV G f = .tup [encT (qO (cZ G f)), I 0] := by
 unfold orbV qS at *
 by_cases c : actE G f = 0
 ·rw [if_neg (fun q => q c)] at h ⊢;rw [imgV];by_cases d : (cZ G f).any (·.any farB) = true
  ·rw [if_pos d] at h; cases h
  ·rw [if_neg d]
 ·rw [if_pos c] at h; exact absurd h c
theorem orb_pos {G : List Sym} {f : List Int} (ok : bH G f.length) : 0 < (qO (cZ G f)).length := by
 have hm : zY (idS f.length).2 (idS f.length).1 f ∈ qO (cZ G f) := mem_sortT.2 (List.mem_map.2 ⟨_, ok.one, rfl⟩);exact List.length_pos_of_mem hm
def canV (G : List Sym) (f : List Int) : AV := if qS G f ≠ 0 then .tup [.zf, I (qS G f)] else .tup [encI ((qO (cZ G f)).headD []), I 0]
theorem headT {l : List (List Int)} (h : 0 < l.length) : l[0]? = some (l.headD []) := by
 cases l with
 | nil => simp at h
 | cons a l => rfl
theorem xZ {G : List Sym} {f : List Int} (hG : G.length <= 100000) (hw : ∀ g ∈ G, g.1.length <= 100000) (hfl : f.length <= 100000) : Pure Tryz.prog B 47 [jd G, encI f] (· = canV G f) := by
 refine yL fun h nx K H0 hK => zP zS yt 1000 fun hf' => ?_;rw [F47.go, F47.t11, zA, F47.bM, F47.t10, zA, F47.bP];refine orbit75 hG hw hfl _ _ _ _ ?_;rintro _ rfl _;by_cases c : qS G f = 0
 case neg =>
  rw [orbV_bad c, y0, jA, F47.t9, zA, F47.t6, zA, F47.bU, qp, decide_eq_false c, Zag, F47.t5, zI, F47.v6, zC, F47.t4, zA, F47.t3_s];simp only [zQ, yK];rw [F47.ret];exact hK _ _ _ _ _ H0 (jJ (zG rfl) (zG rfl)) (by rw [canV, if_pos c])
 have ca : actE G f = 0 := Decidable.byContradiction fun q => by unfold qS at c; rw [if_pos q] at c; exact q c
 obtain ⟨hf, ok⟩ := actE_ok ca;have hp := orb_pos ok;rw [orbV_ok c, y0, jA, F47.t9, zA, F47.t6, zA, F47.bU, qp, decide_eq_true rfl, Zaf, F47.t5, zI, F47.v6, zE, zR, F47.t8, zA, F47.t7_s, xg (j := 0) (i := 0) rfl hp, ldL (getT (headT hp))];simp only [zQ, yK];rw [F47.ret];exact hK _ _ _ _ _ H0 (jJ (zG (u6 _)) (zG rfl)) (by rw [canV, if_neg (fun q => q c)])
def LT (v : AV) (l : List (List Int)) : Prop := (v = .zf /\ l = []) \/ (v = encT l /\ l ≠ [])
theorem LT.len {v : AV} {l : List (List Int)} (h : LT v l) {op : AV -> OP} : sLen v op = op (I l.length) := by
 rcases h with ⟨rfl, rfl⟩ | ⟨rfl, _⟩
 ·exact y8
 ·exact zH ..
theorem LT.frz {v : AV} {l : List (List Int)} (h : LT v l) {N : Pa -> Prop} {O : AV -> Prop} {hh : T Blk} : Frz True N O hh v (encT l) := by
 rcases h with ⟨rfl, rfl⟩ | ⟨rfl, _⟩
 ·exact .lnils 1
 ·exact zG (fixd_encT _)
end Go.Ev
namespace Go.Ev
open Go.Proofs
theorem mJ {n : Nat} {a : Sym} (ha : DP n a) {f : List Int} (hf : f.length = n) {M : Int} (hM : ∀ x ∈ f, -M <= x /\ x <= M) (h0 : 0 <= M) : ∀ y ∈ zY a.2 a.1 f, -(M + n + 1) <= y /\ y <= M + n + 1 := by
 intro y hy;obtain ⟨j, hj⟩ := List.getElem?_of_mem hy;have hjl := (List.getElem?_eq_some_iff.1 hj).1;rw [j4, hf] at hjl;obtain ⟨i, hi, e⟩ := ha.surj hjl;have g := wY ha hf hi;rw [e, Int.toNat_natCast, hj] at g;have hx : f.getD i 0 ∈ f := by
  rw [Zac, List.getElem?_eq_getElem (by omega)];exact Zak _
 have := hM _ hx;have e := Option.some.inj g;rw [e, xOf];split <;> omega
theorem img_same {G : List Sym} {n : Nat} (ok : bH G n) {f : List Int} (hf : f.length = n) {a : Sym} (ha : a ∈ G) (z : List Int) : z ∈ cZ G (zY a.2 a.1 f) ↔ z ∈ cZ G f := by
 have hal : (zY a.2 a.1 f).length = n := by rw [j4, hf]
 constructor
 ·intro h;obtain ⟨b, hb, rfl⟩ := List.mem_map.1 h;exact List.mem_map.2 ⟨zL b a, ok.cl b hb a ha, qZ (ok.dp b hb) (ok.dp a ha) hf⟩
 ·intro h;obtain ⟨b, hb, rfl⟩ := List.mem_map.1 h;obtain ⟨c, hc, e⟩ := ok.linv ha;refine List.mem_map.2 ⟨zL b c, ok.cl b hb c hc, ?_⟩;rw [qZ (ok.dp b hb) (ok.dp c hc) hal, <- qZ (ok.dp c hc) (ok.dp a ha) hf, e, apply_id hf]
theorem sort_same {G : List Sym} {n : Nat} (ok : bH G n) {f : List Int} (hf : f.length = n) {a : Sym} (ha : a ∈ G) : qO (cZ G (zY a.2 a.1 f)) = qO (cZ G f) :=
 mI (vC _) (vC _) fun z => by rw [mem_sortT, mem_sortT]; exact img_same ok hf ha z
def bW (G : List Sym) (f : List Int) : List Int := (qO (cZ G f)).headD []
theorem vP {G : List Sym} {n : Nat} (ok : bH G n) {f : List Int} (hf : f.length = n) : bW G f ∈ cZ G f := by
 subst hf;have := headT (orb_pos ok);exact mem_sortT.1 (Zaa this)
theorem can_min {G : List Sym} {f y : List Int} (hy : y ∈ cZ G f) : yU y (bW G f) = false := by
 have hy := mem_sortT.2 hy;have ha := vC (cZ G f);unfold bW;cases q : qO (cZ G f) with
 | nil => rw [q] at hy; cases hy
 | cons c l =>
  rw [q] at hy ha;rcases List.mem_cons.1 hy with rfl | h
  ·exact p8 _
  ·exact lexLt_asy ((List.pairwise_cons.1 ha).1 y h)
theorem can_same {G : List Sym} {n : Nat} (ok : bH G n) {f : List Int} (hf : f.length = n) {a : Sym} (ha : a ∈ G) : bW G (zY a.2 a.1 f) = bW G f := by
 unfold bW; rw [sort_same ok hf ha]
theorem can_iff {G : List Sym} {n : Nat} (ok : bH G n) {f g : List Int} (hf : f.length = n) (hg : g.length = n) : bW G f = bW G g ↔ ∃ a ∈ G, zY a.2 a.1 f = g := by
 constructor
 ·intro h;obtain ⟨a, ha, e1⟩ := List.mem_map.1 (vP ok hf);obtain ⟨b, hb, e2⟩ := List.mem_map.1 (vP ok hg);obtain ⟨c, hc, e⟩ := ok.linv hb;refine ⟨zL c a, ok.cl c hc a ha, ?_⟩;have e1 : zY a.2 a.1 f = bW G f := e1;have e2 : zY b.2 b.1 g = bW G g := e2;rw [qZ (ok.dp c hc) (ok.dp a ha) hf, e1, h, <- e2, <- qZ (ok.dp c hc) (ok.dp b hb) hg, e, apply_id hg]
 ·rintro ⟨a, ha, rfl⟩;exact (can_same ok hf ha).symm
end Go.Ev
namespace Go.Ev
open Go Go.Proofs
variable {B : Nat}
set_option maxRecDepth 100000
def xL (f : List Int) : Bool := decide (f.length <= 9) && f.all fun x => decide (-1000 <= x /\ x <= 1000)
theorem small80 {f : List Int} : Pure Tryz.prog B 80 [encI f] (· = .bool (xL f)) := by
 refine yL fun h nx K H0 hK => zP zS yt 1000 fun hf' => ?_;rw [F80.go, F80.t26, zA, F80.bM, F80.t25, zA, F80.t5, zA, F80.bP, zH, bQ, F80.t4, zI, F80.v3];by_cases c : 9 < f.length
 ·rw [decide_eq_true (by omega), zC, F80.t3, zA, F80.bU];simp only [zQ, yK];rw [F80.ret];exact hK _ _ _ _ _ H0 (zG rfl) (by rw [xL, decide_eq_false (by omega)]; rfl)
 rw [decide_eq_false (by omega), zE, zR, F80.t24, zA, F80.t21, zA, F80.t6_s, F80.t20, yD];refine F80.t19_L (fun m x2 h' nx' => ∃ i : Nat, x2 = I i /\ m = f.length - i /\ i <= f.length /\ (f.take i).all (fun x => decide (-1000 <= x /\ x <= 1000)) = true /\ Hp h h' nx' []) (m := f.length) (by omega) ⟨0, rfl, by omega, by omega, by simp, H0⟩ ?_;rintro m z1 z2 z4 z5 h3 nx3 R ⟨i, rfl, rfl, hi, ha, H3⟩ hR;rw [F80.t18, zA, F80.t9, zA, F80.t7_s, zH, qi];by_cases hlt : i < f.length
 case neg =>
  rw [Zam (by omega)] at ha;rw [decide_eq_false (by omega), F80.t8, zI, F80.v4, zE, gL, kP, F80.t23, zA, F80.t22_s, zQ, yK, F80.ret];exact hK _ _ _ _ _ H3 (zG rfl) (by rw [xL, ha, decide_eq_true (by omega)]; rfl)
 have hx : f[i]? = some f[i] := List.getElem?_eq_getElem hlt;have hno : ¬ (-1000 <= f[i] /\ f[i] <= 1000) -> xL f = false := fun q => by
  rw [xL];refine Bool.and_eq_false_iff.2 (.inr (Bool.eq_false_iff.2 fun z => ?_));exact q (of_decide_eq_true (List.all_eq_true.1 z _ (Zak hlt)))
 rw [decide_eq_true (by omega), F80.t8, zI, F80.v4, zC, zR, F80.t17, zA, F80.t15, yD, F80.t14, zA, F80.t10_s, F80.r5_0, F80.r5_0_g, xg rfl hlt, ldL (bZ hx), qi];by_cases c1 : f[i] < -1000
 ·simp only [c1, decide_true, jC];rw [F80.r5_1, F80.r5_1_g];simp only [jC, yB];rw [F80.t13, zI, F80.v5, zC, F80.t12, zA, F80.t11_s];simp only [zQ, kY, yK];rw [F80.ret];exact hK _ _ _ _ _ H3 (zG rfl) (by rw [hno (by omega)])
 ·simp only [c1, decide_false, yZ];rw [F80.r5_1, F80.r5_1_g];simp only [yZ];rw [xg rfl hlt, ldL (bZ hx), bQ, zW, F80.t13, zI, F80.v5];by_cases c2 : 1000 < f[i]
  ·rw [decide_eq_true c2, zC, F80.t12, zA, F80.t11_s];simp only [zQ, kY, yK];rw [F80.ret];exact hK _ _ _ _ _ H3 (zG rfl) (by rw [hno (by omega)])
  ·rw [decide_eq_false c2, zE, zR, F80.t16_s, ql (by omega)];exact hR (f.length - (i + 1)) _ _ _ _ _ _ (by omega) ⟨i + 1, rfl, rfl, by omega, wH hx ha (decide_eq_true (by omega)), H3⟩
def fewB (G : List Sym) (n k : Int) : Bool := decide ((G.length : Int) <= k) && (decide (n <= 16) && decide (yO G n = 0))
theorem few45 {G : List Sym} {n k : Int} (hk : k <= 100000) : Pure Tryz.prog B 45 [jd G, I n, I k] (· = .bool (fewB G n k)) := by
 refine yL fun h nx K H0 hK => zP zS yt 1000 fun hf' => ?_;rw [F45.go, F45.t3, zA, F45.bM, F45.t2, zA, F45.bP, F45.r1_0, F45.r1_0_g, zH, sLeq];have last : ∀ b : Bool, b = fewB G n k -> K (.bool b) h nx = .ok True := fun v hv => hK _ _ _ _ _ H0 (.bool _) (by rw [hv]);by_cases c1 : (G.length : Int) <= k
 case neg =>
  simp only [c1, decide_false, gD, zW];rw [F45.r1_1, F45.r1_1_g];simp only [gD, gW_ft];rw [F45.r1_2, F45.r1_2_g];simp only [gD, zW];simp only [zQ, yK];rw [F45.ret];exact last _ (by rw [fewB, decide_eq_false c1]; rfl)
 simp only [c1, decide_true, j3, sLeq, yB];rw [F45.r1_1, F45.r1_1_g];by_cases c2 : n <= 16
 case neg =>
  simp only [c2, decide_false, gD, gW_ft];rw [F45.r1_2, F45.r1_2_g];simp only [gD, zW];simp only [zQ, yK];rw [F45.ret];exact last _ (by rw [fewB, decide_eq_false c2]; simp)
 simp only [c2, decide_true, j3, gW_tt];refine refGroup110 (by omega) _ _ _ _ ?_;rintro _ rfl _;rw [F45.r1_2, F45.r1_2_g];simp only [j3, sEql, yB];simp only [zQ, yK];rw [F45.ret];exact last _ (by rw [fewB, decide_eq_true c1, decide_eq_true c2]; rfl)
theorem notFar {l : List Int} (h : ∀ x ∈ l, -900000 <= x /\ x <= 900000) : l.any farB = false := by
 refine Bool.eq_false_iff.2 fun q => ?_;obtain ⟨x, hx, e⟩ := List.any_eq_true.1 q;have := h x hx;simp only [farB, Zby, decide_eq_true_eq] at e;omega
theorem fill0 {f : List Int} (hl : f.length <= 256) (h : ∀ x ∈ f, -100000 <= x /\ x <= 100000) : gE f = 0 := by
 rw [gE, if_neg (by omega), rangeE, notFar fun x hx => by have := h x hx; omega]; rfl
theorem orb0 {G : List Sym} {f : List Int} (hg : yO G f.length = 0) (h : ∀ x ∈ f, -100000 <= x /\ x <= 100000) : qS G f = 0 := by
 obtain ⟨n, hn, ok⟩ := qG hg;obtain rfl : f.length = n := by omega
 have hl := ok.n256;have h0 := fill0 hl h;have ha : actE G f = 0 := by rw [actE, if_neg (fun q => q h0), hg]
 rw [qS, if_neg (fun q => q ha)];have : (cZ G f).any (·.any farB) = false := by
  refine Bool.eq_false_iff.2 fun q => ?_;obtain ⟨y, hy, e⟩ := List.any_eq_true.1 q;obtain ⟨a, ha, rfl⟩ := List.mem_map.1 hy;have hb := mJ (ok.dp a ha) rfl h (by decide);have e : (zY a.2 a.1 f).any farB = true := e;rw [notFar fun x hx => by have := hb x hx; omega] at e;cases e
 rw [this]; rfl
theorem can0 {G : List Sym} {f : List Int} (hg : yO G f.length = 0) (h : ∀ x ∈ f, -100000 <= x /\ x <= 100000) : canV G f = .tup [encI (bW G f), I 0] := by
 rw [canV, if_neg (fun q => q (orb0 hg h))]; rfl
theorem same0 {G : List Sym} {f g : List Int} (hg : yO G f.length = 0) (hl : f.length = g.length) (h : ∀ x ∈ f, -100000 <= x /\ x <= 100000) (h' : ∀ x ∈ g, -100000 <= x /\ x <= 100000) : mO G f g = 0 := by
 obtain ⟨n, hn, ok⟩ := qG hg;have hl2 := ok.n256;unfold mO;rw [fill0 (by omega) h, fill0 (by omega) h', if_pos hl];exact hg
theorem law17 {G : List Sym} {f g : List Int} (haw : ∀ {B}, Pure Tryz.prog B 18 [] (· = .bool true)) : Pure Tryz.prog B 17 [jd G, encI f, encI g] (· = .bool true) := by
 refine yL fun h nx K H0 hK => zP zS yt 100000 fun hf => ?_;have awk : ∀ (h : T Blk) (nx : Pa) (Z : Kw Prop), Z (.bool true) h nx = .ok True -> (CS Tryz.prog B).fn 18 (.of 18) [] h nx Z = .ok True := fun h nx Z hZ => haw _ _ _ _ fun v hv _ => by rw [hv]; exact hZ
 have ret : ∀ {h1 nx1 L}, Hp h h1 nx1 L -> K (.bool true) h1 nx1 = .ok True := fun H => hK _ _ _ _ _ H (zG rfl) rfl;rw [F17.go, F17.t50, zA, F17.bM, F17.t49, zA, F17.t5, zA, F17.bP, F17.r1_0, F17.r1_0_g];refine awk _ _ _ ?_;rw [F17.r1_1, F17.r1_1_g, yS, Zaf];simp only [yZ, d8]
 (refine small80 _ _ _ _ ?_; rintro _ rfl _)
 rw [F17.r1_2, F17.r1_2_g];cases c1 : xL f with
 | false =>
  simp only [yZ, yS, Zag, zW, jC, gW_tf];rw [F17.r1_3, F17.r1_3_g];simp only [jC, yB];rw [F17.r1_4, F17.r1_4_g];simp only [jC, gW_tf, yB];rw [F17.r1_5, F17.r1_5_g];simp only [jC, yB];rw [F17.t4, zI, F17.v16, zC, F17.t3, zA, F17.bU];refine awk _ _ _ ?_;simp only [zQ, yK];rw [F17.ret];exact ret H0
 | true =>
 simp only [yZ, yS, Zaf, zW, d8]
 (refine small80 _ _ _ _ ?_; rintro _ rfl _)
 rw [F17.r1_3, F17.r1_3_g];cases c2 : xL g with
 | false =>
  simp only [yZ, yS, Zag, zW, jC];rw [F17.r1_4, F17.r1_4_g];simp only [jC, gW_tf, yB];rw [F17.r1_5, F17.r1_5_g];simp only [jC, yB];rw [F17.t4, zI, F17.v16, zC, F17.t3, zA, F17.bU];refine awk _ _ _ ?_;simp only [zQ, yK];rw [F17.ret];exact ret H0
 | true =>
 simp only [yZ, yS, Zaf, zW, zH, qp];rw [F17.r1_4, F17.r1_4_g];by_cases c3 : f.length = g.length
 case neg =>
  simp only [show ¬ (f.length : Int) = (g.length : Int) by omega, decide_false, Zag, jC, gW_tf, zW];rw [F17.r1_5, F17.r1_5_g];simp only [jC, yB];rw [F17.t4, zI, F17.v16, zC, F17.t3, zA, F17.bU];refine awk _ _ _ ?_;simp only [zQ, yK];rw [F17.ret];exact ret H0
 simp only [show (f.length : Int) = (g.length : Int) by omega, decide_true, Zaf, yZ, d8, zW, zH];rw [<- c3]
 (refine few45 (by decide) _ _ _ _ ?_; rintro _ rfl _)
 rw [F17.r1_5, F17.r1_5_g];cases c4 : fewB G f.length 48 with
 | false =>
  simp only [yZ, yS, Zag, zW];rw [F17.t4, zI, F17.v16, zC, F17.t3, zA, F17.bU];refine awk _ _ _ ?_;simp only [zQ, yK];rw [F17.ret];exact ret H0
 | true =>
 simp only [yZ, yS, Zaf, zW];rw [F17.t4, zI, F17.v16, zE, zR, F17.t48, zA, F17.t6_s];simp only [fewB, Zad, decide_eq_true_eq] at c4;obtain ⟨hG48, hn16, hge⟩ := c4;obtain ⟨n, hn, ok⟩ := qG hge;have hfn : f.length = n := by omega
 have hgn : g.length = n := by omega
 simp only [xL, Zad, decide_eq_true_eq, Zah] at c1 c2;have hb : ∀ x ∈ f, -1000 <= x /\ x <= 1000 := c1.2;have hb' : ∀ x ∈ g, -1000 <= x /\ x <= 1000 := c2.2;have hbf : ∀ x ∈ f, -100000 <= x /\ x <= 100000 := fun x hx => by have := hb x hx; omega
 have hbg : ∀ x ∈ g, -100000 <= x /\ x <= 100000 := fun x hx => by have := hb' x hx; omega
 have hG : G.length <= 100000 := by omega
 have hw : ∀ a ∈ G, a.1.length <= 100000 := fun a ha => by have := (ok.dp a ha).1.1; omega
 have hw6 : ∀ a ∈ G, a.1.length <= 1000000 := fun a ha => by have := (ok.dp a ha).1.1; omega
 have hge' : yO G g.length = 0 := by rw [<- c3]; exact hge
 have hcl : ∀ {y : List Int}, y.length = n -> (bW G y).length = n := fun {y} hy => by
  obtain ⟨a, _, e⟩ := List.mem_map.1 (vP ok hy);have e : zY a.2 a.1 y = bW G y := e;rw [<- e, j4, hy]
 have hcf := hcl hfn;have hcb : ∀ x ∈ bW G f, -100000 <= x /\ x <= 100000 := by
  obtain ⟨a, ha, e⟩ := List.mem_map.1 (vP ok hfn);have e : zY a.2 a.1 f = bW G f := e;rw [<- e];intro x hx;have := mJ (ok.dp a ha) hfn hb (by decide) x hx;have := ok.n256;omega
 refine xZ hG hw (by omega) _ _ _ _ ?_;rintro _ rfl _;rw [can0 hge hbf, y0, jA, F17.t47, zA, F17.t7_s];refine xZ hG hw (by omega) _ _ _ _ ?_;rintro _ rfl _;rw [can0 hge' hbg, y0, jA, F17.t46, zA, F17.t12, zA, F17.t8_s, F17.r5_0, F17.r5_0_g, ql (by decide), qp, show ((0 : Int) + 0) = 0 from rfl, decide_eq_true (rfl : (0 : Int) = 0), Zaf];simp only [yZ, zH];rw [F17.r5_1, F17.r5_1_g];simp only [yZ, zH, qp, hcf, show (n : Int) = (f.length : Int) by omega, decide_true, Zaf, zW];rw [F17.t11, zI, F17.v17, zE, zR, F17.t45, zA, F17.t13_s, F17.t44, zA, F17.t39, zA, F17.t14_s, zH, F17.t38, yD];refine F17.t37_L (fun m x8 x19 h' nx' => ∃ i : Nat, x19 = I i /\ x8 = .bool ((G.take i).any fun a => decide (zY a.2 a.1 f = bW G f)) /\ m = G.length - i /\ i <= G.length /\ ∃ L', Hp h h' nx' L') (m := G.length) (by omega) ⟨0, rfl, rfl, by omega, by omega, [], H0⟩ ?_;rintro m z3 z8 z9 z10 z11 z12 z13 z14 z19 z20 z21 h3 nx3 R ⟨i, rfl, rfl, rfl, hi, L3, H3⟩ hR;rw [F17.t36, zA, F17.t15_s, qi];by_cases hlt : i < G.length
 case neg =>
  rw [decide_eq_false (by omega), F17.t35, zA, F17.t16, zI, F17.v20, zE, gL, kP, F17.t43, zA, F17.t40_s];have hall : (G.take i).any (fun a => decide (zY a.2 a.1 f = bW G f)) = true := by
   rw [Zam (by omega)];obtain ⟨a, ha, e⟩ := List.mem_map.1 (vP ok hfn);exact List.any_eq_true.2 ⟨a, ha, decide_eq_true e⟩
  rw [hall];have hci := can_iff ok hfn hgn;refine same86 hG hw (by omega) (by omega) _ _ _ _ ?_;rintro _ rfl _;have hs0 := same0 hge c3 hbf hbg;cases hfd : G.find? (goesB f g) with
  | none =>
   have hv : xM G f g = .tup [encZ, I 7] := by rw [xM, if_neg (fun q => q hs0), hfd]
   have hne : ¬ bW G f = bW G g := fun q => by
    obtain ⟨a, ha, e⟩ := hci.1 q;exact List.find?_eq_none.1 hfd a ha (decide_eq_true e)
   rw [hv, y0, jA];refine H3.alloc fun b h4 nx4 H4 => ?_;refine H4.jk (k := 0) (n := 2) rfl rfl rfl fun h5 H5 => ?_;rw [F17.t42, zA, F17.t41_s, F17.r19_0, F17.r19_0_g];simp only [j3, gW_tt, sEql];refine uS (by rw [hcf]; omega) _ _ _ _ ?_;rintro _ rfl _;rw [F17.r19_1, F17.r19_1_g];simp only [j3, sEqlB, beq_self_eq_true, sEql, hne, decide_false, decide_true, yB, yZ, show ¬ (7 : Int) = 0 by decide];rw [F17.r19_2, F17.r19_2_g];simp only [j3, zW, yB];simp only [zQ, yK];rw [F17.ret];exact ret H5
  | some a =>
   have hv : xM G f g = .tup [encS a, I 0] := by rw [xM, if_neg (fun q => q hs0), hfd]
   have he : bW G f = bW G g := hci.2 ⟨a, List.mem_of_find?_eq_some hfd, of_decide_eq_true (by have := List.find?_some hfd; exact this)⟩;rw [hv, y0, jA];refine H3.alloc fun b h4 nx4 H4 => ?_;refine H4.jk (k := 0) (n := 2) rfl rfl rfl fun h5 H5 => ?_;rw [F17.t42, zA, F17.t41_s, F17.r19_0, F17.r19_0_g];simp only [j3, gW_tt, sEql];refine uS (by rw [hcf]; omega) _ _ _ _ ?_;rintro _ rfl _;rw [F17.r19_1, F17.r19_1_g];simp only [j3, sEqlB, beq_self_eq_true, sEql, he, decide_true, yB, jC];rw [F17.r19_2, F17.r19_2_g];simp only [j3, yB];simp only [zQ, yK];rw [F17.ret];exact ret H5
 have hx : G[i]? = some G[i] := List.getElem?_eq_getElem hlt;have hxm := Zak hlt;have hdp := ok.dp _ hxm;have hal : (zY G[i].2 G[i].1 f).length = n := by rw [j4, hfn]
 rw [decide_eq_true (by omega), F17.t35, zA, F17.t16, zI, F17.v20, zC, zR, F17.t34, zA, F17.t32, yD, F17.t31, zA, F17.t17_s, F17.t30, zA, F17.t18_s, xg rfl hlt, jW hlt, kL];refine apply49 (g := G[i].1) (c := G[i].2) (by omega) (by rw [hdp.1.1]; omega) hdp.perm (fun y hy => by have := hb y hy; omega) _ _ _ _ ?_;rintro _ rfl _;have hyb : ∀ x ∈ zY G[i].2 G[i].1 f, -100000 <= x /\ x <= 100000 := fun x hx => by
  have := mJ hdp hfn hb (by decide) x hx;have := ok.n256;omega
 have hgy : yO G (zY G[i].2 G[i].1 f).length = 0 := by rw [hal, <- hn]; exact hge
 have hcy : bW G (zY G[i].2 G[i].1 f) = bW G f := can_same ok hfn hxm;have hmin : yU (zY G[i].2 G[i].1 f) (bW G f) = false := can_min (List.mem_map.2 ⟨_, hxm, rfl⟩);have ht : (G.take (i + 1)).any (fun a => decide (zY a.2 a.1 f = bW G f)) = ((G.take i).any (fun a => decide (zY a.2 a.1 f = bW G f)) || decide (zY G[i].2 G[i].1 f = bW G f)) := by
  rw [Zao, hx, List.any_append]; simp
 obtain ⟨a, hfd⟩ : ∃ a, G.find? (goesB (zY G[i].2 G[i].1 f) (bW G f)) = some a := by
  cases q : G.find? (goesB (zY G[i].2 G[i].1 f) (bW G f)) with
  | some a => exact ⟨a, rfl⟩
  | none =>
   obtain ⟨b, hb, e⟩ := List.mem_map.1 (vP ok hal);rw [hcy] at e;exact absurd (decide_eq_true e) (List.find?_eq_none.1 q b hb)
 have ham := List.mem_of_find?_eq_some hfd;have hae : zY a.2 a.1 (zY G[i].2 G[i].1 f) = bW G f := of_decide_eq_true (by have := List.find?_some hfd; exact this);have hda := ok.dp a ham
 generalize hy : zY G[i].2 G[i].1 f = y at *
 rw [F17.t29, zA, F17.t19_s];refine xZ hG hw (by omega) _ _ _ _ ?_;rintro _ rfl _;rw [can0 hgy hyb, y0, jA, F17.t28, zA, F17.t20_s];refine same86 hG hw (by omega) (by omega) _ _ _ _ ?_;rintro _ rfl _;have hv : xM G y (bW G f) = .tup [encS a, I 0] := by rw [xM, if_neg (fun q => q (same0 hgy (by omega) hyb hcb)), hfd]
 rw [hv, y0, jA];refine H3.alloc fun b h4 nx4 H4 => ?_;refine H4.jk (k := 0) (n := 2) rfl rfl rfl fun h5 H5 => ?_;rw [F17.t27, zA, F17.t25, zA, F17.t21_s, F17.r14_0, F17.r14_0_g, ql (by decide), qp, show ((0 : Int) + 0) = 0 from rfl, decide_eq_true (rfl : (0 : Int) = 0), Zaf];simp only [yZ, d8];refine uS (by rw [hcy, hcf]; omega) _ _ _ _ ?_;rintro _ rfl _;rw [F17.r14_1, F17.r14_1_g];simp only [yZ, d8, yS, hcy, decide_true, Zaf, zW];refine before74 (by omega) (by omega) _ _ _ _ ?_;rintro _ rfl _;rw [hmin, F17.r14_2, F17.r14_2_g, zW];simp only [yZ, d8];rw [H5.zi (k := 0) (n := 2) rfl rfl];refine index144 (a := a) (by omega) hw6 _ _ _ _ ?_;rintro _ ⟨r, rfl, hr⟩ _;have hr0 : ¬ r < 0 := fun q => hr.1 q ham;rw [F17.r14_3, F17.r14_3_g];simp only [yZ, d8, qi, hr0, decide_false, zW];rw [H5.zi (k := 0) (n := 2) rfl rfl];refine apply49 (g := a.1) (c := a.2) (by omega) (by rw [hda.1.1]; omega) hda.perm (fun z hz => by have := hyb z hz; omega) _ _ _ _ ?_;rintro _ rfl _;rw [hae, F17.r14_4, F17.r14_4_g];simp only [yZ, d8];refine uS (by omega) _ _ _ _ ?_;rintro _ rfl _;rw [F17.r14_5, F17.r14_5_g];simp only [yZ, yS, decide_true, Zaf, zW];rw [F17.t24, zI, F17.v21, zE, zR, F17.t26_s];cases c8 : (G.take i).any (fun a => decide (zY a.2 a.1 f = bW G f)) with
 | true =>
  rw [c8] at ht;simp only [jC, gW_tf, yB];rw [F17.t33_s, ql (by omega)];exact hR (G.length - (i + 1)) _ _ _ _ _ _ _ _ _ _ _ _ _ (by omega) ⟨i + 1, rfl, by rw [ht]; rfl, rfl, by omega, _, H5⟩
 | false =>
  rw [c8] at ht;simp only [yZ, d8];refine uS (by omega) _ _ _ _ ?_;rintro _ rfl _;rw [zW, F17.t33_s, ql (by omega)];exact hR (G.length - (i + 1)) _ _ _ _ _ _ _ _ _ _ _ _ _ (by omega) ⟨i + 1, rfl, by rw [ht]; rfl, rfl, by omega, _, H5⟩
end Go.Ev
