import Derived.Test.YtkjkjpmahgeneaaGreatDoorWordsa
import Derived.Test.YtkjkjpmahgeneaaGreatDoorCodea
import Derived.Test.YtkjkjpmahgeneaaGreatDoorEvD
import Derived.Test.YtkjkjpmahgeneaaGreatDoorLaws
import Derived.Shelf.SlSortCmp.Whole1
import Derived.Deep.Slices
set_option linter.unusedSimpArgs false
set_option linter.unusedVariables false
namespace Go.Ev
open Go Go.Proofs
variable {B : Nat}
set_option maxRecDepth 100000
theorem perm5 {α : Type} (a b c d e f g : α) (L : List α) : (a :: b :: c :: d :: e :: f :: g :: L).Perm (b :: c :: e :: ([a, d, f, g] ++ L)) :=
 (List.Perm.swap b a _).trans (.cons b ((List.Perm.swap c a _).trans (.cons c (((List.Perm.swap e d _).cons a).trans (List.Perm.swap e a _)))))
def subE (G S : List Sym) (n : Int) : Int := if yV G n ≠ 0 then yV G n else if yV S n ≠ 0 then yV S n else if S.all (fun a => decide (a ∈ G)) then 0 else 28
theorem xP {h0 h : T Blk} {nx p : Pa} {K : Kw Prop} {L : List Ob} {n : Int} {G S : List Sym} (hG : G.length <= 100000) (hw : ∀ g ∈ G, g.1.length <= 100000) (hS : S.length <= 100000) (hw2 : ∀ g ∈ S, g.1.length <= 100000) (H : Hp h0 h nx L)
  (hbad : ∀ e h' nx' X, e = subE G S n -> e ≠ 0 -> Hp h0 h' nx' (X ++ L) -> K (.tup [.jv, .agg [.zf, .zf], I e]) h' nx' = .ok True)
  (hok : ∀ (n' : Nat) (u1 q1 u2 q2 : List Sym) g o1 o2 h' nx' X, n = n' -> wu G n' -> wu S n' -> subE G S n = 0 -> (∀ c ∈ u1, c ∈ G) -> u1.length <= G.length -> CloS n' u1 q1 -> (∀ a, a ∈ q1 ↔ a ∈ G) -> (∀ c ∈ u2, c ∈ S) -> u2.length <= S.length -> CloS n' u2 q2 -> (∀ a, a ∈ q2 ↔ a ∈ S) -> (∀ a ∈ S, a ∈ G) ->
   Hp h0 h' nx' (.map g (qg q2) :: .gro o2 2 u2.length (yD u2) :: .gro o1 2 u1.length (yD u1) :: (X ++ L)) -> K (.tup [.map g, .agg [uw o1 2 u1.length, uw o2 2 u2.length], I 0]) h' nx' = .ok True) :
  (CS Tryz.prog B).fn 120 p [jc G, jc S, I n] h nx K = .ok True := by
 refine gR (p := .of 120) (K := K) (zQ zT yt 10000000 fun hf => ?_) fun _ _ _ _ q => q;rw [zk.go, zk.t40, zA, zk.xu];refine H.alloc fun b4 h1 nx1 H1 => ?_;rw [zk.t39, zA, zk.xw];refine H1.alloc fun b6 h2 nx2 H2 => ?_;rw [zk.t38, zA, zk.bQ];refine open167 hG hw H2 (fun h3 nx3 hg H3 => ?_) fun n' u1 q1 g1 o1 h3 nx3 hn ok1 hg1 hu1 hul1 hC1 hnd1 hq1 H3 => ?_
 ·rw [y0, jB, jP, zk.t37, zA, zk.t7, zA, zk.t3_s, ql, decide_eq_false hg, Zah, zk.t6, zI, zk.v13, zD, zk.t5, zA, zk.t4_s, H3.zi (k := 0) (n := 2) rfl rfl];refine H3.jl (k := 1) (n := 2) rfl rfl rfl fun h4 H4 => ?_;rw [zB];simp only [zR, yG];rw [zk.ret, H4.zi (k := 1) (n := 2) rfl rfl];exact hbad _ _ _ [_, _] (by rw [subE, if_pos hg]) hg H4
 rw [y0, jB, jP, zk.t37, zA, zk.t7, zA, zk.t3_s, ql, decide_eq_true rfl, Zae, zk.t6, zI, zk.v13, zC, zK, zk.t36, zA, zk.t8_s];refine open167 hS hw2 H3 (fun h4 nx4 hg H4 => ?_) fun n2 u2 q2 g2 o2 h4 nx4 hn2 ok2 hg2 hu2 hul2 hC2 hnd2 hq2 H4 => ?_
 ·rw [y0, jB, jP, zk.t35, zA, zk.t13, zA, zk.t9_s, ql, decide_eq_false hg, Zah, zk.t12, zI, zk.v14, zD, zk.t11, zA, zk.mr, H4.zi (k := 2) (n := 2) rfl rfl];refine H4.jl (k := 3) (n := 2) rfl rfl rfl fun h5 H5 => ?_;rw [zB];simp only [zR, yG];rw [zk.ret, H5.zi (k := 3) (n := 2) rfl rfl];exact hbad _ _ _ [_, _, _, _] (by rw [subE, if_neg (by simp [hg1]), if_pos hg]) hg H5
 subst hn;obtain rfl : n' = n2 := by omega
 rw [y0, jB, jP, zk.t35, zA, zk.t13, zA, zk.t9_s, ql, decide_eq_true rfl, Zae, zk.t12, zI, zk.v14, zC, zK, zk.t34, zA, zk.t29, zA, zk.t14_s];refine H4.range (k := 0) rfl fun it h5 nx5 H5 => ?_;have hlen : (qg q2).length = q2.length := by simp [qg]
 have hql : q2.length <= S.length := lenG hnd2 fun a ha => (hq2 a).1 ha;have hn256 : n' <= 256 := ok1.n256;have hd1 : ∀ b ∈ q1, DS n' b := fun b hb => (ok1.dp b ((hq1 b).1 hb)).1;rw [zk.t28, zP]
 refine zk.t27_L (fun m' h' nx' => ∃ seen : List Nat, (gT q2.length seen).length = m' /\ (∀ i ∈ seen, ∀ a, q2[i]? = some a -> a ∈ G) /\
  Hp h0 h' nx' (.iter it g2 (qg q2).length seen (qg q2).length :: .map g2 (qg q2) :: .gro o2 2 u2.length (yD u2) :: .map g1 (qg q1) :: .gro o1 2 u1.length (yD u1) :: .arr b6 [.zf, .zf] :: .arr b4 [.zf, .zf] :: L)) (m := q2.length) (by omega)
  ⟨[], by (have e : gT q2.length [] = List.range q2.length := List.filter_eq_self.2 (by simp)); rw [e]; simp, by simp, H5⟩ ?_
 rintro m' z3 z5 z12 z16 z17 h6 nx6 R ⟨seen, rfl, hse, H6⟩ hR;rw [zk.t26, zA, zk.t15_s];refine H6.next (k := 0) (j := 1) rfl rfl (fun hall => ?_) fun i a b h7 hi hnin hab H7 => ?_
 ·have hsub : ∀ a ∈ S, a ∈ G := fun a ha => by
   obtain ⟨i, hi⟩ := List.getElem?_of_mem ((hq2 a).2 ha);exact hse i (hall i (by rw [hlen]; exact (List.getElem?_eq_some_iff.1 hi).1)) a hi
  rw [y0, zk.t25, zA, zk.t16, zI, zk.v16, zC, jG, gG, zk.t33, zA, zk.t30_s, sAx0];refine H6.store (k := 5) rfl (by simp) (j9 _ _ _) fun h7 H7 => ?_;rw [sAx1];refine H7.store (k := 5) rfl (by simp) (j9 _ _ _) fun h8 H8 => ?_;rw [zk.t32, zA, zk.t31_s, H8.zi (k := 5) (n := 2) rfl rfl];refine H8.jl (k := 6) (n := 2) rfl rfl rfl fun h9 H9 => ?_;simp only [zR, yG];rw [zk.ret, H9.zi (k := 6) (n := 2) rfl rfl];refine hok n' u1 q1 u2 q2 g2 o1 o2 _ _ [_, _, _, _] rfl ok1 ok2 (by rw [subE, if_neg (by simp [hg1]), if_neg (by simp [hg2]), if_pos (List.all_eq_true.2 fun a ha => decide_eq_true (hsub a ha))]) hu1 hul1 hC1 hq1 hu2 hul2 hC2 hq2 hsub (H9.perm (perm5 _ _ _ _ _ _ _ _))
 ·have hi' : i < q2.length := by rw [<- hlen]; exact hi
  have hx : q2[i]? = some q2[i] := List.getElem?_eq_getElem hi';have hent : (qg q2)[i]? = some (.str (fD q2[i]), encS q2[i]) := by rw [qg, List.getElem?_map, hx]; rfl
  rw [hent] at hab;cases hab
  rw [y0, zk.t25, zA, zk.t16, zI, zk.v16, zD, zK, zk.t24, zP, zk.t23, zA, zk.t17_s, H7.entry (k := 0) (j := 1) rfl rfl hent, jB];refine H7.alloc fun b5 h8 nx8 H8 => ?_;refine H8.jl (k := 0) (n := 2) rfl rfl rfl fun h9 H9 => ?_;rw [zk.t22, zA, zk.t18_s, H9.zi (k := 0) (n := 2) rfl rfl];have hd2 : DS n' q2[i] := (ok2.dp _ ((hq2 _).1 (Zak hi'))).1;refine mH (a := q2[i]) hn256 hd2 hd1 H9 (k := 4) rfl ?_;rw [yX, zk.t21, zI, zk.v17];by_cases c : q2[i] ∈ q1
  ·rw [decide_eq_true c, Zae, zC, zK];refine hR _ _ _ _ _ _ _ _ (show (gT q2.length (i :: seen)).length < _ by have := leftA_step hi' hnin; omega) ⟨i :: seen, rfl, fun j hj a ha => ?_, H9.drop⟩;rcases List.mem_cons.1 hj with rfl | r
   ·rw [hx] at ha; cases ha; exact (hq1 _).1 c
   ·exact hse j r a ha
  ·rw [decide_eq_false c, Zah, zD, zk.t20, zA, zk.t19_s, H9.zi (k := 6) (n := 2) rfl rfl];refine H9.jl (k := 7) (n := 2) rfl rfl rfl fun h10 H10 => ?_;simp only [zR, kX, yG];rw [zk.ret, H10.zi (k := 7) (n := 2) rfl rfl];refine hbad 28 _ _ [_, _, _, _, _, _, _, _] ?_ (by decide) H10;rw [subE, if_neg (by simp [hg1]), if_neg (by simp [hg2]), if_neg];intro hall;have := List.all_eq_true.1 hall q2[i] ((hq2 _).1 (Zak hi'));exact c ((hq1 _).2 (of_decide_eq_true this))
def closE (l : List Sym) (n : Int) : Int := if n < 0 \/ 256 < n then 3 else if 256 < l.length then 5 else jC n l
def ClosQ (l : List Sym) (n : Int) (v : AV) : Prop := if closE l n ≠ 0 then v = .tup [.zf, I (closE l n)] else ∃ n' : Nat, n = n' /\ n' <= 256 /\ (∀ a ∈ l, DP n' a) /\
 ((bG n' 1536 l /\ v = .tup [.zf, I 20]) \/ ∃ u q s, (∀ c ∈ u, c ∈ l) /\ (∀ a ∈ l, a ∈ q) /\ q.Nodup /\ CloS n' u q /\ q.length <= 1536 /\ s.Perm q /\ s.Pairwise (fun a b => bP a b <= 0) /\ v = .tup [jc s, I 0])
abbrev fxP (a : Sym) : AV × Sym := (encI a.1, a)
theorem fxP_snd : ∀ q : List Sym, (q.map fxP).map (·.2) = q
 | [] => rfl
 | a :: q => congrArg (a :: ·) (fxP_snd q)
theorem sort_ex (q : List Sym) : ∃ s : List Sym, s.Perm q /\ s.Pairwise (fun a b => bP a b <= 0) :=
 ⟨(srtP (q.map fxP)).map (·.2), by have := (pX (q.map fxP)).map (·.2); rw [fxP_snd] at this; exact this, List.pairwise_map.2 (srtP_srt _)⟩
theorem entP_fx (q : List Sym) : entP (q.map fxP) = qg q := by simp [entP, qg]
theorem flatP_fx : ∀ q : List Sym, y8 (q.map fxP) = yD q
 | [] => rfl
 | a :: q => by
  show encI a.1 :: .bool a.2 :: y8 (q.map fxP) = _;rw [flatP_fx q]; rfl
theorem xF {q : List Sym} : ∀ v ∈ yD q, fC v = true := fun v hv => by
 obtain ⟨x, _, hx⟩ := List.mem_flatMap.1 hv;simp only [Zag, List.not_mem_nil, or_false] at hx;rcases hx with rfl | rfl
 ·exact uM _
 ·rfl
theorem closure27 {l : List Sym} {n : Int} (hl : l.length <= 100000) (hw : ∀ g ∈ l, g.1.length <= 100000) : Pure Tryz.prog B 27 [jc l, I n] (ClosQ l n) := by
 refine yK fun h nx K H0 hK => zQ zT yt 1000 fun hf' => ?_;rw [F27.go, F27.t27, zA, F27.xu, F27.t26, zA, F27.t7, zA, F27.xw]
 (refine cells182 n _ _ _ _ ?_; rintro _ rfl _)
 rw [zH, bV]
 (refine qA _ _ _ _ _ _ ?_; rintro _ rfl _)
 refine H0.zy (l := [I (if n < 0 \/ 256 < n then 3 else 0), I (if decide ((256 : Int) < (l.length : Int)) = true then 5 else 0)]) rfl fun tb h1 nx1 H1 => ?_;refine vM (l := [if n < 0 \/ 256 < n then 3 else 0, if decide ((256 : Int) < (l.length : Int)) = true then 5 else 0]) H1 (k := 0) rfl (fun B => pG (by simp)) (fun v hv => by rw [hv]; exact .int _ _) ?_;rintro _ rfl;have fE : xZ [if n < 0 \/ 256 < n then (3 : Int) else 0, if decide ((256 : Int) < (l.length : Int)) = true then 5 else 0] = if n < 0 \/ 256 < n then 3 else if 256 < l.length then 5 else 0 := by
  by_cases c1 : n < 0 \/ 256 < n
  ·rw [if_pos c1, if_pos c1]; rfl
  rw [if_neg c1, if_neg c1];by_cases c2 : 256 < l.length
  ·rw [decide_eq_true (show (256 : Int) < (l.length : Int) by omega), if_pos c2]; rfl
  ·rw [decide_eq_false (show ¬ (256 : Int) < (l.length : Int) by omega), if_neg c2]; rfl
 rw [fE, F27.t6, zA, F27.bQ, ql, F27.t5, zI, F27.v8];have bad : ∀ (e : Int) h' nx' L', Hp h h' nx' L' -> e = closE l n -> e ≠ 0 -> K (.tup [.zf, I e]) h' nx' = .ok True := fun e h' nx' L' H' he hne =>
  hK _ _ _ _ _ H' (jQ (zG rfl) (zG rfl)) (by rw [ClosQ, <- he, if_pos hne])
 by_cases c1 : (if n < 0 \/ 256 < n then (3 : Int) else if 256 < l.length then 5 else 0) = 0
 case neg =>
  rw [decide_eq_false c1, Zah, zD, F27.t4, zA, F27.t3_s];simp only [zR, yG];rw [F27.ret];refine bad _ _ _ _ H1 ?_ c1;rw [closE];split at c1
  ·rename_i q; rw [if_pos q, if_pos q]
  ·rename_i q; rw [if_neg q, if_neg q];split at c1
   ·rename_i q; rw [if_pos q, if_pos q]
   ·exact absurd rfl c1
 rw [decide_eq_true c1, Zae, zC, zK, F27.t25, zA, F27.t14, zA, F27.t8_s];obtain ⟨c2, c3⟩ : ¬ (n < 0 \/ 256 < n) /\ ¬ 256 < l.length := by
  split at c1
  ·omega
  ·rename_i q;split at c1
   ·omega
   ·rename_i q2; exact ⟨q, q2⟩
 have e0 : closE l n = jC n l := by rw [closE, if_neg c2, if_neg c3]
 refine m4 hl hw _ _ _ _ ?_;rintro _ rfl _;rw [F27.t13, zA, F27.t9_s, ql, F27.t12, zI, F27.v9];by_cases c4 : jC n l = 0
 case neg =>
  rw [decide_eq_false c4, Zah, zD, F27.t11, zA, F27.mr];simp only [zR, yG];rw [F27.ret];exact bad _ _ _ _ H1 e0.symm c4
 rw [decide_eq_true c4, Zae, zC, zK, F27.t24, zA, F27.t15_s];obtain ⟨n', rfl⟩ : ∃ n' : Nat, n = (n' : Int) := ⟨n.toNat, by omega⟩;have hdp : ∀ g ∈ l, DP n' g := fun g hg => by
  obtain ⟨_, q2, q3⟩ := u6 (qN c4 g hg);exact DP.of q3 (by omega)
 have hn256 : n' <= 256 := by omega
 have good : ∀ {v h' nx' L' v'}, Hp h h' nx' L' -> FrzN h h' v v' -> ((bG n' 1536 l /\ v' = .tup [.zf, I 20]) \/ ∃ u q s, (∀ c ∈ u, c ∈ l) /\ (∀ a ∈ l, a ∈ q) /\ q.Nodup /\ CloS n' u q /\ q.length <= 1536 /\ s.Perm q /\ s.Pairwise (fun a b => bP a b <= 0) /\ v' = .tup [jc s, I 0]) -> K v h' nx' = .ok True := fun H' hF hq =>
  hK _ _ _ _ _ H' hF (by rw [ClosQ, e0, if_neg (by simp [c4])]; exact ⟨n', rfl, hn256, hdp, hq⟩)
 refine closure187 (n := n') (limit := 1536) hn256 (by omega) (by omega) (fun g hg => (hdp g hg).1) (by omega) H1 (fun h16 nx16 hT H16 => ?_) fun u q g o h16 nx16 hu _ hin hqn hC hql H16 => ?_
 ·rw [y0, jB, jP, F27.t23, zA, F27.t20, zA, F27.cO, yX, Zah, F27.t19, zI, F27.v10, zD, F27.t18, zA, F27.t17_s];simp only [zR, yG];rw [F27.ret];exact good H16 (jQ (zG rfl) (zG rfl)) (.inl ⟨hT, rfl⟩)
 rw [y0, jB, jP, F27.t23, zA, F27.t20, zA, F27.cO, yX, Zae, F27.t19, zI, F27.v10, zC, zK, F27.t22, zA, F27.t21_s];have hdq : ∀ a ∈ q, DP n' a := hC.dom (jF n') fun b hb => hdp b (hu b hb);have hone : idS n' ∈ q := hC.one;have hq0 : 0 < q.length := List.length_pos_of_mem hone;obtain ⟨s, hs1, hs2⟩ : ∃ s : List Sym, s.Perm q /\ s.Pairwise (fun a b => bP a b <= 0) := by
  exact sort_ex q
 have hsm := fxP_snd;have he : (Ob.map g (qg q)) = .map g (entP (q.map fxP)) := by rw [entP_fx]
 rw [he] at H16;refine list99P (k := 0) (q := q.map fxP) (s := s.map fxP) H16 rfl (by simpa using hq0) (by simp; omega) (fun a ha => ?_) (by rw [hsm]; exact hqn) (hs1.map _) (List.pairwise_map.2 hs2) fun o' h17 nx17 A H17 => ?_
 ·obtain ⟨b, hb, rfl⟩ := List.mem_map.1 ha;have := (hdq b hb).1.1;exact ⟨.inl rfl, by show b.1.length <= _; omega⟩
 ·simp only [zR, yG];rw [F27.ret];rw [Zan, flatP_fx] at H17;rw [Zan];refine good H17 (jQ (H17.frzGro (k := 0) rfl xF) (zG rfl)) (.inr ⟨u, q, s, hu, hin, hqn, hC, hql, hs1, hs2, rfl⟩)
end Go.Ev
namespace Go.Ev
theorem befS_asymm {a b : Sym} (h : bY a b = true) : bY b a = false := by
 cases c : bY b a with
 | false => rfl
 | true => have := befS_trans h c; rw [kQ] at this; cases this
def yI (S : List Sym) (a : Sym) : Bool := S.all fun b => !bY (zL a b) a
def cosL (G S : List Sym) : List Sym := G.filter (yI S)
def cosU (C S : List Sym) : List Sym := C.flatMap fun a => S.map (zL a)
theorem mem_cosU {C S : List Sym} {x : Sym} : x ∈ cosU C S ↔ ∃ a ∈ C, ∃ b ∈ S, zL a b = x := by
 simp [cosU]
section
variable {G S : List Sym} {n : Nat}
theorem wu.inv2 (hS : wu S n) {b : Sym} (hb : b ∈ S) : ∃ c ∈ S, ∀ a, DP n a -> zL (zL a b) c = a := by
 obtain ⟨c, hc, e⟩ := hS.inv b hb;exact ⟨c, hc, fun a ha => by rw [(jF n).assoc a b c ha (hS.dp b hb) (hS.dp c hc), e, (jF n).er a ha]⟩
theorem qX (hS : wu S n) {a x b : Sym} (ha : DP n a) (hb : b ∈ S) (e : zL a b = x) : ∃ c ∈ S, zL x c = a := by
 obtain ⟨c, hc, q⟩ := hS.inv2 hb;exact ⟨c, hc, by rw [<- e]; exact q a ha⟩
theorem coset_step (hS : wu S n) {a x b c : Sym} (ha : DP n a) (hb : b ∈ S) (hc : c ∈ S) (e : zL a b = x) : zL x c = zL a (zL b c) /\ zL b c ∈ S :=
 ⟨by rw [<- e, (jF n).assoc a b c ha (hS.dp b hb) (hS.dp c hc)], hS.cl b hb c hc⟩
theorem ord_lt (hG : wu G n) {i j : Nat} {a b : Sym} (hi : G[i]? = some a) (hj : G[j]? = some b) (h : i < j) : bY a b = true := by
 obtain ⟨hi1, rfl⟩ := List.getElem?_eq_some_iff.1 hi;obtain ⟨hj1, rfl⟩ := List.getElem?_eq_some_iff.1 hj;exact List.pairwise_iff_getElem.1 (d6 hG.ord) i j hi1 hj1 h
theorem ord_idx (hG : wu G n) {i j : Nat} {a b : Sym} (hi : G[i]? = some a) (hj : G[j]? = some b) (h : bY a b = true) : i < j := by
 rcases Nat.lt_trichotomy i j with q | rfl | q
 ·exact q
 ·rw [hi] at hj; cases hj; rw [kQ] at h; cases h
 ·have := ord_lt hG hj hi q;rw [befS_asymm this] at h; cases h
theorem m0 (hG : wu G n) (hS : wu S n) (hs : ∀ a ∈ S, a ∈ G) {i : Nat} {a : Sym} (hi : G[i]? = some a) : ∃ (j : Nat) (m : Sym), j <= i /\ G[j]? = some m /\ yI S m = true /\ (∃ b ∈ S, zL a b = m) /\ ∀ k x, G[k]? = some x -> (∃ b ∈ S, zL a b = x) -> j <= k := by
  have haG := Zaa hi;have hda := hG.dp a haG;have hex : ∃ (k : Nat) (x : Sym), G[k]? = some x /\ ∃ b ∈ S, zL a b = x := ⟨i, a, hi, idS n, hS.one, (jF n).er a hda⟩;have key : ∀ N : Nat, (∃ (k : Nat) (x : Sym), k <= N /\ G[k]? = some x /\ ∃ b ∈ S, zL a b = x) -> ∃ (j : Nat) (m : Sym), G[j]? = some m /\ (∃ b ∈ S, zL a b = m) /\ ∀ (k : Nat) (x : Sym), G[k]? = some x -> (∃ b ∈ S, zL a b = x) -> j <= k := by
    intro N
    induction N with
    | zero => rintro ⟨k, x, hk, hx, hb⟩; obtain rfl : k = 0 := by omega
              exact ⟨0, x, hx, hb, fun _ _ _ _ => Nat.zero_le _⟩
    | succ N ih =>
      rintro ⟨k, x, hk, hx, hb⟩;by_cases c : ∃ (k : Nat) (x : Sym), k <= N /\ G[k]? = some x /\ ∃ b ∈ S, zL a b = x
      · exact ih c
      · have hkN : k = N + 1 := by
          rcases Nat.lt_or_ge k (N + 1) with q | q
          · exact absurd ⟨k, x, by omega, hx, hb⟩ c
          · omega
        subst hkN;refine ⟨_, x, hx, hb, fun k' x' hk' hb' => ?_⟩;rcases Nat.lt_or_ge k' (N + 1) with q | q
        · exact absurd ⟨k', x', by omega, hk', hb'⟩ c
        · exact q
  obtain ⟨k0, x0, h1, h2⟩ := hex;obtain ⟨j, m, hj, hm, hmin⟩ := key k0 ⟨k0, x0, Zai _, h1, h2⟩;refine ⟨j, m, hmin i a hi ⟨idS n, hS.one, (jF n).er a hda⟩, hj, List.all_eq_true.2 fun b hb => ?_, hm, hmin⟩;obtain ⟨c, hc, e⟩ := hm;obtain ⟨e2, hcb⟩ := coset_step hS hda hc hb e;have hin : zL m b ∈ G := hG.cl m (Zaa hj) b (hs b hb);obtain ⟨k, hk⟩ := List.getElem?_of_mem hin;have hle := hmin k _ hk ⟨_, hcb, e2.symm⟩;cases q : bY (zL m b) m with
  | false => rfl
  | true => have := ord_idx hG hk hj q; omega
theorem coset_seen (hG : wu G n) (hS : wu S n) (hs : ∀ a ∈ S, a ∈ G) {i : Nat} {a : Sym} (hi : G[i]? = some a) : a ∈ cosU ((G.take i).filter (yI S)) S ↔ yI S a = false := by
 rw [mem_cosU];have hda := hG.dp a (Zaa hi);constructor
 ·rintro ⟨m, hm, b, hb, e⟩;obtain ⟨hm1, hm2⟩ := List.mem_filter.1 hm;obtain ⟨j, hj⟩ := List.getElem?_of_mem hm1;have hjl := (List.getElem?_eq_some_iff.1 hj).1;rw [Zau] at hjl;rw [List.getElem?_take_of_lt (by omega)] at hj;have hlt := ord_lt hG hj hi (by omega);obtain ⟨c, hc, e2⟩ := qX hS (hG.dp m (Zaa hj)) hb e;cases q : yI S a with
  | false => rfl
  | true =>
   have := List.all_eq_true.1 q c hc;rw [e2, hlt] at this; cases this
 ·intro hl;obtain ⟨j, m, hj1, hj, hm, ⟨b, hb, e⟩, _⟩ := m0 hG hS hs hi;have hne : j ≠ i := by
   rintro rfl;rw [hi] at hj; cases hj;rw [hm] at hl; cases hl
  refine ⟨m, List.mem_filter.2 ⟨?_, hm⟩, qX hS hda hb e⟩;exact Zaa (i := j) (by rw [List.getElem?_take_of_lt (by omega)]; exact hj)
theorem coset_new (hG : wu G n) (hS : wu S n) {C : List Sym} (hC : ∀ m ∈ C, m ∈ G) {a b : Sym} (ha : a ∈ G) (hb : b ∈ S) (hn : a ∉ cosU C S) : zL a b ∉ cosU C S := by
 intro h;obtain ⟨m, hm, c, hc, e⟩ := mem_cosU.1 h;obtain ⟨d, hd, q⟩ := hS.inv2 hb;have hdm := hG.dp m (hC m hm);refine hn (mem_cosU.2 ⟨m, hm, zL c d, hS.cl c hc d hd, ?_⟩);rw [<- (jF n).assoc m c d hdm (hS.dp c hc) (hS.dp d hd), e];exact q a (hG.dp a ha)
theorem mN (hS : wu S n) {a b c : Sym} (ha : DP n a) (hb : b ∈ S) (hc : c ∈ S) (e : zL a b = zL a c) : b = c := (jF n).cl a b c ha (hS.dp b hb) (hS.dp c hc) e
end
end Go.Ev
namespace Go.Ev
open Go Go.Proofs
variable {B : Nat}
set_option maxRecDepth 100000
def cosV (G S : List Sym) (n : Int) : AV := if subE G S n ≠ 0 then .tup [.zf, I (subE G S n)] else .tup [jc (cosL G S), I 0]
theorem flatG_snoc (q : List Sym) (a : Sym) : yD (q ++ [a]) = yD q ++ [encI a.1, .bool a.2] := by unfold yD; rw [Zcj]; rfl
theorem cosets39 {G S : List Sym} {n : Int} (hG : G.length <= 100000) (hw : ∀ g ∈ G, g.1.length <= 100000) (hS : S.length <= 100000) (hw2 : ∀ g ∈ S, g.1.length <= 100000) : Pure Tryz.prog B 39 [jc G, jc S, I n] (· = cosV G S n) := by
 refine yK fun h nx K H0 hK => zQ zT yt 10000000 fun hf' => ?_;rw [F39.go, F39.t37, zA, F39.xu];refine H0.box (l := [jc S]) rfl fun b3 h1 nx1 H1 => ?_;rw [F39.t36, zA, F39.t7, zA, F39.xw, H1.load (k := 0) (i := 0) rfl rfl];refine xP hG hw hS hw2 H1 (fun e h2 nx2 X he hne H2 => ?_) fun n' u1 q1 u2 q2 g o1 o2 h2 nx2 X hn ok1 ok2 hse _ _ _ _ _ _ _ _ hsub H2 => ?_
 ·rw [y0, jB, jP];refine H2.alloc fun b6 h3 nx3 H3 => ?_;refine H3.jl (k := 0) (n := 2) rfl rfl rfl fun h4 H4 => ?_;rw [F39.t6, zA, F39.bQ, ql, decide_eq_false hne, Zah, F39.t5, zI, F39.v12, zD, F39.t4, zA, F39.t3_s];simp only [zR, yG];rw [F39.ret];exact hK _ _ _ _ _ H4 (jQ (zG rfl) (zG rfl)) (by rw [cosV, <- he, if_pos hne])
 subst hn;have hn256 := ok1.n256;have H2 : Hp h h2 nx2 [.arr b3 [jc S]] := Hp.pre (_ :: _ :: _ :: X) H2;rw [y0, jB, jP];refine H2.alloc fun b6 h3 nx3 H3 => ?_;refine H3.jl (k := 0) (n := 2) rfl rfl rfl fun h4 H4 => ?_;rw [F39.t6, zA, F39.bQ, ql, decide_eq_true rfl, Zae, F39.t5, zI, F39.v12, zC, zK, F39.t35, zA, F39.t8_s];refine H4.fH fun gm h5 nx5 H5 => ?_;refine H5.alloc fun b7 h6 nx6 H6 => ?_;refine H6.store (k := 0) rfl (by simp) rfl fun h7 H7 => ?_;rw [F39.t34, zA, F39.t9_s];refine H7.alloc fun b8 h8 nx8 H8 => ?_;rw [F39.t33, zA, F39.t30, zA, F39.mr];refine vE _ _ _ _ ?_;rintro _ rfl _;rw [F39.t29, zP, F39.t28];have H9 := H8.addGro 2;have T : ∃ T : List Ob, T = [.arr b6 [uw o1 2 u1.length, uw o2 2 u2.length], .arr b3 [jc S]] := ⟨_, rfl⟩;obtain ⟨T, hT⟩ := T;have hout : ∀ i, ((G.take i).filter (yI S)).length <= G.length := fun i => by
  have := Zby (yI S) (G.take i);rw [Zau] at this; omega
 refine rfAll H9 F39.t28_f (fun v w k => F39.t28_b k) (by omega)
  (fun i L' => ∃ o, L' = .gro o 2 ((G.take i).filter (yI S)).length (yD ((G.take i).filter (yI S))) :: .arr b8 [uw o 2 ((G.take i).filter (yI S)).length] :: .arr b7 [.map gm] :: .map gm (qg (cosU ((G.take i).filter (yI S)) S)) :: T)
  (fun _ => False) (fun _ _ => False) ⟨none, by subst hT; rfl⟩
  (fun i x Rb Rb' h10 nx10 L' M E O1 O2 hx hJ H10 hM hE hR hX => ?_) (fun h10 nx10 L' hJ H10 => ?_) (fun _ _ _ hX _ => hX.elim) (fun _ _ _ _ hX _ => hX.elim)
 case refine_2 =>
  obtain ⟨o, rfl⟩ := hJ;rw [Zal (Zai _)] at H10;rw [F39.t32, zA, F39.t31_s, H10.load (k := 1) (i := 0) rfl rfl];simp only [zR, yG];rw [F39.ret];exact hK _ _ _ _ _ H10 (jQ (H10.frzGro (k := 0) rfl xF) (zG rfl)) (by rw [cosV, hse, if_neg (by decide)]; rfl)
 obtain ⟨o, rfl⟩ := hJ;have hxm := Zaa hx;have hdx := ok1.dp x hxm;have htake : G.take (i + 1) = G.take i ++ [x] := by rw [Zap, hx]; rfl
 have hCm : ∀ m ∈ (G.take i).filter (yI S), m ∈ G := fun m hm => Zcc (List.mem_filter.1 hm).1;have hks : ∀ b ∈ cosU ((G.take i).filter (yI S)) S, DS n' b := fun b hb => by
  obtain ⟨m, hm, c, hc, rfl⟩ := mem_cosU.1 hb;exact (ok1.dp _ (ok1.cl m (hCm m hm) c (hsub c hc))).1
 rw [F39.t11_s];refine H10.alloc fun b9 h11 nx11 H11 => ?_;refine H11.jl (k := 0) (n := 2) rfl rfl rfl fun h12 H12 => ?_;refine hM _ _ _ [_] H12 fun h13 H13 => ?_;rw [F39.t27, zP, F39.t26, zA, F39.t14, zA, F39.t12_s, H13.load (k := 4) (i := 0) rfl rfl, H13.zi (k := 0) (n := 2) rfl rfl];refine mH (a := x) hn256 hdx.1 hks H13 (k := 5) rfl ?_;rw [F39.t13, zI, F39.v16];have hseen := coset_seen ok1 ok2 hsub hx;by_cases c : x ∈ cosU ((G.take i).filter (yI S)) S
 ·rw [decide_eq_true c, zD, jG, gG];have hfl : (G.take (i + 1)).filter (yI S) = (G.take i).filter (yI S) := by
   rw [htake, List.filter_append, List.filter_cons_of_neg (by rw [hseen.1 c]; decide)]; simp
  exact hE _ _ _ [_] _ ⟨o, by rw [hfl]⟩ H13
 have hlx : yI S x = true := by
  cases q : yI S x with
  | true => rfl
  | false => exact absurd (hseen.2 q) c
 have hfl : (G.take (i + 1)).filter (yI S) = (G.take i).filter (yI S) ++ [x] := by
  rw [htake, List.filter_append, List.filter_cons_of_pos hlx]; rfl
 rw [decide_eq_false c, zC, zK, F39.t25, zA, F39.t23, zA, F39.t15_s];subst hT;rw [H13.load (k := 7) (i := 0) rfl rfl];refine vE _ _ _ _ ?_;rintro _ rfl _;rw [F39.t22, zP, F39.t21]
 refine rfAll H13 F39.t21_f (fun v w k => F39.t21_b k) (by omega)
  (fun k L' => L' = .arr b9 [encI x.1, .bool x.2] :: Rb' :: .gro o 2 ((G.take i).filter (yI S)).length (yD ((G.take i).filter (yI S))) :: .arr b8 [uw o 2 ((G.take i).filter (yI S)).length] :: .arr b7 [.map gm] :: .map gm (qg (cosU ((G.take i).filter (yI S)) S ++ (S.take k).map (zL x))) :: [.arr b6 [uw o1 2 u1.length, uw o2 2 u2.length], .arr b3 [jc S]])
  (fun _ => False) (fun _ _ => False) (by simp)
  (fun k y Sb Sb' h14 nx14 L' M' E' O1' O2' hy hJ H14 hM' hE' hR' hX' => ?_) (fun h14 nx14 L' hJ H14 => ?_) (fun _ _ _ hX _ => hX.elim) (fun _ _ _ _ hX _ => hX.elim)
 ·subst hJ;have hym := Zaa hy;have hdy := ok2.dp y hym;have htk : S.take (k + 1) = S.take k ++ [y] := by rw [Zap, hy]; rfl
  have hxy : DS n' (zL x y) := (ok1.dp _ (ok1.cl x hxm y (hsub y hym))).1;rw [F39.cO];refine H14.alloc fun b10 h15 nx15 H15 => ?_;refine H15.jl (k := 0) (n := 2) rfl rfl rfl fun h16 H16 => ?_;refine hM' _ _ _ [_] H16 fun h17 H17 => ?_;rw [F39.t20, zP, F39.t19, zA, F39.t17_s, H17.zi (k := 2) (n := 2) rfl rfl, H17.zi (k := 0) (n := 2) rfl rfl];refine vF (a := x) (b := y) (fun z hz => by rw [hdx.1.1]; exact hdy.1.2 z hz) (by rw [hdy.1.1]; omega) _ _ _ _ ?_;rintro _ rfl _;refine H17.alloc fun b11 h18 nx18 H18 => ?_;refine H18.jl (k := 0) (n := 2) rfl rfl rfl fun h19 H19 => ?_;rw [F39.t18_s, H19.load (k := 7) (i := 0) rfl rfl, H19.zi (k := 0) (n := 2) rfl rfl, H19.zi (k := 0) (n := 2) rfl rfl];refine mD (a := zL x y) (fun z hz => by have := hxy.2 z hz; omega) (by rw [hxy.1]; omega) _ _ _ _ ?_;rintro _ rfl _;rw [H19.zi (k := 0) (n := 2) rfl rfl, zB, H19.load (k := 7) (i := 0) rfl rfl, zB];refine H19.putS (a := zL x y) hn256 hxy (fun b hb => ?_) (fun hin => ?_) (k := 8) rfl fun h20 H20 => ?_
  ·rcases List.mem_append.1 hb with q | q
   ·exact hks b q
   ·obtain ⟨z, hz, rfl⟩ := List.mem_map.1 q;exact (ok1.dp _ (ok1.cl x hxm z (hsub z (Zcc hz)))).1
  ·rcases List.mem_append.1 hin with q | q
   ·exact coset_new ok1 ok2 hCm hxm hym c q
   ·obtain ⟨z, hz, e⟩ := List.mem_map.1 q;have := mN ok2 hdx (Zcc hz) hym e;subst this;obtain ⟨j, hj⟩ := List.getElem?_of_mem hz;have hjl := (List.getElem?_eq_some_iff.1 hj).1;rw [Zau] at hjl;rw [List.getElem?_take_of_lt (by omega)] at hj;have := ord_lt ok2 hj hy (by omega);rw [kQ] at this; cases this
  ·refine hE' _ _ _ [_, _] _ ?_ H20;rw [htk, Zbh, <- Zbr]
   rfl
 ·subst hJ;rw [Zal (Zai _)] at H14;rw [F39.t24_s, H14.load (k := 3) (i := 0) rfl rfl, sFx, H14.load (k := 0) (i := 0 + 0) rfl rfl, sFx, H14.load (k := 0) (i := 0 + 1) rfl rfl];refine clone106 _ (by rw [hdx.1.1]; omega) _ _ _ _ ?_;rintro _ rfl _;rw [H14.load (k := 0) (i := 0 + 1) rfl rfl, zB, sFx, zB, H14.load (k := 3) (i := 0) rfl rfl, zB, wY rfl rfl];refine H14.zy (l := [encI x.1, .bool x.2]) rfl fun tb h15 nx15 H15 => ?_;rw [H15.load (k := 4) (i := 0) rfl rfl, zB, sAppq_row];refine H15.appN (k := 3) (o := o) (c := 1) (esz := 2) (new := [encI x.1, .bool x.2]) rfl (je.rd (l := [encI x.1, .bool x.2]) (n := 1) (e := 2) (H15.own _ (Zaj ..)) rfl) rfl rfl (by decide) (by decide) (by have := hout i; omega) fun o'' h16 nx16 _ H16 => ?_;refine H16.store (k := 4) rfl (by simp) (j9 _ _ _) fun h17 H17 => ?_;refine hE _ _ _ [_, _] _ ⟨o'', ?_⟩ H17;rw [hfl, Zat, flatG_snoc];have : cosU ((G.take i).filter (yI S) ++ [x]) S = cosU ((G.take i).filter (yI S)) S ++ S.map (zL x) := by simp [cosU]
  rw [this]
  rfl
theorem clone106o {h0 h : T Blk} {nx p : Pa} {L : List Ob} {f : List Int} {K : Kw Prop} (hf : 0 < f.length) (hl : f.length <= 1000) (H : Hp h0 h nx L)
  (hK : ∀ id cap h' nx', pM f.length cap -> Hp h0 h' nx' (.arr id (f.map I) :: L) -> K (.sl id 0 f.length cap 1) h' nx' = .ok True) : (CS Tryz.prog B).fn 106 p [encI f] h nx K = .ok True := by
 refine gR (p := .of 106) (K := K) (zQ zT yt 9 fun hf => ?_) fun _ _ _ _ q => q;cases f with
 | nil => simp at hf
 | cons x t =>
  rw [F106.go];have e : ∀ A C : OP, (zu .eql (.nil .sl) (encI (x :: t)) .zf fun v1 => yA v1 A C) = C := fun A C => nr rfl;rw [e];exact H.copyArrO (new := (x :: t).map I) (c := (x :: t).length) (fun e h1 n1 H1 => rdLst 1) (by simp) (List.all_eq_true.2 fun v hv => by obtain ⟨z, _, rfl⟩ := List.mem_map.1 hv; rfl) (by decide) (by omega) hK
def RowOwn (L : List Ob) (p : AV × Sym) : Prop := ∃ rid cap, p.1 = .sl rid 0 p.2.1.length cap 1 /\ pM p.2.1.length cap /\ Ob.arr rid (p.2.1.map I) ∈ L
theorem RowOwn.mono {L L' : List Ob} {p : AV × Sym} (h : RowOwn L p) (hl : ∀ x ∈ L, x ∈ L') : RowOwn L' p := by
 obtain ⟨r, c, e, hc, m⟩ := h;exact ⟨r, c, e, hc, hl _ m⟩
theorem frzArrN {h0 h : T Blk} {nx : Pa} {L : List Ob} {id : Pa} {l : List Int} {cap : Option Nat} (H : Hp h0 h nx L) (hm : Ob.arr id (l.map I) ∈ L) (hc : pM l.length cap) : Frz False (fun _ => True) (fun _ => False) h (.sl id 0 l.length cap 1) (encI l) := by
 obtain ⟨op, t, h1, h2⟩ := H.own _ hm;rw [Zan] at h1 h2;refine .sl _ _ _ _ _ op _ t _ trivial hc h1 (by omega) (by simp) (List.all_eq_true.2 fun v hv => by obtain ⟨z, _, rfl⟩ := List.mem_map.1 hv; rfl) fun i v hi => ?_;have hil : i < l.length := by have := (List.getElem?_eq_some_iff.1 hi).1; simpa using this
 have := yB t 0 l.length i hil;rw [h2, hi] at this;rw [<- Option.some.inj this];obtain ⟨z, _, rfl⟩ := List.mem_map.1 (Zaa hi);exact .int _ _
theorem frzOwn {h0 h : T Blk} {nx : Pa} {L : List Ob} {k n : Nat} {o : Option Pa} {out : List (AV × Sym)} (H : Hp h0 h nx L) (hk : L[k]? = some (.gro o 2 n (y8 out))) (hr : ∀ p ∈ out, RowOwn L p) : Frz False (fun _ => True) (fun _ => False) h (uw o 2 n) (jc (out.map (·.2))) := by
 have own := H.own _ (Zaa hk);have hlen := qH out;cases o with
 | none =>
  obtain ⟨e, rfl⟩ := own;rw [e] at hlen;obtain rfl : out = [] := Zba (by simp at hlen; omega);exact .lnils 2
 | some id =>
  obtain ⟨t, h1, h2, h3⟩ := own;have hn : n = (out.map (·.2)).length := by rw [Zan]; omega
  subst hn;refine .sl _ _ _ _ _ true _ t _ trivial trivial h1 (by omega) (uL _) (List.all_eq_true.2 fun v hv => fC.jg (xF v hv)) fun i v hi => ?_;have hil : i < (out.map (·.2)).length * 2 := by have := (List.getElem?_eq_some_iff.1 hi).1; rwa [uL] at this
  have := yB t 0 ((out.map (·.2)).length * 2) i hil;rw [h3, wP] at this;rw [mL, List.getElem?_map] at hi;cases hq : out[i / 2]? with
  | none => rw [hq] at hi; cases hi
  | some p =>
   rw [hq] at hi this;obtain ⟨rid, cap, e, hc, hm⟩ := hr p (Zaa hq);have hi := Option.some.inj hi;have this := Option.some.inj this;by_cases c : i % 2 = 0
   ·simp only [if_pos c] at hi this;rw [<- this, <- hi, e];exact frzArrN H hm hc
   ·simp only [if_neg c] at hi this;rw [<- this, <- hi];exact .bool _
theorem frz_tup2N {N : Pa -> Prop} {O : AV -> Prop} {A : Prop} {hh : T Blk} {a b a' b' : AV} (h1 : Frz A N O hh a a') (h2 : Frz A N O hh b b') : Frz A N O hh (.tup [a, b]) (.tup [a', b']) := by
 refine .tup _ _ rfl fun i v v' hi hi' => ?_
 match i with
 | 0 => simp at hi hi'; subst hi; subst hi'; exact h1
 | 1 => simp at hi hi'; subst hi; subst hi'; exact h2
 | i + 2 => simp at hi
theorem cosets39N {G S : List Sym} {n : Int} (hG : G.length <= 100000) (hw : ∀ g ∈ G, g.1.length <= 100000) (hS : S.length <= 100000) (hw2 : ∀ g ∈ S, g.1.length <= 100000) (hse0 : subE G S n = 0) (hn0 : 0 < n) : PureN Tryz.prog 39 [jc G, jc S, I n] (.tup [jc (cosL G S), I 0]) := by
 intro B K hK0;have hK : ∀ v h' nx' L v', Hp .e h' nx' L -> Frz False (fun _ => True) (fun _ => False) h' v v' -> v' = .tup [jc (cosL G S), I 0] -> K v h' nx' = .ok True := fun v h' nx' L v' _ hF e => hK0 _ _ _ (e ▸ hF);refine zQ zT yt 10000000 fun hf' => ?_;have H0 : Hp .e .e .z [] := Hp.init hf';rw [F39.go, F39.t37, zA, F39.xu];refine H0.box (l := [jc S]) rfl fun b3 h1 nx1 H1 => ?_;rw [F39.t36, zA, F39.t7, zA, F39.xw, H1.load (k := 0) (i := 0) rfl rfl];refine xP hG hw hS hw2 H1 (fun e h2 nx2 X he hne H2 => ?_) fun n' u1 q1 u2 q2 g o1 o2 h2 nx2 X hn ok1 ok2 hse _ _ _ _ _ _ _ _ hsub H2 => ?_
 ·rw [y0, jB, jP];refine H2.alloc fun b6 h3 nx3 H3 => ?_;refine H3.jl (k := 0) (n := 2) rfl rfl rfl fun h4 H4 => ?_;rw [hse0] at he; exact absurd he hne
 subst hn;have hn256 := ok1.n256;have H2 : Hp .e h2 nx2 [.arr b3 [jc S]] := Hp.pre (_ :: _ :: _ :: X) H2;rw [y0, jB, jP];refine H2.alloc fun b6 h3 nx3 H3 => ?_;refine H3.jl (k := 0) (n := 2) rfl rfl rfl fun h4 H4 => ?_;rw [F39.t6, zA, F39.bQ, ql, decide_eq_true rfl, Zae, F39.t5, zI, F39.v12, zC, zK, F39.t35, zA, F39.t8_s];refine H4.fH fun gm h5 nx5 H5 => ?_;refine H5.alloc fun b7 h6 nx6 H6 => ?_;refine H6.store (k := 0) rfl (by simp) rfl fun h7 H7 => ?_;rw [F39.t34, zA, F39.t9_s];refine H7.alloc fun b8 h8 nx8 H8 => ?_;rw [F39.t33, zA, F39.t30, zA, F39.mr];refine vE _ _ _ _ ?_;rintro _ rfl _;rw [F39.t29, zP, F39.t28];have H9 := H8.addGro 2;have T : ∃ T : List Ob, T = [.arr b6 [uw o1 2 u1.length, uw o2 2 u2.length], .arr b3 [jc S]] := ⟨_, rfl⟩;obtain ⟨T, hT⟩ := T;have hout : ∀ i, ((G.take i).filter (yI S)).length <= G.length := fun i => by
  have := Zby (yI S) (G.take i);rw [Zau] at this; omega
 refine rfAll H9 F39.t28_f (fun v w k => F39.t28_b k) (by omega)
  (fun i L' => ∃ (o : Option Pa) (out : List (AV × Sym)) (rows : List Ob), out.map (·.2) = (G.take i).filter (yI S) /\ (∀ p ∈ out, RowOwn rows p) /\ L' = .gro o 2 out.length (y8 out) :: .arr b8 [uw o 2 out.length] :: .arr b7 [.map gm] :: .map gm (qg (cosU ((G.take i).filter (yI S)) S)) :: (T ++ rows))
  (fun _ => False) (fun _ _ => False) ⟨none, [], [], by simp, by simp, by subst hT; rfl⟩
  (fun i x Rb Rb' h10 nx10 L' M E O1 O2 hx hJ H10 hM hE hR hX => ?_) (fun h10 nx10 L' hJ H10 => ?_) (fun _ _ _ hX _ => hX.elim) (fun _ _ _ _ hX _ => hX.elim)
 case refine_2 =>
  obtain ⟨o, out, rows, ho, hr, rfl⟩ := hJ;rw [Zal (Zai _)] at H10 ho;rw [F39.t32, zA, F39.t31_s, H10.load (k := 1) (i := 0) rfl rfl];simp only [zR, yG];rw [F39.ret];refine hK _ _ _ _ (.tup [jc (cosL G S), I 0]) H10 (frz_tup2N ?_ (.int _ _)) rfl;have := frzOwn (k := 0) H10 rfl fun p hp => (hr p hp).mono fun x hx => by simp [hx]
  rw [ho] at this;exact this
 obtain ⟨o, out, rows, ho, hr, rfl⟩ := hJ;have hol : out.length = ((G.take i).filter (yI S)).length := by rw [<- ho, Zan]
 have hxm := Zaa hx;have hdx := ok1.dp x hxm;have htake : G.take (i + 1) = G.take i ++ [x] := by rw [Zap, hx]; rfl
 have hCm : ∀ m ∈ (G.take i).filter (yI S), m ∈ G := fun m hm => Zcc (List.mem_filter.1 hm).1;have hks : ∀ b ∈ cosU ((G.take i).filter (yI S)) S, DS n' b := fun b hb => by
  obtain ⟨m, hm, c, hc, rfl⟩ := mem_cosU.1 hb;exact (ok1.dp _ (ok1.cl m (hCm m hm) c (hsub c hc))).1
 rw [F39.t11_s];refine H10.alloc fun b9 h11 nx11 H11 => ?_;refine H11.jl (k := 0) (n := 2) rfl rfl rfl fun h12 H12 => ?_;refine hM _ _ _ [_] H12 fun h13 H13 => ?_;rw [F39.t27, zP, F39.t26, zA, F39.t14, zA, F39.t12_s, H13.load (k := 4) (i := 0) rfl rfl, H13.zi (k := 0) (n := 2) rfl rfl];refine mH (a := x) hn256 hdx.1 hks H13 (k := 5) rfl ?_;rw [F39.t13, zI, F39.v16];have hseen := coset_seen ok1 ok2 hsub hx;by_cases c : x ∈ cosU ((G.take i).filter (yI S)) S
 ·rw [decide_eq_true c, zD, jG, gG];have hfl : (G.take (i + 1)).filter (yI S) = (G.take i).filter (yI S) := by
   rw [htake, List.filter_append, List.filter_cons_of_neg (by rw [hseen.1 c]; decide)]; simp
  exact hE _ _ _ [_] _ ⟨o, out, rows, by rw [hfl]; exact ho, hr, by rw [hfl]⟩ H13
 have hlx : yI S x = true := by
  cases q : yI S x with
  | true => rfl
  | false => exact absurd (hseen.2 q) c
 have hfl : (G.take (i + 1)).filter (yI S) = (G.take i).filter (yI S) ++ [x] := by
  rw [htake, List.filter_append, List.filter_cons_of_pos hlx]; rfl
 rw [decide_eq_false c, zC, zK, F39.t25, zA, F39.t23, zA, F39.t15_s];subst hT;rw [H13.load (k := 7) (i := 0) rfl rfl];refine vE _ _ _ _ ?_;rintro _ rfl _;rw [F39.t22, zP, F39.t21]
 refine rfAll H13 F39.t21_f (fun v w k => F39.t21_b k) (by omega)
  (fun k L' => L' = .arr b9 [encI x.1, .bool x.2] :: Rb' :: .gro o 2 out.length (y8 out) :: .arr b8 [uw o 2 out.length] :: .arr b7 [.map gm] :: .map gm (qg (cosU ((G.take i).filter (yI S)) S ++ (S.take k).map (zL x))) :: ([.arr b6 [uw o1 2 u1.length, uw o2 2 u2.length], .arr b3 [jc S]] ++ rows))
  (fun _ => False) (fun _ _ => False) (by simp)
  (fun k y Sb Sb' h14 nx14 L' M' E' O1' O2' hy hJ H14 hM' hE' hR' hX' => ?_) (fun h14 nx14 L' hJ H14 => ?_) (fun _ _ _ hX _ => hX.elim) (fun _ _ _ _ hX _ => hX.elim)
 ·subst hJ;have hym := Zaa hy;have hdy := ok2.dp y hym;have htk : S.take (k + 1) = S.take k ++ [y] := by rw [Zap, hy]; rfl
  have hxy : DS n' (zL x y) := (ok1.dp _ (ok1.cl x hxm y (hsub y hym))).1;rw [F39.cO];refine H14.alloc fun b10 h15 nx15 H15 => ?_;refine H15.jl (k := 0) (n := 2) rfl rfl rfl fun h16 H16 => ?_;refine hM' _ _ _ [_] H16 fun h17 H17 => ?_;rw [F39.t20, zP, F39.t19, zA, F39.t17_s, H17.zi (k := 2) (n := 2) rfl rfl, H17.zi (k := 0) (n := 2) rfl rfl];refine vF (a := x) (b := y) (fun z hz => by rw [hdx.1.1]; exact hdy.1.2 z hz) (by rw [hdy.1.1]; omega) _ _ _ _ ?_;rintro _ rfl _;refine H17.alloc fun b11 h18 nx18 H18 => ?_;refine H18.jl (k := 0) (n := 2) rfl rfl rfl fun h19 H19 => ?_;rw [F39.t18_s, H19.load (k := 7) (i := 0) rfl rfl, H19.zi (k := 0) (n := 2) rfl rfl, H19.zi (k := 0) (n := 2) rfl rfl];refine mD (a := zL x y) (fun z hz => by have := hxy.2 z hz; omega) (by rw [hxy.1]; omega) _ _ _ _ ?_;rintro _ rfl _;rw [H19.zi (k := 0) (n := 2) rfl rfl, zB, H19.load (k := 7) (i := 0) rfl rfl, zB];refine H19.putS (a := zL x y) hn256 hxy (fun b hb => ?_) (fun hin => ?_) (k := 8) rfl fun h20 H20 => ?_
  ·rcases List.mem_append.1 hb with q | q
   ·exact hks b q
   ·obtain ⟨z, hz, rfl⟩ := List.mem_map.1 q;exact (ok1.dp _ (ok1.cl x hxm z (hsub z (Zcc hz)))).1
  ·rcases List.mem_append.1 hin with q | q
   ·exact coset_new ok1 ok2 hCm hxm hym c q
   ·obtain ⟨z, hz, e⟩ := List.mem_map.1 q;have := mN ok2 hdx (Zcc hz) hym e;subst this;obtain ⟨j, hj⟩ := List.getElem?_of_mem hz;have hjl := (List.getElem?_eq_some_iff.1 hj).1;rw [Zau] at hjl;rw [List.getElem?_take_of_lt (by omega)] at hj;have := ord_lt ok2 hj hy (by omega);rw [kQ] at this; cases this
  ·refine hE' _ _ _ [_, _] _ ?_ H20;rw [htk, Zbh, <- Zbr]
   rfl
 ·subst hJ;rw [Zal (Zai _)] at H14;rw [F39.t24_s, H14.load (k := 3) (i := 0) rfl rfl, sFx, H14.load (k := 0) (i := 0 + 0) rfl rfl, sFx, H14.load (k := 0) (i := 0 + 1) rfl rfl];refine clone106o (f := x.1) (by rw [hdx.1.1]; omega) (by rw [hdx.1.1]; omega) H14 fun rid cap h15 nx15 hcap H15 => ?_;rw [H15.load (k := 1) (i := 0 + 1) rfl rfl, zB, sFx, zB, H15.load (k := 4) (i := 0) rfl rfl, zB, wY rfl rfl];refine H15.zy (l := [.sl rid 0 x.1.length cap 1, .bool x.2]) rfl fun tb h16 nx16 H16 => ?_;rw [H16.load (k := 5) (i := 0) rfl rfl, zB, sAppq_row];refine H16.appN (k := 4) (o := o) (c := 1) (esz := 2) (new := [.sl rid 0 x.1.length cap 1, .bool x.2]) rfl (je.rd (l := [.sl rid 0 x.1.length cap 1, .bool x.2]) (n := 1) (e := 2) (H16.own _ (Zaj ..)) rfl) rfl rfl (by decide) (by decide) (by have := hout i; omega) fun o'' h17 nx17 _ H17 => ?_;refine H17.store (k := 5) rfl (by simp) (j9 _ _ _) fun h18 H18 => ?_;have hp : Hp .e h18 nx17 ([.arr tb [.sl rid 0 x.1.length cap 1, .bool x.2], .arr b9 [encI x.1, .bool x.2]] ++ Rb' :: (.gro o'' 2 (out.length + 1) (y8 out ++ [.sl rid 0 x.1.length cap 1, .bool x.2]) :: .arr b8 [uw o'' 2 (out.length + 1)] :: .arr b7 [.map gm] :: .map gm (qg (cosU ((G.take i).filter (yI S)) S ++ S.map (zL x))) :: ([.arr b6 [uw o1 2 u1.length, uw o2 2 u2.length], .arr b3 [jc S]] ++ (.arr rid (x.1.map I) :: rows)))) := by
   refine H18.perm ?_;show List.Perm (_ :: _ :: _ :: _ :: _ :: _ :: _ :: _ :: _ :: _ :: rows) (_ :: _ :: _ :: _ :: _ :: _ :: _ :: _ :: _ :: _ :: rows);exact .cons _ (Zbl (l₁ := [_, _, _, _, _, _, _, _]) (a := Ob.arr rid (x.1.map I)) (l₂ := rows)).symm
  refine hE _ _ _ [_, _] _ ⟨o'', out ++ [(.sl rid 0 x.1.length cap 1, x)], .arr rid (x.1.map I) :: rows, ?_, ?_, ?_⟩ hp
  ·rw [Zbh, ho, hfl]; rfl
  ·intro p hp;rcases List.mem_append.1 hp with q | q
   ·exact (hr p q).mono fun z hz => Zao _ hz
   ·obtain rfl := List.mem_singleton.1 q;exact ⟨rid, cap, rfl, hcap, Zaj ..⟩
  ·rw [hfl];have e1 : cosU ((G.take i).filter (yI S) ++ [x]) S = cosU ((G.take i).filter (yI S)) S ++ S.map (zL x) := by simp [cosU]
   have e2 : y8 (out ++ [(.sl rid 0 x.1.length cap 1, x)]) = y8 out ++ [.sl rid 0 x.1.length cap 1, .bool x.2] := by unfold y8; rw [Zcj]; rfl
   rw [e1, e2, Zat]
   subst_vars
   rfl
end Go.Ev
namespace Go.Ev
theorem sub_permG {α : Type} [DecidableEq α] : ∀ (l r : List α), l.Nodup -> (∀ x ∈ l, x ∈ r) -> ∃ s, r.Perm (l ++ s)
 | [], r, _, _ => ⟨r, .refl _⟩
 | a :: l, r, hn, hs => by
  obtain ⟨h1, h2⟩ := List.nodup_cons.1 hn;have ha := hs a (by simp);obtain ⟨s, hp⟩ := sub_permG l (r.erase a) h2 fun x hx => (List.mem_erase_of_ne (by rintro rfl; exact h1 hx)).2 (hs x (by simp [hx]));exact ⟨s, (List.perm_cons_erase ha).trans (.cons a hp)⟩
theorem perm_of_sub {α : Type} [DecidableEq α] {l r : List α} (h1 : l.Nodup) (h2 : ∀ x ∈ l, x ∈ r) (h3 : r.length <= l.length) : r.Perm l := by
 obtain ⟨s, hs⟩ := sub_permG l r h1 h2;have hl := hs.length_eq;obtain rfl : s = [] := Zba (by rw [Zat] at hl; omega);simpa using hs
theorem nodup_get {α : Type} {l : List α} (h : l.Nodup) {i j : Nat} {x : α} (hi : l[i]? = some x) (hj : l[j]? = some x) : i = j := by
 obtain ⟨a1, a2⟩ := List.getElem?_eq_some_iff.1 hi;obtain ⟨b1, b2⟩ := List.getElem?_eq_some_iff.1 hj;have hp := List.pairwise_iff_getElem.1 h;rcases Nat.lt_trichotomy i j with c | c | c
 ·exact absurd (a2.trans b2.symm) (hp i j a1 b1 c)
 ·exact c
 ·exact absurd (b2.trans a2.symm) (hp j i b1 a1 c)
theorem getD_some {l : List Int} {i : Nat} (h : i < l.length) : l[i]? = some (l.getD i 0) := by
 rw [Zac, List.getElem?_eq_getElem h]; rfl
theorem fA.surj {g : List Int} (h : fA g) {j : Nat} (hj : j < g.length) : ∃ i, i < g.length /\ g[i]? = some (j : Int) := by
 have hp : ((List.range g.length).map fun (i : Nat) => (i : Int)).Perm g := perm_of_sub h.1 (fun x hx => by
  have := h.2 x hx;exact List.mem_map.2 ⟨x.toNat, List.mem_range.2 (by omega), by omega⟩) (by simp)
 have hm : (j : Int) ∈ g := hp.mem_iff.1 (List.mem_map.2 ⟨j, List.mem_range.2 hj, rfl⟩);obtain ⟨i, hi⟩ := List.mem_iff_getElem?.1 hm;exact ⟨i, (List.getElem?_eq_some_iff.1 hi).1, hi⟩
theorem applyP_get {n : Nat} {c : Bool} {g f : List Int} (hg : fA g) (hgn : g.length = n) : ∀ (i k : Nat), i <= n -> k < i -> (u5 n c g f i)[(g.getD k 0).toNat]? = some (xOf n c (f.getD k 0))
 | 0, k, _, h => by omega
 | i + 1, k, hi, h => by
  rw [kU];have hk := hg.2 _ (Zaa (getD_some (l := g) (i := k) (by omega)));have hi' := hg.2 _ (Zaa (getD_some (l := g) (i := i) (by omega)));by_cases e : k = i
  ·subst e;rw [List.getElem?_set, if_pos rfl, if_pos (by rw [jW]; omega)]
  ·rw [List.getElem?_set_ne, applyP_get hg hgn i k (by omega) (by omega)];intro q;have e1 : g.getD i 0 = g.getD k 0 := by omega
   have := nodup_get hg.1 (getD_some (l := g) (i := i) (by omega)) (e1 ▸ getD_some (l := g) (i := k) (by omega));omega
theorem applyS_get {c : Bool} {g f : List Int} (hg : fA g) (hgn : g.length = f.length) {k : Nat} (h : k < f.length) : (yR c g f)[(g.getD k 0).toNat]? = some (xOf f.length c (f.getD k 0)) := applyP_get hg hgn _ k (Zai _) h
theorem jN (c : Bool) (g f : List Int) : (yR c g f).length = f.length := jW _ _ _ _ _
theorem xOf_xOf (n : Nat) (a b : Bool) (x : Int) : xOf n a (xOf n b x) = xOf n (a != b) x := by
 cases a <;> cases b <;> simp [xOf] <;> omega
theorem DP.surj {n : Nat} {a : Sym} (ha : DP n a) {j : Nat} (hj : j < n) : ∃ i, i < n /\ a.1.getD i 0 = (j : Int) := by
 have h1 := ha.1.1;obtain ⟨i, hi, e⟩ := ha.perm.surj (show j < a.1.length by omega);exact ⟨i, by omega, by rw [Zac, e]; rfl⟩
theorem wV {n : Nat} {a : Sym} (ha : DP n a) {f : List Int} (hf : f.length = n) {k : Nat} (hk : k < n) : (yR a.2 a.1 f)[(a.1.getD k 0).toNat]? = some (xOf n a.2 (f.getD k 0)) := by
 have h1 := ha.1.1;have := applyS_get (c := a.2) ha.perm (show a.1.length = f.length by omega) (show k < f.length by omega);rw [hf] at this;exact this
theorem xJ {n : Nat} {a b : Sym} (ha : DP n a) (hb : DP n b) {f : List Int} (hf : f.length = n) : yR (zL a b).2 (zL a b).1 f = yR a.2 a.1 (yR b.2 b.1 f) := by
 have hc := (jF n).dm a b ha hb;have hl := jN b.2 b.1 f;refine qI (n := n) (by rw [jN, hf]) (by rw [jN, jN, hf]) fun j hj => ?_;obtain ⟨i, hi, e⟩ := hc.surj hj;have g1 := wV hc hf hi;obtain ⟨_, b1, b2⟩ := hb.1.get hi;have hk : (b.1.getD i 0).toNat < n := by omega
 have g2 := wV hb hf hi;have g3 := wV ha (show (yR b.2 b.1 f).length = n by omega) hk;rw [Zac (l := yR b.2 b.1 f), g2] at g3;have e2 : a.1.getD (b.1.getD i 0).toNat 0 = (j : Int) := by
  rw [<- e, Zac (l := (zL a b).1), uO hb.1 hi]; rfl
 rw [e2, Int.toNat_natCast] at g3;rw [e, Int.toNat_natCast] at g1;rw [g1, g3]
 congr 1
 exact (xOf_xOf n a.2 b.2 _).symm
theorem apply_id {n : Nat} {f : List Int} (hf : f.length = n) : yR (idS n).2 (idS n).1 f = f := by
 have hd := (jF n).de;refine qI (n := n) (by rw [jN, hf]) hf fun j hj => ?_;have e : (idS n).1.getD j 0 = (j : Int) := by
  show ((List.range n).map fun j : Nat => (j : Int)).getD j 0 = _;rw [Zac, List.getElem?_map, List.getElem?_range hj]; rfl
 have := wV hd hf hj;rw [e, Int.toNat_natCast] at this;rw [this, Zac, List.getElem?_eq_getElem (by omega)]; rfl
theorem wu.linv {G : List Sym} {n : Nat} (h : wu G n) {a : Sym} (ha : a ∈ G) : ∃ b ∈ G, zL b a = idS n := by
 have L := jF n;obtain ⟨b, hb, e1⟩ := h.inv a ha;obtain ⟨c, hc, e2⟩ := h.inv b hb;have da := h.dp a ha;have db := h.dp b hb;have dc := h.dp c hc;have : a = c := by
  have := L.assoc a b c da db dc;rw [e1, e2, L.el c dc, L.er a da] at this;exact this.symm
 exact ⟨b, hb, by rw [this]; exact e2⟩
def idL (n : Nat) : List Int := (List.range n).map fun j : Nat => (j : Int)
theorem bA (n : Nat) : (idL n).length = n := by simp [idL]
theorem idL_get {n i : Nat} (h : i < n) : (idL n).getD i 0 = (i : Int) := by
 rw [idL, Zac, List.getElem?_map, List.getElem?_range h]; rfl
def invS (a : Sym) : Sym := (yR false a.1 (idL a.1.length), a.2)
theorem inv_get {n : Nat} {a : Sym} (ha : DP n a) {k : Nat} (hk : k < n) : (invS a).1[(a.1.getD k 0).toNat]? = some (k : Int) := by
 have h1 := ha.1.1;have := applyS_get (c := false) ha.perm (f := idL a.1.length) (by rw [bA]) (k := k) (by rw [bA]; omega);rw [idL_get (by omega)] at this;exact this
theorem xV {n : Nat} {a : Sym} (ha : DP n a) : DP n (invS a) := by
 have h1 := ha.1.1;have hl : (invS a).1.length = n := by show (yR _ _ _).length = n; rw [jN, bA, h1]
 have hv : ∀ j, j < n -> ∃ i, i < n /\ a.1.getD i 0 = (j : Int) /\ (invS a).1[j]? = some (i : Int) := fun j hj => by
  obtain ⟨i, hi, e⟩ := ha.surj hj;have := inv_get ha hi;rw [e, Int.toNat_natCast] at this;exact ⟨i, hi, e, this⟩
 refine ⟨⟨hl, fun x hx => ?_⟩, ?_⟩
 ·obtain ⟨j, hj⟩ := List.getElem?_of_mem hx;obtain ⟨i, hi, _, e⟩ := hv j (by rw [<- hl]; exact (List.getElem?_eq_some_iff.1 hj).1);rw [hj] at e; cases e; omega
 ·rw [List.Nodup, Zbg];intro i j hi hj hij e;obtain ⟨a1, _, b1, c1⟩ := hv i (by omega);obtain ⟨a2, _, b2, c2⟩ := hv j (by omega);rw [List.getElem?_eq_getElem hi] at c1;rw [List.getElem?_eq_getElem hj] at c2;have e1 := Option.some.inj c1;have e2 := Option.some.inj c2;have : a1 = a2 := by omega
  subst this;rw [b1] at b2;omega
theorem inv_l {n : Nat} {a : Sym} (ha : DP n a) : zL (invS a) a = idS n := by
 refine Prod.ext (qI (n := n) (by show (kG _ _).length = n; rw [uP, ha.1.1]) (by simp [idS]) fun i hi => ?_) (by show (a.2 != a.2) = false; cases a.2 <;> rfl);rw [uO ha.1 hi, Zac (l := (invS a).1), inv_get ha hi];show some (i : Int) = ((List.range n).map fun j : Nat => (j : Int))[i]?;rw [List.getElem?_map, List.getElem?_range hi]; rfl
theorem inv_r {n : Nat} {a : Sym} (ha : DP n a) : zL a (invS a) = idS n := by
 have L := jF n;have hb := xV ha;have hc := xV hb;have e1 := inv_l ha;have e2 := inv_l hb;have : a = invS (invS a) := by
  have q := L.assoc (invS (invS a)) (invS a) a hc hb ha;rw [e2, e1, L.el a ha, L.er _ hc] at q;exact q
 rw [show zL a (invS a) = zL (invS (invS a)) (invS a) by rw [<- this]];exact e2
theorem inv_uniq {n : Nat} {a b : Sym} (ha : DP n a) (hb : DP n b) (h : zL a b = idS n) : b = invS a := by
 have L := jF n;have hi := xV ha;have q := L.assoc (invS a) a b hi ha hb;rw [inv_l ha, h, L.el b hb, L.er _ hi] at q;exact q
def conj (a b : Sym) : Sym := zL (zL a b) (invS a)
theorem conj_mul {n : Nat} {a b c : Sym} (ha : DP n a) (hb : DP n b) (hc : DP n c) : conj a (zL b c) = zL (conj a b) (conj a c) := by
 have L := jF n;have hi := xV ha;have hab := L.dm a b ha hb;have hac := L.dm a c ha hc;have hci := L.dm _ _ hac hi;unfold conj;rw [L.assoc (zL a b) (invS a) (zL (zL a c) (invS a)) hab hi hci, <- L.assoc (invS a) (zL a c) (invS a) hi hac hi, <- L.assoc (invS a) a c hi ha hc, inv_l ha, L.el c hc, <- L.assoc (zL a b) c (invS a) hab hc hi, L.assoc a b c ha hb hc]
theorem conj_comp {n : Nat} {a b c : Sym} (ha : DP n a) (hb : DP n b) (hc : DP n c) : conj (zL a b) c = conj a (conj b c) := by
 have L := jF n;have hia := xV ha;have hib := xV hb;have hab := L.dm a b ha hb;have e : invS (zL a b) = zL (invS b) (invS a) := by
  refine (inv_uniq hab (L.dm _ _ hib hia) ?_).symm;rw [L.assoc a b _ ha hb (L.dm _ _ hib hia), <- L.assoc b (invS b) (invS a) hb hib hia, inv_r hb, L.el _ hia, inv_r ha]
 have hbc := L.dm b c hb hc;unfold conj;rw [e, L.assoc a b c ha hb hc, <- L.assoc (zL a (zL b c)) (invS b) (invS a) (L.dm _ _ ha hbc) hib hia, L.assoc a (zL b c) (invS b) ha hbc hib]
theorem conj_dp {n : Nat} {a b : Sym} (ha : DP n a) (hb : DP n b) : DP n (conj a b) := (jF n).dm _ _ ((jF n).dm _ _ ha hb) (xV ha)
def normB (G S : List Sym) : Bool := G.all fun a => S.all fun b => decide (conj a b ∈ S)
theorem normB_gen {G S u1 q1 u2 q2 : List Sym} {n : Nat} (hG : wu G n) (hS : wu S n) (hu1 : ∀ c ∈ u1, c ∈ G) (h1 : CloS n u1 q1) (hq1 : ∀ a, a ∈ q1 ↔ a ∈ G) (hu2 : ∀ c ∈ u2, c ∈ S) (h2 : CloS n u2 q2) (hq2 : ∀ a, a ∈ q2 ↔ a ∈ S) :
  (u1.all fun a => u2.all fun b => decide (conj a b ∈ S)) = normB G S := by
 rw [Bool.eq_iff_iff];simp only [normB, Zaf, decide_eq_true_eq];have L := jF n;constructor
 ·intro h;have k1 : ∀ a ∈ u1, ∀ b ∈ S, conj a b ∈ S := fun a ha b hb => by
   have da := hG.dp a (hu1 a ha)
   have := h2.ind (fun b => DP n b /\ conj a b ∈ S) ⟨L.de, by unfold conj; rw [L.er a da, inv_r da]; exact hS.one⟩ (fun x hx c hc => by
    have dc := hS.dp c (hu2 c hc);exact ⟨L.dm _ _ dc hx.1, by rw [conj_mul da dc hx.1]; exact hS.cl _ (h a ha c hc) _ hx.2⟩) b ((hq2 b).2 hb)
   exact this.2
  intro a ha
  have := h1.ind (fun a => DP n a /\ ∀ b ∈ S, conj a b ∈ S) ⟨L.de, fun b hb => by
   have e : invS (idS n) = idS n := (inv_uniq L.de L.de (L.el _ L.de)).symm;unfold conj
   rw [e, L.er _ (L.dm _ _ L.de (hS.dp b hb)), L.el b (hS.dp b hb)]; exact hb⟩ (fun x hx c hc => by
    have dc := hG.dp c (hu1 c hc);exact ⟨L.dm _ _ dc hx.1, fun b hb => by rw [conj_comp dc hx.1 (hS.dp b hb)]; exact k1 c hc _ (hx.2 b hb)⟩) a ((hq1 a).2 ha)
  exact this.2
 ·intro h a ha b hb;exact h a (hu1 a ha) b (hu2 b hb)
end Go.Ev
namespace Go.Ev
open Go Go.Proofs
variable {B : Nat}
set_option maxRecDepth 100000
theorem inv124 {a : Sym} {n : Nat} (ha : DP n a) (hn : n <= 1000) : Pure Tryz.prog B 124 [encS a] (· = encS (invS a)) := by
 have hl := ha.1.1;refine yK fun h nx K H0 hK => zQ zT yt 10000 fun hf' => ?_;rw [yj.go, yj.t20, zA, yj.xu];refine H0.box (l := [encI a.1, .bool a.2]) rfl fun b1 h1 nx1 H1 => ?_;refine H1.alloc fun b2 h2 nx2 H2 => ?_;have ld0 : ∀ {hh nn L'} (HH : Hp h hh nn (L' ++ [.arr b2 [.zf, .bool false], .arr b1 [encI a.1, .bool a.2]])) (op : AV -> OP), zF (.ptr b1 (0 + 0)) hh op = op (encI a.1) := fun {hh nn L'} HH op => HH.load (k := L'.length + 1) (i := 0) (l := [encI a.1, .bool a.2]) (by rw [List.getElem?_append_right (by omega)]; simp) rfl;have ld1 : ∀ {hh nn L'} (HH : Hp h hh nn (L' ++ [.arr b2 [.zf, .bool false], .arr b1 [encI a.1, .bool a.2]])) (op : AV -> OP), zF (.ptr b1 (0 + 1)) hh op = op (.bool a.2) := fun {hh nn L'} HH op => HH.load (k := L'.length + 1) (i := 1) (l := [encI a.1, .bool a.2]) (by rw [List.getElem?_append_right (by omega)]; simp) rfl;have mk : mkSl 8 (I (a.1.length : Int)) (I (a.1.length : Int)) = true := by
  show (Nat.ble a.1.length a.1.length && Nat.ble a.1.length 1000000 && Nat.ble (8 * a.1.length) 281474976710656) = true;rw [Zab (Zai _), Zab (by omega), Zab (by omega)]; rfl
 rw [yj.t19, zA, yj.xw];simp only [Bool.and_self, jM, sFx];rw [ld0 (L' := []) H2, zH, mk];simp only [Bool.and_self, jM];rw [ld1 (L' := []) H2];refine H2.mk1 a.1.length rfl rfl (by omega) (by decide) fun tb h3 nx3 H3 => ?_;rw [ld1 (L' := [_]) H3];simp only [zB, zH];rw [ld0 (L' := [_]) H3]
 try simp only [zB]
 rw [wY rfl rfl];refine H3.alloc fun b3 h4 nx4 H4 => ?_;rw [wY rfl rfl]
 try simp only [zB]
 rw [ld1 (L' := [_, _]) H4]
 try simp only [zB, zH]
 rw [ld0 (L' := [_, _]) H4]
 try simp only [zB]
 refine H4.jl (k := 0) (n := 2) rfl rfl rfl fun h5 H5 => ?_;rw [yj.t18, zA, yj.t15, zA, yj.bQ, sFx, ld0 (L' := [_, _]) H5, zH];have e0 : List.replicate a.1.length (I 0) = (u5 a.1.length false a.1 (idL a.1.length) 0).map I := by simp [u5]
 rw [e0] at H5;rw [yj.t14, zP]
 refine yj.t13_L (fun m x8 h' nx' => ∃ i : Nat, x8 = I i /\ m = a.1.length - i /\ i <= a.1.length /\ Hp h h' nx' [.arr b3 [.sl tb 0 a.1.length (some a.1.length) 1, .bool a.2], .arr tb ((u5 a.1.length false a.1 (idL a.1.length) i).map I), .arr b2 [.zf, .bool false], .arr b1 [encI a.1, .bool a.2]]) (m := a.1.length) (by omega)
  ⟨0, rfl, by omega, by omega, H5⟩ ?_
 rintro m z4 z5 z8 z9 h6 nx6 R ⟨i, rfl, rfl, hi, H6⟩ hR;rw [yj.t12, zA, yj.t3_s, qf];by_cases hlt : i < a.1.length
 case neg =>
  rw [decide_eq_false (by omega), yj.t11, zA, yj.t4, zI, yj.v9, zC, jG, gG, yj.t17, zA, yj.cO, H6.zi (k := 0) (n := 2) rfl rfl];refine H6.jl (k := 2) (n := 2) rfl rfl rfl fun h7 H7 => ?_;simp only [zR, yG];rw [yj.ret, H7.zi (k := 2) (n := 2) rfl rfl];obtain rfl : i = a.1.length := by omega
  have hal := jW a.1.length false a.1 (idL a.1.length) a.1.length;have e : invS a = (u5 a.1.length false a.1 (idL a.1.length) a.1.length, a.2) := by
   unfold invS yR; rw [bA]
  refine hK _ _ _ _ (encS (invS a)) H7 (frz_agg2 ?_ (zG rfl) rfl) rfl;rw [e];have := H7.frzArr (k := 1) (e := 1) (n := a.1.length) (cap := some a.1.length) rfl (Zai _) (by simp [hal]) fixdI;show FrzN h h7 _ (AV.lst 1 (u5 _ _ _ _ _).length _);rw [hal];exact this
 rw [decide_eq_true (by omega), yj.t11, zA, yj.t4, zI, yj.v9, zD, zK];have hx : a.1[i]? = some a.1[i] := List.getElem?_eq_getElem hlt;have hgb := ha.perm.2 _ (Zak hlt);have hgd : a.1.getD i 0 = a.1[i] := by rw [Zac, hx]; rfl
 rw [yj.t10, zA, yj.t8, zP, yj.t7, zA, yj.t5_s, wz rfl hlt, ldL (getI hx), yj.t6_s, sFx, H6.load (k := 0) (i := 0 + 0) rfl rfl, sIx (i := (a.1[i]).toNat) (by omega) (by omega)];refine H6.store (k := 1) rfl (by rw [Zan, jW]; omega) rfl fun h7 H7 => ?_;rw [yj.t9_s, qm (by omega)];refine hR _ _ _ _ _ _ _ (by omega) ⟨i + 1, rfl, rfl, by omega, H7.cast ?_⟩;rw [kU, hgd, idL_get hlt];simp [List.map_set, xOf]
def nrmV (G S : List Sym) (n : Int) : AV := if subE G S n ≠ 0 then .tup [.bool false, I (subE G S n)] else .tup [.bool (normB G S), I 0]
theorem uW {α : Type} {l : List α} {p : α -> Bool} {i : Nat} {x : α} (hx : l[i]? = some x) (h : (l.take i).all p = true) (hp : p x = true) : (l.take (i + 1)).all p = true := by
 rw [Zap, hx, List.all_append, h]; simp [hp]
theorem xL {α : Type} {l : List α} {p : α -> Bool} (h : (l.take l.length).all p = true) : l.all p = true := by rwa [Zal (Zai _)] at h
theorem isNormal40 {G S : List Sym} {n : Int} (hG : G.length <= 100000) (hw : ∀ g ∈ G, g.1.length <= 100000) (hS : S.length <= 100000) (hw2 : ∀ g ∈ S, g.1.length <= 100000) : Pure Tryz.prog B 40 [jc G, jc S, I n] (· = nrmV G S n) := by
 refine yK fun h nx K H0 hK => zQ zT yt 10000000 fun hf' => ?_;rw [F40.go, F40.t43, zA, F40.xu, F40.t42, zA, F40.xw];refine xP hG hw hS hw2 H0 (fun e h2 nx2 X he hne H2 => ?_) fun n' u1 q1 u2 q2 g o1 o2 h2 nx2 X hn ok1 ok2 hse hu1 hul1 hC1 hq1 hu2 hul2 hC2 hq2 hsub H2 => ?_
 ·rw [y0, jB, jP];refine H2.alloc fun b6 h3 nx3 H3 => ?_;refine H3.jl (k := 0) (n := 2) rfl rfl rfl fun h4 H4 => ?_;rw [F40.t41, zA, F40.t6, zA, F40.bQ, ql, decide_eq_false hne, Zah, F40.t5, zI, F40.v10, zD, F40.t4, zA, F40.t3_s];simp only [zR, yG];rw [F40.ret];exact hK _ _ _ _ _ H4 (jQ (zG rfl) (zG rfl)) (by rw [nrmV, <- he, if_pos hne])
 subst hn;have hn256 := ok1.n256;have hgen := normB_gen ok1 ok2 hu1 hC1 hq1 hu2 hC2 hq2;rw [y0, jB, jP];refine H2.alloc fun b6 h3 nx3 H3 => ?_;refine H3.jl (k := 0) (n := 2) rfl rfl rfl fun h4 H4 => ?_;rw [F40.t41, zA, F40.t6, zA, F40.bQ, ql, decide_eq_true rfl, Zae, F40.t5, zI, F40.v10, zC, zK, F40.t40, zA, F40.t37, zA, F40.t7_s, sAx0, H4.load (k := 0) (i := 0) rfl rfl, H4.groLen (k := 3) rfl];have hd2 : ∀ b ∈ q2, DS n' b := fun b hb => (ok2.dp b ((hq2 b).1 hb)).1;have no : ∀ {h' nx' L'}, Hp h h' nx' L' -> (∃ a ∈ u1, ∃ b ∈ u2, conj a b ∉ S) -> K (.tup [.bool false, I 0]) h' nx' = .ok True := fun H' ⟨a, ha, b, hb, hc⟩ => by
  refine hK _ _ _ _ _ H' (jQ (zG rfl) (zG rfl)) ?_;rw [nrmV, hse, if_neg (by decide), <- hgen]
  congr 3
  refine (Bool.eq_false_iff.2 fun q => ?_).symm;have := List.all_eq_true.1 (List.all_eq_true.1 q a ha) b hb;exact hc (of_decide_eq_true this)
 rw [F40.t36, zP]
 refine F40.t35_L (fun m x13 h' nx' => ∃ i : Nat, x13 = I i /\ m = u1.length - i /\ i <= u1.length /\ (u1.take i).all (fun a => u2.all fun b => decide (conj a b ∈ S)) = true /\ Hp h h' nx' (.arr b6 [uw o1 2 u1.length, uw o2 2 u2.length] :: .map g (qg q2) :: .gro o2 2 u2.length (yD u2) :: .gro o1 2 u1.length (yD u1) :: (X ++ []))) (m := u1.length) (by omega)
  ⟨0, rfl, by omega, by omega, by simp, H4⟩ ?_
 rintro m z3 z4 z8 z9 z13 z14 z15 z16 z17 z18 z19 h6 nx6 R ⟨i, rfl, rfl, hi, hal, H6⟩ hR;rw [F40.t34, zA, F40.t8_s, qf];by_cases hlt : i < u1.length
 case neg =>
  rw [decide_eq_false (by omega), F40.t33, zA, F40.t9, zI, F40.v14, zC, jG, gG, F40.t39, zA, F40.t38_s];simp only [zR, yG];rw [F40.ret];obtain rfl : i = u1.length := by omega
  exact hK _ _ _ _ _ H6 (jQ (zG rfl) (zG rfl)) (by rw [nrmV, hse, if_neg (by decide), <- hgen, xL hal])
 rw [decide_eq_true (by omega), F40.t33, zA, F40.t9, zI, F40.v14, zD, zK, F40.t32, zA, F40.t30, zP, F40.t29, zA, F40.mr];have hx : u1[i]? = some u1[i] := List.getElem?_eq_getElem hlt;have hxm := Zaa hx;have hdx := ok1.dp _ (hu1 _ hxm);obtain ⟨iu, ou, e1, e2⟩ := groIx2 (k := 3) H6 rfl hx;rw [e1, e2];refine H6.alloc fun b8 h7 nx7 H7 => ?_;refine H7.jl (k := 0) (n := 2) rfl rfl rfl fun h8 H8 => ?_;rw [F40.t28, zA, F40.t11_s, sAx1, H8.load (k := 1) (i := 0 + 1) rfl rfl, H8.groLen (k := 3) rfl, F40.t27, zP]
 refine F40.t26_L (fun m x17 h' nx' => ∃ k : Nat, x17 = I k /\ m = u2.length - k /\ k <= u2.length /\ (u2.take k).all (fun b => decide (conj u1[i] b ∈ S)) = true /\ Hp h h' nx' (.arr b8 [encI u1[i].1, .bool u1[i].2] :: .arr b6 [uw o1 2 u1.length, uw o2 2 u2.length] :: .map g (qg q2) :: .gro o2 2 u2.length (yD u2) :: .gro o1 2 u1.length (yD u1) :: (X ++ []))) (m := u2.length) (by omega)
  ⟨0, rfl, by omega, by omega, by simp, H8⟩ ?_
 rintro m y3 y4 y9 y17 y18 y19 h9 nx9 R' ⟨k, rfl, rfl, hk, hal2, H9⟩ hR';rw [F40.t25, zA, F40.t12_s, qf];by_cases hlt2 : k < u2.length
 case neg =>
  rw [decide_eq_false (by omega), F40.t24, zA, F40.t13, zI, F40.v18, zC, jG, gG, F40.t31_s, qm (by omega)];obtain rfl : k = u2.length := by omega
  exact hR _ _ _ _ _ _ _ _ _ _ _ _ _ _ (by omega) ⟨i + 1, rfl, rfl, by omega, uW hx hal (xL hal2), H9.drop⟩
 rw [decide_eq_true (by omega), F40.t24, zA, F40.t13, zI, F40.v18, zD, zK, F40.t23, zA, F40.t21, zP, F40.t20, zA, F40.t14_s];have hy : u2[k]? = some u2[k] := List.getElem?_eq_getElem hlt2;have hym := Zaa hy;have hdy := ok2.dp _ (hu2 _ hym);obtain ⟨iv, ov, e3, e4⟩ := groIx2 (k := 3) H9 rfl hy;rw [e3, e4];refine H9.alloc fun b9 h10 nx10 H10 => ?_;refine H10.jl (k := 0) (n := 2) rfl rfl rfl fun h11 H11 => ?_;rw [F40.t19, zA, F40.t15_s, H11.zi (k := 1) (n := 2) rfl rfl, H11.zi (k := 0) (n := 2) rfl rfl, H11.zi (k := 1) (n := 2) rfl rfl];refine vF (a := u1[i]) (b := u2[k]) (fun z hz => by rw [hdx.1.1]; exact hdy.1.2 z hz) (by rw [hdy.1.1]; omega) _ _ _ _ ?_;rintro _ rfl _;rw [H11.zi (k := 1) (n := 2) rfl rfl, zB, zB];refine inv124 (a := u1[i]) hdx (by omega) _ _ _ _ ?_;rintro _ rfl _;have hdi := xV hdx;have hdxy := (jF n').dm _ _ hdx hdy;rw [zB];refine vF (a := zL u1[i] u2[k]) (b := invS u1[i]) (fun z hz => by rw [hdxy.1.1]; exact hdi.1.2 z hz) (by rw [hdi.1.1]; omega) _ _ _ _ ?_;rintro _ rfl _;rw [zB];have hdc : DP n' (conj u1[i] u2[k]) := conj_dp hdx hdy;refine mH (a := conj u1[i] u2[k]) hn256 hdc.1 hd2 H11 (k := 3) rfl ?_;rw [yX, F40.t18, zI, F40.v19];by_cases c : conj u1[i] u2[k] ∈ q2
 ·rw [decide_eq_true c, Zae, zC, zK, F40.t22_s, qm (by omega)];exact hR' _ _ _ _ _ _ _ _ _ (by omega) ⟨k + 1, rfl, rfl, by omega, uW hy hal2 (decide_eq_true ((hq2 _).1 c)), H11.drop⟩
 ·rw [decide_eq_false c, Zah, zD, F40.t17, zA, F40.cO];simp only [zR, kX, yG];rw [F40.ret];exact no H11 ⟨_, hxm, _, hym, fun q => c ((hq2 _).2 q)⟩
end Go.Ev
namespace Go.Ev
abbrev AscS (l : List Sym) : Prop := l.Pairwise fun a b => bY a b = true
theorem befS_tri {a b : Sym} (h : a ≠ b) (h2 : bY a b = false) : bY b a = true := by
 unfold bY at h2 ⊢;by_cases c : a.1 = b.1
 ·rw [if_pos c] at h2;rw [if_pos c.symm];have : a.2 ≠ b.2 := fun q => h (Prod.ext c q)
  revert h2 this; cases a.2 <;> cases b.2 <;> simp
 ·rw [if_neg c] at h2;rw [if_neg (fun q => c q.symm)];rw [uJ] at h2 ⊢;have n1 := Go.Proofs.xk a.1 b.1;have e : ¬ Go.Proofs.ji a.1 b.1 < 0 := fun q => by simp [q] at h2
  have e2 : Go.Proofs.ji a.1 b.1 ≠ 0 := fun q => c (Go.Proofs.fM q);exact decide_eq_true (by omega)
theorem AscS.nd {l : List Sym} (h : AscS l) : l.Nodup := h.imp fun hab e => by rw [e, kQ] at hab; cases hab
theorem asc_uniq : ∀ {a b : List Sym}, AscS a -> AscS b -> (∀ x, x ∈ a ↔ x ∈ b) -> a = b
 | [], [], _, _, _ => rfl
 | [], y :: b, _, _, h => by have := (h y).2 (by simp); cases this
 | x :: a, [], _, _, h => by have := (h x).1 (by simp); cases this
 | x :: a, y :: b, ha, hb, h => by
  have ha' := List.pairwise_cons.1 ha;have hb' := List.pairwise_cons.1 hb;have e : x = y := by
   have h1 := (h x).1 (by simp);have h2 := (h y).2 (by simp);rcases List.mem_cons.1 h1 with q | q
   ·exact q
   ·rcases List.mem_cons.1 h2 with r | r
    ·exact r.symm
    ·have h3 := hb'.1 x q;have h4 := ha'.1 y r;rw [befS_asymm h3] at h4; cases h4
  subst e
  congr 1
  refine asc_uniq ha'.2 hb'.2 fun z => ?_;have hz := h z;simp only [Zag] at hz;constructor
  ·intro q;rcases hz.1 (.inr q) with rfl | r
   ·have := ha'.1 z q; rw [kQ] at this; cases this
   ·exact r
  ·intro q;rcases hz.2 (.inr q) with rfl | r
   ·have := hb'.1 z q; rw [kQ] at this; cases this
   ·exact r
end Go.Ev
namespace Go.Ev
open Go Go.Proofs
theorem ordS_bef {a b : Sym} (h : a ≠ b) (h2 : bP a b <= 0) : bY a b = true := by
 rw [wL] at h2;unfold bY;by_cases c : a.1 = b.1
 ·rw [if_pos c] at h2 ⊢;have : a.2 ≠ b.2 := fun q => h (Prod.ext c q)
  revert h2 this; cases a.2 <;> cases b.2 <;> simp
 ·rw [if_neg c] at h2 ⊢;rw [uJ];have := p9 c;exact decide_eq_true (by omega)
theorem asc_of_ord {s : List Sym} (hn : s.Nodup) (h : s.Pairwise fun a b => bP a b <= 0) : AscS s := (List.pairwise_and_iff.2 ⟨hn, h⟩).imp fun ⟨h1, h2⟩ => ordS_bef h1 h2
end Go.Ev
namespace Go.Ev
open Go Go.Proofs
variable {B : Nat}
set_option maxRecDepth 100000
theorem CS_args {P : Program} {f : Nat} {p : Pa} {args args' : List AV} {h : T Blk} {nx : Pa} {K : Kw Prop} (hv : ∀ (E : Env) (vs : List Value), VRL E args vs -> VRL E args' vs) (hk : (CS P B).fn f p args' h nx K = .ok True) : (CS P B).fn f p args h nx K = .ok True := by
 rw [CS_fn] at hk ⊢;exact ⟨fun E w vs H hv' => hk.1 E w vs H (hv _ _ hv'), rfl⟩
theorem VR_nil0 {E : Env} {e : Nat} {vv : Value} (h : VR E .zf vv) : VR E (.lst e 0 []) vv := by
 simp only [VR] at h ⊢;exact ⟨rfl, by simp, none, 0, h, .inl (by simp)⟩
theorem flatG_take : ∀ (q : List Sym) (i : Nat), (yD q).take (i * 2) = yD (q.take i)
 | q, 0 => by simp [yD]
 | [], i + 1 => by simp [yD]
 | p :: q, i + 1 => by
  rw [List.take_succ_cons, show (i + 1) * 2 = i * 2 + 1 + 1 by omega];show encI p.1 :: .bool p.2 :: (yD q).take (i * 2) = _;rw [flatG_take q i]
  rfl
def LG (v : AV) (l : List Sym) : Prop := (v = .zf /\ l = []) \/ (v = jc l /\ l ≠ [])
theorem LG.len {v : AV} {l : List Sym} (h : LG v l) {op : AV -> OP} : sLen v op = op (I l.length) := by
 rcases h with ⟨rfl, rfl⟩ | ⟨rfl, _⟩
 ·exact yZ
 ·exact zH ..
theorem LG.frz {v : AV} {l : List Sym} (h : LG v l) {N : Pa -> Prop} {O : AV -> Prop} {hh : T Blk} : Frz True N O hh v (jc l) := by
 rcases h with ⟨rfl, rfl⟩ | ⟨rfl, _⟩
 ·exact .lnils 2
 ·exact zG (fixd_encG _)
theorem LG.call {P : Program} {f : Nat} {p : Pa} {v : AV} {rest : List AV} {l : List Sym} (h : LG v l) {hh : T Blk} {nx : Pa} {K : Kw Prop} (hk : (CS P B).fn f p (jc l :: rest) hh nx K = .ok True) : (CS P B).fn f p (v :: rest) hh nx K = .ok True := by
 rcases h with ⟨rfl, rfl⟩ | ⟨rfl, _⟩
 ·refine CS_args (fun E vs hv => ?_) hk;simp only [VRL] at hv ⊢;obtain ⟨a, m, q, r, s⟩ := hv;exact ⟨a, m, q, VR_nil0 r, s⟩
 ·exact hk
theorem LG.halves {v : AV} {l : List Sym} {i : Nat} (h : LG v l) (hi : i <= l.length) : ∃ lo hi' : AV, (∀ op : AV -> OP, jX 2 v none (some (I (i : Int))) none op = op lo) /\ (∀ op : AV -> OP, jX 2 v (some (I (i : Int))) none none op = op hi') /\
  (∀ (h : T Blk) (no : OP) (K' : List AV -> Nat -> OP), gM lo h no K' = K' (yD (l.take i)) i) /\ (∀ (h : T Blk) (no : OP) (K' : List AV -> Nat -> OP), gM hi' h no K' = K' (yD (l.drop i)) (l.length - i)) := by
 rcases h with ⟨rfl, rfl⟩ | ⟨rfl, h0⟩
 ·obtain rfl : i = 0 := by simpa using hi
  exact ⟨.zf, .zf, fun op => rfl, fun op => rfl, fun h no K' => rfl, fun h no K' => rfl⟩
 ·have hn : 1 <= l.length := by cases l with
   | nil => exact absurd rfl h0
   | cons _ _ => simp
  refine ⟨.lst 2 (i - 0) (((yD l).drop (0 * 2)).take ((i - 0) * 2)), .lst 2 (l.length - i) (((yD l).drop (i * 2)).take ((l.length - i) * 2)), fun op => ?_, fun op => ?_, fun h no K' => ?_, fun h no K' => ?_⟩
  ·show (bif Nat.beq 2 2 && Nat.ble 1 l.length then dG 2 l.length (yD l) none (some (I (i : Int))) none op else .no 17) = _;rw [Zav, Zab hn];show (match bnd (some (I (i : Int))) l.length l.length with | none => Out.no 17 | some h => match bnd none h 0 with | none => .no 17 | some q => op (.lst 2 (h - q) (((yD l).drop (q * 2)).take ((h - q) * 2)))) = _;rw [wQ hi]; rfl
  ·show (bif Nat.beq 2 2 && Nat.ble 1 l.length then dG 2 l.length (yD l) (some (I (i : Int))) none none op else .no 17) = _;rw [Zav, Zab hn];show (match bnd (some (I (i : Int))) l.length 0 with | none => Out.no 17 | some q => op (.lst 2 (l.length - q) (((yD l).drop (q * 2)).take ((l.length - q) * 2)))) = _;rw [wQ hi]
  ·show K' _ (i - 0) = _;rw [Nat.sub_zero, Nat.zero_mul, List.drop_zero, flatG_take]
  ·show K' _ (l.length - i) = _;rw [xE, Zal (by rw [uL, Zcb]; omega)]
theorem subset42 {S G : List Sym} (hS : S.length <= 1000000) (hG : G.length <= 1000000) (hw : ∀ g ∈ G, g.1.length <= 1000000) : Pure Tryz.prog B 42 [jc S, jc G] (· = .bool (S.all fun a => decide (a ∈ G))) := by
 refine yK fun h nx K H0 hK => zQ zT yt 10000000 fun hf' => ?_;rw [F42.go, F42.t20, zA, F42.xu, F42.t19, zA, F42.t16, zA, F42.xw, F42.t15, zP];refine F42.t14_L (fun m x3 h' nx' => ∃ i : Nat, x3 = I i /\ m = S.length - i /\ i <= S.length /\ (S.take i).all (fun a => decide (a ∈ G)) = true /\ Hp h h' nx' []) (m := S.length) (by omega) ⟨0, rfl, by omega, by omega, by simp, H0⟩ ?_;rintro m z2 z3 z4 z5 h3 nx3 R ⟨i, rfl, rfl, hi, ha, H3⟩ hR;rw [F42.t13, zA, F42.t4, zA, F42.bQ, zH, qf];by_cases hlt : i < S.length
 case neg =>
  rw [decide_eq_false (by omega), F42.t3, zI, F42.v4, zC, jG, gG, F42.t18, zA, F42.t17_s];simp only [zR, yG];rw [F42.ret];obtain rfl : i = S.length := by omega
  exact hK _ _ _ _ _ H3 (zG rfl) (by rw [xL ha])
 rw [decide_eq_true (by omega), F42.t3, zI, F42.v4, zD, zK, F42.t12, zA, F42.t10, zP, F42.t9, zA, F42.t5_s, wz rfl hlt, jK hlt, kE];refine index144 (a := S[i]) hG hw _ _ _ _ ?_;rintro _ ⟨r, rfl, hr⟩ _;rw [qf, F42.t8, zI, F42.v5];by_cases c : r < 0
 ·rw [decide_eq_true c, zD, F42.t7, zA, F42.t6_s];simp only [zR, kX, yG];rw [F42.ret];refine hK _ _ _ _ _ H3 (zG rfl) (congrArg AV.bool ?_);refine (Bool.eq_false_iff.2 fun q => ?_).symm;exact hr.1 c (of_decide_eq_true (List.all_eq_true.1 q _ (Zak hlt)))
 ·rw [decide_eq_false c, zC, zK, F42.t11_s, qm (by omega)];exact hR _ _ _ _ _ _ _ (by omega) ⟨i + 1, rfl, rfl, by omega, uW (List.getElem?_eq_getElem hlt) ha (decide_eq_true (Decidable.byContradiction fun q => c (hr.2 q))), H3⟩
end Go.Ev
namespace Go.Ev
open Go.Proofs (ji xk fM u9 gV)
abbrev AscT (l : List (List Int)) : Prop := l.Pairwise fun a b => yQ a b = true
theorem vO (a : List Int) : yQ a a = false := by rw [uJ, u9]; rfl
theorem lexLt_asy {a b : List Int} (h : yQ a b = true) : yQ b a = false := by
 rw [uJ] at h ⊢;have := of_decide_eq_true h;have := xk a b;exact decide_eq_false (by omega)
theorem lexLt_tri {a b : List Int} (h : a ≠ b) (h2 : yQ a b = false) : yQ b a = true := by
 rw [uJ] at h2 ⊢;have n1 := xk a b;have e : ¬ ji a b < 0 := fun q => by simp [q] at h2
 have e2 : ji a b ≠ 0 := fun q => h (fM q);exact decide_eq_true (by omega)
def uV (l : List (List Int)) (f : List Int) : List (List Int) := if f ∈ l then l else l.takeWhile (yQ · f) ++ f :: l.dropWhile (yQ · f)
def gS (l : List (List Int)) : List (List Int) := l.foldl uV []
theorem twT_at {p : List Int -> Bool} : ∀ {l : List (List Int)} {i : Nat}, i <= l.length -> (l.take i).all p = true -> (∀ h : i < l.length, p l[i] = false) -> l.take i = l.takeWhile p /\ l.drop i = l.dropWhile p
 | [], i, h, _, _ => by simp
 | x :: l, 0, _, _, hn => by
  have := hn (by simp);simp at this;simp [List.takeWhile_cons, List.dropWhile_cons, this]
 | x :: l, i + 1, h, ha, hn => by
  rw [List.take_succ_cons, List.all_cons, Zad] at ha;obtain ⟨e1, e2⟩ := twT_at (l := l) (i := i) (by simpa using h) ha.2 (fun h' => by have := hn (by simpa using h'); simpa using this);rw [List.take_succ_cons, Zck, List.takeWhile_cons, List.dropWhile_cons, ha.1, e1, e2]; simp
theorem mem_insT1 {l : List (List Int)} {a x : List Int} : x ∈ uV l a ↔ x = a \/ x ∈ l := by
 unfold uV;split
 ·rename_i h;exact ⟨.inr, fun q => q.elim (fun e => e ▸ h) id⟩
 ·have := List.takeWhile_append_dropWhile (p := (yQ · a)) (l := l)
  conv => rhs; rw [<- this]
  simp only [Zas, Zag];constructor
  ·rintro (h | h | h)
   ·exact .inr (.inl h)
   ·exact .inl h
   ·exact .inr (.inr h)
  ·rintro (h | h | h)
   ·exact .inr (.inl h)
   ·exact .inl h
   ·exact .inr (.inr h)
theorem insT1_asc {l : List (List Int)} {a : List Int} (h : AscT l) : AscT (uV l a) := by
 unfold uV;split
 ·exact h
 ·rename_i h0;have e := List.takeWhile_append_dropWhile (p := (yQ · a)) (l := l);have h' := h;rw [<- e] at h';obtain ⟨h1, h2, h3⟩ := List.pairwise_append.1 h';have ht : ∀ x ∈ l.takeWhile (yQ · a), yQ x a = true := fun x hx => (List.all_eq_true.1 (List.all_takeWhile (p := (yQ · a)) (l := l))) x hx;have hd : ∀ x ∈ l.dropWhile (yQ · a), yQ a x = true := by
   cases q : l.dropWhile (yQ · a) with
   | nil => intro x hx; cases hx
   | cons y r =>
    have hy : yQ y a = false := by
     have := List.head?_dropWhile_not (p := (yQ · a)) (l := l);rw [q] at this; simpa using this
    have hym : y ∈ l := by rw [<- e, q]; simp
    have hya : yQ a y = true := lexLt_tri (fun e => h0 (e ▸ hym)) hy;intro x hx;rcases List.mem_cons.1 hx with rfl | hx
    ·exact hya
    ·rw [q] at h2;exact xT hya ((List.pairwise_cons.1 h2).1 x hx)
  refine List.pairwise_append.2 ⟨h1, List.pairwise_cons.2 ⟨hd, h2⟩, fun x hx y hy => ?_⟩;rcases List.mem_cons.1 hy with rfl | hy
  ·exact ht x hx
  ·exact xT (ht x hx) (hd y hy)
theorem fold_insT (l : List (List Int)) : ∀ (acc : List (List Int)), AscT acc -> AscT (l.foldl uV acc) /\ ∀ x, x ∈ l.foldl uV acc ↔ x ∈ acc \/ x ∈ l := by
 induction l with
 | nil => intro acc h; exact ⟨h, fun x => by simp⟩
 | cons a l ih =>
  intro acc h;obtain ⟨h1, h2⟩ := ih (uV acc a) (insT1_asc h);refine ⟨h1, fun x => ?_⟩;rw [List.foldl_cons, h2, mem_insT1, Zag];constructor
  ·rintro ((q | q) | q)
   ·exact .inr (.inl q)
   ·exact .inl q
   ·exact .inr (.inr q)
  ·rintro (q | q | q)
   ·exact .inl (.inr q)
   ·exact .inl (.inl q)
   ·exact .inr q
theorem wG (l : List (List Int)) : AscT (gS l) := (fold_insT l [] .nil).1
theorem fG {l : List (List Int)} {x : List Int} : x ∈ gS l ↔ x ∈ l := by rw [gS, (fold_insT l [] .nil).2]; simp
theorem insT1_len (l : List (List Int)) (a : List Int) : (uV l a).length <= l.length + 1 := by
 unfold uV;split
 ·omega
 ·have := congrArg List.length (List.takeWhile_append_dropWhile (p := (yQ · a)) (l := l));simp only [Zat, Zbj] at this ⊢;omega
theorem fold_insT_len (l : List (List Int)) : ∀ acc : List (List Int), (l.foldl uV acc).length <= acc.length + l.length := by
 induction l with
 | nil => intro acc; simp
 | cons a l ih => intro acc; rw [List.foldl_cons, Zbj]; have := ih (uV acc a); have := insT1_len acc a; omega
theorem mQ : ∀ {a b : List (List Int)}, AscT a -> AscT b -> (∀ x, x ∈ a ↔ x ∈ b) -> a = b
 | [], [], _, _, _ => rfl
 | [], y :: b, _, _, h => by have := (h y).2 (by simp); cases this
 | x :: a, [], _, _, h => by have := (h x).1 (by simp); cases this
 | x :: a, y :: b, ha, hb, h => by
  have ha' := List.pairwise_cons.1 ha;have hb' := List.pairwise_cons.1 hb;have e : x = y := by
   have h1 := (h x).1 (by simp);have h2 := (h y).2 (by simp);rcases List.mem_cons.1 h1 with q | q
   ·exact q
   ·rcases List.mem_cons.1 h2 with r | r
    ·exact r.symm
    ·have h3 := hb'.1 x q;have h4 := ha'.1 y r;rw [lexLt_asy h3] at h4; cases h4
  subst e
  congr 1
  refine mQ ha'.2 hb'.2 fun z => ?_;have hz := h z;simp only [Zag] at hz;constructor
  ·intro q;rcases hz.1 (.inr q) with rfl | r
   ·have := ha'.1 z q; rw [vO] at this; cases this
   ·exact r
  ·intro q;rcases hz.2 (.inr q) with rfl | r
   ·have := hb'.1 z q; rw [vO] at this; cases this
   ·exact r
theorem insT_stop {l : List (List Int)} (h : AscT l) {f : List Int} {i : Nat} (ha : (l.take i).all (yQ · f) = true) (hi : i <= l.length) (hn : ∀ q : i < l.length, yQ l[i] f = false) : f ∈ l ↔ ∃ q : i < l.length, l[i] = f := by
 constructor
 ·intro hf;obtain ⟨j, hj⟩ := List.getElem?_of_mem hf;obtain ⟨hj1, hj2⟩ := List.getElem?_eq_some_iff.1 hj;rcases Nat.lt_trichotomy j i with q | q | q
  ·have : l[j] ∈ l.take i := Zaa (i := j) (by rw [List.getElem?_take_of_lt q]; exact List.getElem?_eq_getElem hj1);have := List.all_eq_true.1 ha _ this;rw [hj2, vO] at this; cases this
  ·subst q; exact ⟨hj1, hj2⟩
  ·have hi' : i < l.length := by omega
   have := List.pairwise_iff_getElem.1 h i j hi' hj1 q;rw [hj2, hn hi'] at this; cases this
 ·rintro ⟨q, rfl⟩; exact Zak q
end Go.Ev
namespace Go.Ev
open Go Go.Proofs Go.RowKit Go.Sort
theorem HR.sortedG {P : Program} {B : Nat} {E : Env} {h : T Blk} {nx : Pa} {w : World} {α : Type} [Inhabited α] {enc : α -> Value} {av : α -> AV} (hva : ∀ x, VR E (av x) (enc x)) (hsc : ∀ x, jg (av x) = true)
  (H : HR P B E h nx w) {id : Pa} {op : Bool} {m off b n k : Nat} {t : T AV} {l' : List α} {os : Array Obj} (hb : T.get .no id h = .cells op m t) (hE : E id = some (b, n)) (hm : off + l'.length <= m) :
  HR P B E (T.set .no (.cells op m (yU (l'.map av) t off)) id h) nx (grow (putRow enc (Sort.ahead w k) b off l'.toArray) os) /\ Ex E E w (grow (putRow enc (Sort.ahead w k) b off l'.toArray) os) := by
 have hid : T.get .no id h ≠ .no := by rw [hb]; intro e; cases e
 obtain ⟨b', n', o, h1, h2, h3⟩ := H.blk id hid;rw [hE] at h1; cases h1;rw [hb] at h3;obtain ⟨c, ty, fr, rfl, q1, q2, q3, q4, q5⟩ := h3;have hcs : (putCells enc off l'.toArray c).size = c.size := by simp [putCells]
 have hbr : BR P E n (.cells op m (yU (l'.map av) t off)) (.cells (putCells enc off l'.toArray c) ty fr) := by
  refine ⟨_, ty, fr, rfl, by rw [hcs]; exact q1, by rw [hcs]; exact q2, q3, q4, fun i hi => ?_⟩;rw [uA];have hic : i < c.size := by omega
  have hce : (putCells enc off l'.toArray c)[i]? = some (if off <= i /\ i < off + l'.length then enc (l'.toArray[i - off]!) else c[i]) := by
   simp [putCells, Array.getElem?_eq_getElem hic]
  rw [Zan];by_cases hr : off <= i /\ i < off + l'.length
  ·rw [if_pos hr];rw [if_pos hr] at hce;have hj : i - off < l'.length := by omega
   have e1 : (l'.map av).getD (i - off) .undef = av l'[i - off] := by
    rw [Zac, List.getElem?_map, List.getElem?_eq_getElem hj]; rfl
   have e2 : l'.toArray[i - off]! = l'[i - off] := by simp [getElem!_pos, hj]
   rw [e1];exact ⟨hsc _, _, hce, by rw [e2]; exact hva _⟩
  ·rw [if_neg hr];rw [if_neg hr] at hce;obtain ⟨r1, v, r2, r3⟩ := q5 i hi;rw [Array.getElem?_eq_getElem hic] at r2;exact ⟨r1, _, hce, by rw [Option.some.inj r2]; exact r3⟩
 have H1 := H.put hid hE hbr;have X1 : Ex E E w (w.putObj b (.cells (putCells enc off l'.toArray c) ty fr)) := Ex.put hE h2 fun L hL => by cases hL
 have hbl : b < w.heap.size := (Array.getElem?_eq_some_iff.1 h2).1;have hBel : Below (w.putObj b (.cells (putCells enc off l'.toArray c) ty fr)).heap.size (w.putObj b (.cells (putCells enc off l'.toArray c) ty fr)) (grow (putRow enc (Sort.ahead w k) b off l'.toArray) os) := by
  refine ⟨rfl, rfl, rfl, ?_, fun j hj => ?_⟩
  ·rw [World.putObj_size]; simp [grow, putRow, mapBlock, Sort.ahead]
  ·rw [World.putObj_size] at hj;have e1 : (grow (putRow enc (Sort.ahead w k) b off l'.toArray) os).heap[j]? = (w.heap.modify b (onCells (putCells enc off l'.toArray)))[j]? := by
    show (w.heap.modify b (onCells (putCells enc off l'.toArray)) ++ os)[j]? = _;rw [Array.getElem?_append_left (by simpa using hj)]
   rw [e1, Array.getElem?_modify];by_cases e : b = j
   ·subst e;rw [if_pos rfl, h2, gX _ hbl]; rfl
   ·rw [if_neg e, yJ _ (fun q => e q.symm)]
 obtain ⟨r1, r2⟩ := H1.below hBel;exact ⟨r1, X1.trans r2⟩
theorem sort91_J {B : Nat} {h : T Blk} {id : Pa} {op : Bool} {m off n : Nat} {o : Option Nat} {t : T AV} {ps qs : List (AV × List Int)} (hb : T.get .no id h = .cells op m t) (hm : off + n <= m) (hn : n <= 1000000) (hp : yH t off n = ps.map (·.1))
  (hr : ∀ p ∈ ps, RowAt h id p.1 p.2 /\ p.2.length <= 1000000) (hnd : ∀ a ∈ ps, ∀ a' ∈ ps, a.2 = a'.2 -> a = a') (hq : qs.Perm ps) (hqs : qs.Pairwise fun a b => ji a.2 b.2 <= 0) :
  JOk Tryz.prog B (fun f a h' => open Classical in if f = 200 /\ a = [.sl id off n o 1, .fn 201 (.of 201) []] /\ h' = h then some (.tup [], T.set .no (.cells op m (yU (qs.map (·.1)) t off)) id h) else none) := by
 intro E h' nx w f args vs v h2 H hv hj
 dsimp only at hj
 by_cases hc : f = 200 /\ args = [AV.sl id off n o 1, .fn 201 (.of 201) []] /\ h' = h
 case neg => rw [if_neg hc] at hj; cases hj
 rw [if_pos hc] at hj;obtain ⟨rfl, rfl, rfl⟩ := hc;simp only [Option.some.injEq, Prod.mk.injEq] at hj;obtain ⟨rfl, rfl⟩ := hj;refine ⟨_, Tryz.func200, by kernel_rfl, by kernel_rfl, fun nn => callsIn_wide.2 ?_⟩;obtain ⟨l⟩ := vs;simp only [VRL] at hv;obtain ⟨u, _, rfl, hu, u2, _, rfl, hu2, rfl⟩ := hv;simp only [VR, VRL] at hu2;obtain ⟨_, vs2, rfl, hvs2⟩ := hu2;obtain rfl : vs2 = #[] := by cases vs2; simpa using hvs2
 have hln : ps.length = n := by
  have := congrArg List.length hp;simpa using this.symm
 obtain ⟨b, bn, c, hE, rfl, hcap⟩ := hu.sl_inv;obtain ⟨b', n', ob, h1, h2, h3⟩ := H.blk id (by rw [hb]; intro e; cases e);rw [hE] at h1; cases h1;have h3' := h3;rw [hb] at h3;obtain ⟨cs, ty, fr, rfl, g1, g2, g3, g4, hc⟩ := h3
 let α := {x : (AV × List Int) × Value // RowAt h' id x.1.1 x.1.2 /\ x.1.2.length <= 1000000 /\ VR E x.1.1 x.2}
 haveI : Inhabited α := ⟨⟨((encI [], []), .slice none 0 0), .inl rfl, by simp, by simp only [VR]; exact ⟨rfl, rfl, none, 0, rfl, .inl ⟨rfl, fun _ => rfl⟩⟩⟩⟩
 let enc : α -> Value := fun x => x.1.2
 let av : α -> AV := fun x => x.1.1.1
 let cf : α -> α -> Int := fun x y => ji x.1.1.2 y.1.1.2
 have hva : ∀ x : α, VR E (av x) (enc x) := fun x => x.2.2.2;have hsc : ∀ x : α, jg (av x) = true := fun x => x.2.1.jg;have hone : OneCell enc := fun x => by
  obtain ⟨p, c, e, _⟩ := x.2.1.cells H x.2.2.2;show (x.1.2).oneCell' = true;rw [e]; rfl
 have hO : SWO (ltOf cf) := {
  irrefl := fun x => by show decide (ji _ _ < 0) = false; rw [u9]; rfl
  trans := fun x y z p q => by
   have p := of_decide_eq_true p;have q := of_decide_eq_true q;exact decide_eq_true (gV p q)
  ntrans := fun x y z p q => by
   have p := of_decide_eq_false p;have q := of_decide_eq_false q;exact decide_eq_false (Int.not_lt.2 (ordL_ge_trans (Int.not_lt.1 p) (Int.not_lt.1 q))) }
 have each : ∀ j, j < n -> ∃ x : α, ps[j]? = some x.1.1 /\ w.cell? ⟨b, off + j, none⟩ = some (enc x) /\ w.frozen? ⟨b, off + j, none⟩ = false := by
  intro j hj;have hjp : j < ps.length := by omega
  obtain ⟨_, v', k1, k2⟩ := hc (off + j) (by omega);have he : T.get .undef (.of (off + j)) t = ps[j].1 := by
   have e1 := yB t off n j hj;rw [hp, List.getElem?_map, List.getElem?_eq_getElem hjp] at e1;exact (Option.some.inj e1).symm
  rw [he] at k2;obtain ⟨r1, r2⟩ := hr _ (Zak hjp);refine ⟨⟨(ps[j], v'), r1, r2, k2⟩, List.getElem?_eq_getElem hjp, by simp [World.cell?, h2, k1, enc], ?_⟩;have := g1 (off + j) (Array.getElem?_eq_some_iff.1 k1).1;simp only [World.frozen?, h2];obtain ⟨lo, hi⟩ := fr;simp only [Bool.and_eq_false_iff, decide_eq_false_iff_not];simp only at this;omega
 obtain ⟨D, hD⟩ := Go.Deep.choose_lt each;have hsz : ((List.range n).map D).toArray.size = n := by simp
 have hget : ∀ j, j < n -> ((List.range n).map D).toArray[j]! = D j := fun j hj => by simp [getElem!_pos, hj]
 have hH : Holds enc w b off ((List.range n).map D).toArray := by
  intro j hj;rw [hsz] at hj;rw [hget j hj];exact (hD j hj).2
 have hcmp : CmpLays1 Tryz.prog 201 #[] enc cf b off ((List.range n).map D).toArray.size w := by
  intro k os dk hs x y;rw [hsz] at hs;obtain ⟨H', _⟩ := H.sortedG (k := k) (os := os) (l' := dk.toList) hva hsc hb hE (by rw [show dk.toList.length = n from Array.length_toList.trans hs]; exact hm);obtain ⟨p1, c1, e1, m1⟩ := (x.2.1.set (b := .cells op m (yU (dk.toList.map av) t off))).cells H' x.2.2.2;obtain ⟨p2, c2, e2, m2⟩ := (y.2.1.set (b := .cells op m (yU (dk.toList.map av) t off))).cells H' y.2.2.2;have := compare92W p1 p2 _ c1 _ c2 x.1.1.2 y.1.1.2 (sortWorld enc w b off k dk os) rfl rfl x.2.2.1 y.2.2.1 m1 m2;show Go.Calls Tryz.prog 201 #[x.1.2, y.1.2] _ _;rw [e1, e2];exact this.mono fun e w' ⟨he, q, hq⟩ => ⟨he, q, #[], by rw [hq, grow_empty]⟩
 have key := Any.slices_SortFunc Tryz.sortF enc hone cf hO 201 #[] b off c ((List.range n).map D).toArray w (enters_of Tryz.func201 (by kernel_rfl) rfl) hcmp hH (H.lt _ _ _ hE).2 (by rw [hsz]; omega);rw [hsz] at key;refine key.mono ?_;rintro e w' ⟨rfl, d', k, os, hP, hS, rfl⟩;obtain ⟨hd1, _, hperm⟩ := hP;rw [hsz] at hd1;have e1 : d'.extract 0 n = d' := by rw [<- hd1]; exact Array.extract_size
 have e2 : ((List.range n).map D).toArray.extract 0 n = ((List.range n).map D).toArray := by
  have := @Array.extract_size _ ((List.range n).map D).toArray
  rwa [hsz] at this
 rw [e1, e2] at hperm;have hps : ((List.range n).map D).map (fun x : α => x.1.1) = ps := by
  refine Zay fun j => ?_;rw [List.getElem?_map, List.getElem?_map];by_cases hj : j < n
  ·rw [List.getElem?_range hj, (hD j hj).1]; rfl
  ·rw [List.getElem?_eq_none (by simp; omega), List.getElem?_eq_none (by omega)]; rfl
 have hpm : (d'.toList.map fun x : α => x.1.1).Perm ps := by rw [<- hps]; exact hperm.map _
 have hqe : (d'.toList.map fun x : α => x.1.1) = qs := by
  refine List.Perm.eq_of_pairwise (le := fun a b => ji a.2 b.2 <= 0) ?_ ?_ hqs (hpm.trans hq.symm)
  ·intro a a' ha ha' p q;have e : a.2 = a'.2 := fM (by have := xk a.2 a'.2; omega);have ma := hpm.mem_iff.1 ha;have ma' := hq.mem_iff.1 ha';exact hnd _ ma _ ma' e
  ·rw [Zbn, Zbg];intro i j hi hj hij;have hi' : i < d'.size := by simpa using hi
   have hj' : j < d'.size := by simpa using hj
   have := hS i j (Nat.zero_le _) hij (by omega);rw [getElem!_pos d' j hj', getElem!_pos d' i hi'] at this;have := of_decide_eq_false this;have e : ji d'[j].1.1.2 d'[i].1.1.2 = - ji d'[i].1.1.2 d'[j].1.1.2 := xk _ _;have f : ¬ ji d'[j].1.1.2 d'[i].1.1.2 < 0 := this;simp only [Array.getElem_toList];omega
 obtain ⟨r1, r2⟩ := H.sortedG (k := k) (os := os) (l' := d'.toList) hva hsc hb hE (by rw [show d'.toList.length = n from Array.length_toList.trans hd1]; exact hm);have e3 : d'.toList.map av = qs.map (·.1) := by rw [<- hqe, List.map_map]; rfl
 rw [e3] at r1;exact ⟨_, E, rfl, by simp only [VR, VRL]; exact ⟨_, rfl, rfl⟩, r1, r2⟩
end Go.Ev
namespace Go.Ev
open Go Go.Proofs
variable {B : Nat}
set_option maxRecDepth 100000
theorem sort200 {h0 h : T Blk} {nx p id : Pa} {L : List Ob} {k n : Nat} {K : Kw Prop} {q s : List (List Int)} (H : Hp h0 h nx L) (hk : L[k]? = some (.gro (some id) 1 n (q.map encI))) (hn : n <= 1000000) (hw : ∀ a ∈ q, a.length <= 1000000)
  (hq : s.Perm q) (hs : s.Pairwise fun a b => ji a b <= 0) (hK : ∀ h', Hp h0 h' nx (L.set k (.gro (some id) 1 n (s.map encI))) -> K (.tup []) h' nx = .ok True) : (CS Tryz.prog B).fn 200 p [uw (some id) 1 n, .fn 201 (.of 201) []] h nx K = .ok True := by
 obtain ⟨t, h1, h2, h3⟩ := H.own _ (Zaa hk);rw [Zan] at h2;have hsl : (s.map encI).length = n * 1 := by rw [Zan, hq.length_eq, h2]
 have hm1 : ∀ l : List (List Int), (l.map fun a => (encI a, a)).map (·.1) = l.map encI := fun l => by rw [List.map_map]; rfl
 refine CS_hook (sort91_J (ps := q.map fun a => (encI a, a)) (qs := s.map fun a => (encI a, a)) (off := 0) (o := none) h1 (by omega) hn (by rw [hm1]; rw [Zbv] at h3; exact h3)
  (fun a ha => by obtain ⟨x, hx, rfl⟩ := List.mem_map.1 ha; exact ⟨.inl rfl, hw x hx⟩) (fun a ha a' ha' e => by
   obtain ⟨x, hx, rfl⟩ := List.mem_map.1 ha;obtain ⟨y, hy, rfl⟩ := List.mem_map.1 ha';have : x = y := e;rw [this]) (hq.map _) (List.pairwise_map.2 hs)) (v := .tup []) (h2 := T.set .no (.cells true (n * 1) (yU ((s.map fun a => (encI a, a)).map (·.1)) t 0)) id h) (if_pos ⟨rfl, rfl, rfl⟩) (hK _ ?_)
 rw [hm1];refine H.upd hk (by simp [Ob.names]) rfl ⟨_, T.get_set_same .., hsl, ?_⟩;have := u7 t [] (s.map encI) 0 rfl;rw [Zaw, List.nil_append, hsl] at this;exact this
def Kept (s r : List (List Int)) (j : Nat) : Prop := AscT r /\ (∀ x, x ∈ r ↔ x ∈ s.take j) /\ 1 <= r.length /\ r.length <= j /\ r.getLast? = s[j - 1]?
theorem Kept.same {s r : List (List Int)} {j : Nat} (hj : 1 <= j) (h : Kept s r j) (hl : j < s.length) (e : s[j] = s[j - 1]) : Kept s r (j + 1) := by
 obtain ⟨h1, h2, h3, h4, h5⟩ := h;have hp : s[j - 1]? = some s[j - 1] := List.getElem?_eq_getElem (by omega);refine ⟨h1, fun x => ?_, h3, by omega, ?_⟩
 ·rw [h2, Zap, List.getElem?_eq_getElem hl, Zas];constructor
  ·exact .inl
  ·rintro (q | q)
   ·exact q
   ·have : x = s[j - 1] := by rw [<- e]; simpa using q
    rw [this];exact Zaa (i := j - 1) (by rw [List.getElem?_take_of_lt (by omega)]; exact hp)
 ·rw [h5, hp, Nat.add_sub_cancel, List.getElem?_eq_getElem hl, e]
theorem Kept.new {s r : List (List Int)} {j : Nat} (hj : 1 <= j) (h : Kept s r j) (hs : s.Pairwise fun a b => ji a b <= 0) (hl : j < s.length) (e : s[j] ≠ s[j - 1]) : Kept s (r ++ [s[j]]) (j + 1) := by
 obtain ⟨h1, h2, h3, h4, h5⟩ := h;have hlt : ∀ x ∈ s.take j, yQ x s[j] = true := fun x hx => by
  have hpw := List.pairwise_iff_getElem.1 hs;obtain ⟨i, hi⟩ := List.getElem?_of_mem hx;have hil := (List.getElem?_eq_some_iff.1 hi).1;rw [Zau] at hil;rw [List.getElem?_take_of_lt (by omega), List.getElem?_eq_getElem (by omega)] at hi;obtain rfl := Option.some.inj hi;have a1 := hpw i j (by omega) hl (by omega);have a2 := hpw (j - 1) j (by omega) hl (by omega);have a3 : ji s[j - 1] s[j] ≠ 0 := fun q => e (fM q).symm;rw [uJ];by_cases q : i = j - 1
  ·subst q; exact decide_eq_true (by omega)
  ·have a4 := hpw i (j - 1) (by omega) (by omega) (by omega);by_cases z : ji s[i] s[j - 1] = 0
   ·rw [fM z]; exact decide_eq_true (by omega)
   ·exact decide_eq_true (gV (b := s[j - 1]) (by omega) (by omega))
 refine ⟨List.pairwise_append.2 ⟨h1, by simp, fun x hx y hy => ?_⟩, fun x => ?_, by simp, by simp; omega, ?_⟩
 ·rw [List.mem_singleton.1 hy]; exact hlt x ((h2 x).1 hx)
 ·rw [Zas, h2, Zap, List.getElem?_eq_getElem hl, Zas]; simp
 ·rw [Nat.add_sub_cancel, List.getElem?_eq_getElem hl]; simp
theorem sCall_fnP {C : Calls Prop} {f : Nat} {p : Pa} {args : List AV} {h : T Blk} {nx : Pa} {K : KW3} : mT C (.fn f p []) args h nx K = C.fn f p args h nx K := by
 show C.fn f p (args ++ []) h nx K = _;rw [Zcg]
theorem Hp.clrGro {h0 h : T Blk} {nx : Pa} {L : List Ob} {k n i : Nat} {id : Pa} {l : List AV} {K : KW3} (H : Hp h0 h nx L) (hk : L[k]? = some (.gro (some id) 1 n l)) (hi : i < n) (hl : l.length = n)
  (hK : ∀ h', Hp h0 h' nx (L.set k (.gro (some id) 1 n (l.take i ++ List.replicate (n - i) .zf))) -> K .undef h' nx = .ok True) : sClr 1 [.zf] (dropV (some id) 1 n i) h nx K = .ok True := by
 obtain ⟨t, h1, h2, h3⟩ := H.own _ (Zaa hk);have hd : dropV (some id) 1 n i = .sl id (0 + i * 1) (n - i) none 1 := by
  by_cases c : i = 0
  ·subst c; rfl
  ·simp only [dropV, beqF c, Zab (show i + 1 <= n by omega), cond_true, cond_false]
 rw [hd]
 show (bif Nat.beq 1 1 && Nat.ble 1 (n - i) then jh (T.get .no id h) (fun op m t => bif Nat.ble (0 + i * 1 + (n - i) * 1) m && Nat.beq [AV.zf].length 1 && [AV.zf].all jg then
   gE (dh (n - i) [.zf]) t (0 + i * 1) fun t' => T.qo .no (.cells op m t') id h fun h' => K .undef h' nx else .no 57) (.no 57) else bif Nat.beq (n - i) 0 then K .undef h nx else .no 57) = _
 rw [Zav, Zab (by omega), h1];show (bif Nat.ble (0 + i * 1 + (n - i) * 1) (n * 1) && Nat.beq [AV.zf].length 1 && [AV.zf].all jg then _ else _) = _;rw [Zab (by omega)];show gE (dh (n - i) [.zf]) t (0 + i * 1) (fun t' => T.qo .no (.cells true (n * 1) t') id h fun h' => K .undef h' nx) = _;rw [yO, T.yu];refine hK _ (H.upd hk (by simp [Ob.names]) rfl ⟨_, T.get_set_same .., by simp; omega, ?_⟩);have e1 : dh (n - i) [AV.zf] = List.replicate (n - i) .zf := repl_one _ _;rw [e1];have e2 : l.take i = yH t 0 i := by rw [<- h3, mV _ _ _ _ (by omega)]
 have := u7 t (l.take i) (List.replicate (n - i) .zf) i e2.symm;rw [List.length_replicate] at this;rw [show 0 + i * 1 = i by omega, show n * 1 = i + (n - i) by omega];exact this
theorem compact202 {h0 h : T Blk} {nx p id : Pa} {L : List Ob} {k n : Nat} {K : Kw Prop} {s : List (List Int)} (H : Hp h0 h nx L) (hk : L[k]? = some (.gro (some id) 1 n (s.map encI))) (hsl : s.length = n) (hn0 : 1 <= n) (hn : n <= 100000) (hw : ∀ a ∈ s, a.length <= 1000000)
  (hs : s.Pairwise fun a b => ji a b <= 0) (hK : ∀ (r : List (List Int)) (X : List AV) h', Kept s r n -> Hp h0 h' nx (L.set k (.gro (some id) 1 n (r.map encI ++ X))) -> K (uw (some id) 1 r.length) h' nx = .ok True) : (CS Tryz.prog B).fn 202 p [uw (some id) 1 n, .fn 158 (.of 158) []] h nx K = .ok True := by
 refine gR (p := .of 202) (K := K) (zQ zT yt 10000000 fun hf => ?_) fun _ _ _ _ q => q;have hkl := (List.getElem?_eq_some_iff.1 hk).1;have hstart : Kept s (s.take 1) 1 := by
  have h1 : s.take 1 = [s[0]'(by omega)] := by
   rw [show (1 : Nat) = 0 + 1 from rfl, Zap, List.getElem?_eq_getElem (by omega)]; rfl
  refine ⟨by rw [h1]; simp, fun x => .rfl, by rw [h1]; simp, by rw [h1]; simp, by rw [h1]; simp⟩
 have keep : ∀ {h' nx'}, Hp h0 h' nx' L -> Hp h0 h' nx' (L.set k (.gro (some id) 1 n (s.map encI))) := fun {h' nx'} H' => by
  have : L.set k (.gro (some id) 1 n (s.map encI)) = L := by
   apply Zay;intro j;rw [List.getElem?_set];split
   ·rename_i e; subst e; rw [hk]
   ·rfl
  rw [this]; exact H'
 rw [zh.go, zh.t48, zA, zh.xu, zh.t47, zA, zh.t5, zA, zh.xw, H.groLen hk, qf, zh.t4, zI, zh.v6];by_cases c1 : n < 2
 ·rw [decide_eq_true (by omega), zD, zh.t3, zA, zh.bQ];simp only [zR, yG];rw [zh.ret];obtain rfl : n = 1 := by omega
  have := hK (s.take 1) [] _ hstart (by rw [Zal (by omega), Zcg]; exact keep H);rw [Zau, hsl] at this;exact this
 rw [decide_eq_false (by omega), zC, zK, zh.t46, zA, zh.t43, zA, zh.t6_s, zh.t42, zP];refine zh.t41_L (fun m x3 h' nx' => ∃ i : Nat, x3 = I i /\ m = n - i /\ 1 <= i /\ i <= n /\ Kept s (s.take i) i /\ h' = h /\ nx' = nx) (m := n - 1) (by omega) ⟨1, rfl, rfl, by omega, by omega, hstart, rfl, rfl⟩ ?_;rintro m z2 z3 z4 z5 z7 z8 z9 z10 h1 nx1 R ⟨i, rfl, rfl, hi1, hi, hkp, rfl, rfl⟩ hR;rw [zh.t40, zA, zh.t9, zA, zh.t7_s, H.groLen hk, qf];by_cases hlt : i < n
 case neg =>
  rw [decide_eq_false (by omega), zh.t8, zI, zh.v7, zC, jG, gG, zh.t45, zA, zh.t44_s];simp only [zR, yG];rw [zh.ret];obtain rfl : i = n := by omega
  have := hK (s.take i) [] _ hkp (by rw [Zal (by omega), Zcg]; exact keep H);rw [Zau, hsl, Nat.min_self] at this;exact this
 have hii : i < s.length := by omega
 have hx : (s.map encI)[i]? = some (encI s[i]) := by rw [List.getElem?_map, List.getElem?_eq_getElem hii]; rfl
 have hy : (s.map encI)[i - 1]? = some (encI s[i - 1]) := by rw [List.getElem?_map, List.getElem?_eq_getElem (by omega)]; rfl
 have ix : ∀ (j : Nat) (z : Int), z = (j : Int) -> j < n -> ∀ op : AV -> OP, zS 1 (uw (some id) 1 n) (I z) op = op (.ptr id j) := fun j z hz hj op => by
  show zS 1 (.sl id 0 n none 1) (I z) op = _;exact sIx hz hj
 rw [decide_eq_true (by omega), zh.t8, zI, zh.v7, zD, zK, zh.t39, zA, zh.t37, zP, zh.t36, zA, zh.mr, ix i _ rfl hlt, H.loadGro hk hx, sSub (by omega), ix (i - 1) _ (by omega) (by omega), H.loadGro hk hy, sCall_fnP];refine equal150 (by have := hw _ (Zak hii); omega) _ _ _ _ ?_;rintro _ rfl _;rw [zh.t35, zI, zh.v8];by_cases ce : s[i] = s[i - 1]
 case neg =>
  rw [decide_eq_false ce, zC, zK, zh.t38_s, qm (by omega)];have := hkp.new hi1 hs hii ce;have e : s.take i ++ [s[i]] = s.take (i + 1) := by rw [Zap, List.getElem?_eq_getElem hii]; rfl
  rw [e] at this;exact hR _ _ _ _ _ _ _ _ _ _ _ (by omega) ⟨i + 1, rfl, rfl, by omega, by omega, this, rfl, rfl⟩
 have hsame := hkp.same hi1 hii ce;have hlo : ∀ op : AV -> OP, jX 1 (uw (some id) 1 n) (some (I (i : Int))) none none op = op (.sl id (0 + i * 1) (n - i) none 1) := by
  intro op;rw [H.groLo hk (by omega)];simp only [dropV, beqF (show i ≠ 0 by omega), Zab (show i + 1 <= n by omega), cond_true, cond_false]
 rw [decide_eq_true ce, zD, zh.t34, zA, zh.t11_s, hlo, zh.t33, zA, zh.t28, zA, zh.t12_s, zh.t27, zP]
 refine zh.t26_L (fun m x3 x5 h' nx' => ∃ (r : List (List Int)) (j : Nat) (X : List AV), x3 = I r.length /\ x5 = I j /\ m = n - i - j /\ 1 <= j /\ j <= n - i /\ Kept s r (i + j) /\ r.length < i + j /\ nx' = nx1 /\ X.length = n - r.length /\ (∀ q, i + j - 1 <= q -> q < n -> (r.map encI ++ X)[q]? = (s.map encI)[q]?) /\ Hp h0 h' nx' (L.set k (.gro (some id) 1 n (r.map encI ++ X)))) (m := n - i - 1) (by omega)
  ⟨s.take i, 1, (s.drop i).map encI, by rw [Zau, Nat.min_eq_left (by omega)], rfl, rfl, by omega, by omega, hsame, by rw [Zau]; omega, rfl, by simp; omega, fun q _ _ => by rw [<- Zbh, List.take_append_drop], by rw [<- Zbh, List.take_append_drop]; exact keep H⟩ ?_
 rintro m y3 y5 y9 y10 h6 nx6 R' ⟨r, j, X, rfl, rfl, rfl, hj1, hj, hkr, hrl, rfl, hXl, hX, H6⟩ hR';have hrk : (L.set k (.gro (some id) 1 n (r.map encI ++ X)))[k]? = some (.gro (some id) 1 n (r.map encI ++ X)) := List.getElem?_set_self hkl;have hrlen : (r.map encI ++ X).length = n := by rw [Zat, Zan, hXl]; have := hkr.2.2.2.1; omega
 rw [zh.t25, zA, zh.t15, zA, zh.t13_s, jR, qf];by_cases hlt2 : j < n - i
 case neg =>
  rw [decide_eq_false (by omega), zh.t14, zI, zh.v9, zC, jG, gG, zh.t32, zA, zh.t29_s, H6.groLo hrk (by omega)];refine H6.clrGro hrk (by omega) hrlen fun h7 H7 => ?_;rw [List.set_set] at H7;have hk7 : (L.set k (.gro (some id) 1 n ((r.map encI ++ X).take r.length ++ List.replicate (n - r.length) .zf)))[k]? = some (.gro (some id) 1 n ((r.map encI ++ X).take r.length ++ List.replicate (n - r.length) .zf)) := List.getElem?_set_self hkl;rw [zh.t31, zA, zh.t30_s, H7.groHi hk7 (by omega)];simp only [zR, kX, yG];rw [zh.ret];have e : (r.map encI ++ X).take r.length = r.map encI := by rw [List.take_left' (by simp)]
  rw [e] at H7;obtain rfl : j = n - i := by omega
  rw [show i + (n - i) = n by omega] at hkr;exact hK r _ _ hkr H7
 have hjj : i + j < s.length := by omega
 have hrn : r.length < n := by omega
 have hn0 : 0 < n := by omega
 have hX0 : 0 < X.length := by omega
 have hx2 : (r.map encI ++ X)[i + j]? = some (encI s[i + j]) := by rw [hX _ (by omega) (by omega), List.getElem?_map, List.getElem?_eq_getElem hjj]; rfl
 have hy2 : (r.map encI ++ X)[i + j - 1]? = some (encI s[i + j - 1]) := by rw [hX _ (by omega) (by omega), List.getElem?_map, List.getElem?_eq_getElem (by omega)]; rfl
 have ix2 : ∀ (q : Nat) (z : Int), z = (q : Int) -> q < n - i -> ∀ op : AV -> OP, zS 1 (.sl id (0 + i * 1) (n - i) none 1) (I z) op = op (.ptr id (i + q)) := fun q z hz hq op => by
  subst hz;rw [wI hq];rw [show 0 + i * 1 + q * 1 = i + q by omega]
 rw [decide_eq_true (by omega), zh.t14, zI, zh.v9, zD, zK, zh.t24, zA, zh.t22, zP, zh.t21, zA, zh.cO, ix2 j _ rfl hlt2, H6.loadGro hrk hx2, sSub (by omega), ix2 (j - 1) _ (by omega) (by omega), show i + (j - 1) = i + j - 1 by omega, H6.loadGro hrk hy2, sCall_fnP];refine equal150 (by have := hw _ (Zak hjj); omega) _ _ _ _ ?_;rintro _ rfl _;rw [yX, zh.t20, zI, zh.v10];by_cases ce2 : s[i + j] = s[i + j - 1]
 ·rw [decide_eq_true ce2, Zae, zC, zK, zh.t23_s, qm (by omega)];exact hR' (n - i - (j + 1)) _ _ _ _ _ _ (by omega) ⟨r, j + 1, X, rfl, rfl, by omega, by omega, by omega, hkr.same (show 1 <= i + j by omega) hjj ce2, by omega, rfl, hXl, fun q h1 h2 => hX q (by omega) h2, H6⟩
 ·rw [decide_eq_false ce2, Zah, zD, zh.t19, zA, zh.t17_s, ix2 j _ rfl hlt2, H6.loadGro hrk hx2, ix r.length _ rfl (by omega)];refine H6.storeGro hrk (by rw [hrlen]; exact hrn) rfl fun h7 H7 => ?_;rw [List.set_set] at H7;rw [zh.t18_s, qm (by omega), zh.t23_s, qm (by omega)];obtain ⟨x0, X', rfl⟩ : ∃ x0 X', X = x0 :: X' := by cases X with
   | nil => simp at hXl; omega
   | cons a b => exact ⟨a, b, rfl⟩
  have e : (r.map encI ++ x0 :: X').set r.length (encI s[i + j]) = (r ++ [s[i + j]]).map encI ++ X' := by
   have := dX (r.map encI) x0 (encI s[i + j]) X';rw [Zan] at this;rw [this, Zbh, Zbr]; rfl
  have hX2 : ∀ q, r.length < q -> ((r ++ [s[i + j]]).map encI ++ X')[q]? = (r.map encI ++ x0 :: X')[q]? := fun q hq => by
   rw [<- e, List.getElem?_set_ne (by omega)]
  rw [e] at H7;refine hR' (n - i - (j + 1)) _ _ _ _ _ _ (by omega) ⟨r ++ [s[i + j]], j + 1, X', by simp, rfl, by omega, by omega, by omega, hkr.new (show 1 <= i + j by omega) hs hjj ce2, by simp; omega, rfl, ?_, fun q h1 h2 => by rw [hX2 q (by omega)]; exact hX q (by omega) h2, H7⟩;have : X'.length + 1 = n - r.length := by simpa using hXl
  simp; omega
theorem Hp.frzGroP {id : Pa} {n : Nat} {l X : List AV} {h0 h : T Blk} {nx : Pa} {L : List Ob} {k : Nat} (H : Hp h0 h nx L) (hk : L[k]? = some (.gro (some id) 1 n (l ++ X))) (hf : ∀ v ∈ l, fC v = true) : FrzN h0 h (uw (some id) 1 l.length) (.lst 1 l.length l) := by
 have own := H.own _ (Zaa hk);have hoff := H.off;obtain ⟨t, h1, h2, h3⟩ := own;rw [Zat] at h2;refine .sl _ _ _ _ _ true _ t _ (hoff id (List.mem_flatMap.2 ⟨_, Zaa hk, by simp [Ob.names]⟩)) trivial h1 (by omega) (by omega) (List.all_eq_true.2 fun v hv => fC.jg (hf v hv)) fun i v hi => ?_;have hil := (List.getElem?_eq_some_iff.1 hi).1;have := yB t 0 (n * 1) i (by omega);rw [h3, List.getElem?_append_left hil, hi] at this;rw [<- Option.some.inj this];exact zG (hf v (Zaa hi))
theorem uU {a b c : List Int} (h1 : ji a b <= 0) (h2 : ji b c <= 0) : ji a c <= 0 := by
 by_cases z1 : ji a b = 0
 ·rw [fM z1]; exact h2
 ·by_cases z2 : ji b c = 0
  ·rw [<- fM z2]; exact h1
  ·have := gV (a := a) (b := b) (c := c) (by omega) (by omega); omega
theorem sorted_ex (q : List (List Int)) : ∃ s : List (List Int), s.Perm q /\ s.Pairwise fun a b => ji a b <= 0 := by
 refine ⟨q.mergeSort fun a b => decide (ji a b <= 0), List.mergeSort_perm .., ?_⟩
 have := List.pairwise_mergeSort (le := fun a b : List Int => decide (ji a b <= 0)) (fun a b c h1 h2 => by
  exact decide_eq_true (uU (of_decide_eq_true h1) (of_decide_eq_true h2))) (fun a b => by
  have n1 := xk a b;simp; omega) q
 exact this.imp fun h => of_decide_eq_true h
def pq (G : List Sym) (f : List Int) : List (List Int) := G.map fun a => yR a.2 a.1 f
def imgV (G : List Sym) (f : List Int) : AV := if (pq G f).any (·.any farB) then .tup [.zf, I 3] else .tup [encT (gS (pq G f)), I 0]
theorem kept_sort {s q r : List (List Int)} {n : Nat} (hp : s.Perm q) (hn : s.length = n) (hk : Kept s r n) : r = gS q := by
 refine mQ hk.1 (wG q) fun x => ?_;rw [hk.2.1, Zal (by omega), hp.mem_iff, fG]
theorem images157 {G : List Sym} {f : List Int} (ok : wu G f.length) (hf : xN f = 0) : Pure Tryz.prog B 157 [jc G, encI f] (· = imgV G f) := by
 refine yK fun h nx K H0 hK => zQ zT yt 10000000 fun hf' => ?_;have hgl := ok.len;obtain ⟨hf1, hf2⟩ := fillE_rng hf;rw [yc.go, yc.t23, zA, yc.xu];refine H0.box (l := [encI f]) rfl fun b2 h1 nx1 H1 => ?_;refine H1.alloc fun b3 h2 nx2 H2 => ?_;refine H2.alloc fun b4 h3 nx3 H3 => ?_;rw [yc.t22, zA, yc.xw];refine H3.alloc fun b5 h4 nx4 H4 => ?_;rw [yc.t21, zA, yc.t16, zA, yc.bQ];refine vE _ _ _ _ ?_;rintro _ rfl _;rw [yc.t15, zP, yc.t14];have H5 := H4.addGro 1
 refine rfAll H5 yc.t14_f (fun v w k => yc.t14_b k) (by omega)
  (fun i L' => (pq (G.take i) f).any (·.any farB) = false /\ ∃ o, L' = [.gro o 1 i ((pq (G.take i) f).map encI), .arr b5 [uw o 1 i], .arr b4 [I 0], .arr b3 [.zf], .arr b2 [encI f]])
  (fun L' => (pq G f).any (·.any farB) = true /\ ∃ o i l, L' = [.gro o 1 i l, .arr b5 [uw o 1 i], .arr b4 [I 3], .arr b3 [.zf], .arr b2 [encI f]]) (fun _ _ => False) ⟨rfl, none, rfl⟩
  (fun i x Rb Rb' h6 nx6 L' M E O1 O2 hx hJ H6 hM hE hR hX => ?_) (fun h6 nx6 L' hJ H6 => ?_) (fun h6 nx6 L' hX H6 => ?_) (fun _ _ _ _ hX _ => hX.elim)
 ·obtain ⟨hfar, o, rfl⟩ := hJ;have hxm := Zaa hx;have hil := (List.getElem?_eq_some_iff.1 hx).1;have hdp := ok.dp x hxm;have hal : (yR x.2 x.1 f).length = f.length := jN ..;have htk : pq (G.take (i + 1)) f = pq (G.take i) f ++ [yR x.2 x.1 f] := by
   unfold pq; rw [Zap, hx, Zbh]; rfl
  rw [yc.t3_s];refine H6.alloc fun b9 h7 nx7 H7 => ?_;refine H7.jl (k := 0) (n := 2) rfl rfl rfl fun h8 H8 => ?_;refine hM _ _ _ [_] H8 fun h9 H9 => ?_;rw [yc.t13, zP, yc.t12, zA, yc.t4_s, H9.zi (k := 0) (n := 2) rfl rfl, H9.load (k := 6) (i := 0) rfl rfl];refine image135 (g := x.1) (c := x.2) (by omega) (by rw [hdp.1.1]) hdp.perm (fun y hy => by have := hf2 y hy; omega) _ _ _ _ ?_;rintro _ rfl _;rw [yc.t11, zA, yc.t9, zA, yc.t5_s];refine contF131 (l := yR x.2 x.1 f) (by omega) (fun x _ K hK => far137 x _ _ _ _ fun v hv _ => by rw [hv]; exact hK) ?_;rw [yc.t8, zI, yc.v11];by_cases c : (yR x.2 x.1 f).any farB = true
  ·rw [c, zD, yc.t7, zA, yc.t6_s];refine H9.store (k := 5) rfl (by simp) rfl fun h10 H10 => ?_;refine H10.store (k := 4) rfl (by simp) rfl fun h11 H11 => ?_;simp only [zR, kX];exact hR _ _ _ [_] _ ⟨List.any_eq_true.2 ⟨_, List.mem_map.2 ⟨x, hxm, rfl⟩, c⟩, o, i, _, rfl⟩ H11
  ·have c : (yR x.2 x.1 f).any farB = false := by cases q : (yR x.2 x.1 f).any farB <;> simp_all
   rw [c, zC, zK, yc.mr, H9.load (k := 3) (i := 0) rfl rfl];refine H9.zy (l := [encI (yR x.2 x.1 f)]) rfl fun tb h15 nx15 H15 => ?_;refine H15.appN (k := 3) (o := o) (c := 1) (esz := 1) (new := [encI (yR x.2 x.1 f)]) rfl (je.rd (l := [encI (yR x.2 x.1 f)]) (n := 1) (e := 1) (H15.own _ (Zaj ..)) rfl) rfl rfl (by decide) (by decide) (by omega) fun o'' h16 nx16 _ H16 => ?_;refine H16.store (k := 4) rfl (by simp) (j9 _ _ _) fun h17 H17 => ?_;refine hE _ _ _ [_, _] _ ⟨by rw [htk, List.any_append, hfar]; simpa using c, o'', ?_⟩ H17;rw [htk, Zbh]
   rfl
 ·obtain ⟨hfar, o, rfl⟩ := hJ;rw [Zal (Zai _)] at H6 hfar;have hne : 0 < G.length := List.length_pos_iff.2 ok.ne;obtain ⟨id, rfl⟩ : ∃ id, o = some id := by
   cases o with
   | some id => exact ⟨id, rfl⟩
   | none => obtain ⟨h1, h2⟩ := H6.own _ (Zaj ..); omega
  obtain ⟨s, hs1, hs2⟩ := sorted_ex (pq G f);have hil : (pq G f).length = G.length := Zan _;have hw : ∀ a ∈ pq G f, a.length <= 1000000 := fun a ha => by
   obtain ⟨x, _, rfl⟩ := List.mem_map.1 ha;rw [jN]; omega
  rw [yc.t20, zA, yc.t17_s, H6.load (k := 1) (i := 0) rfl rfl];refine sort200 H6 (k := 0) rfl (by omega) hw hs1 hs2 fun h7 H7 => ?_;rw [yc.t19, zA, yc.t18_s, H7.load (k := 1) (i := 0) rfl rfl];refine compact202 (k := 0) H7 rfl (by rw [hs1.length_eq, hil]) hne (by omega) (fun a ha => hw a (hs1.mem_iff.1 ha)) hs2 fun r X h8 hkr H8 => ?_;have hr := kept_sort hs1 (by rw [hs1.length_eq, hil]) hkr;subst hr;refine H8.store (k := 3) rfl (by simp) (j9 _ _ _) fun h9 H9 => ?_;refine H9.store (k := 2) rfl (by simp) rfl fun h10 H10 => ?_;simp only [zR, yG];rw [yc.ret, H10.load (k := 3) (i := 0) rfl rfl, H10.load (k := 2) (i := 0) rfl rfl];have fz := H10.frzGroP (k := 0) (id := id) (n := G.length) (l := (gS (pq G f)).map encI) (X := X) rfl fun v hv => by obtain ⟨a, _, rfl⟩ := List.mem_map.1 hv; exact uM a
  rw [Zan] at fz;exact hK _ _ _ _ _ H10 (jQ fz (zG rfl)) (by rw [imgV, hfar]; rfl)
 ·obtain ⟨hany, o, i, l, rfl⟩ := hX;simp only [kX, yG];rw [yc.ret, H6.load (k := 3) (i := 0) rfl rfl, H6.load (k := 2) (i := 0) rfl rfl];exact hK _ _ _ _ _ H6 (jQ (zG rfl) (zG rfl)) (by rw [imgV, hany]; rfl)
def actE (G : List Sym) (f : List Int) : Int := if xN f ≠ 0 then xN f else yV G f.length
theorem acting156 {G : List Sym} {f : List Int} (hG : G.length <= 100000) (hw : ∀ g ∈ G, g.1.length <= 100000) (hfl : f.length <= 100000) : Pure Tryz.prog B 156 [jc G, encI f] (· = I (actE G f)) := by
 refine yK fun h nx K H0 hK => zQ zT yt 1000 fun hf' => ?_;rw [jd.go, jd.t11, zA, jd.xu, jd.t10, zA, jd.t7, zA, jd.xw]
 (refine fill134 (by omega) _ _ _ _ ?_; rintro _ rfl _)
 rw [jd.t6, zA, jd.bQ, ql, jd.t5, zI, jd.v4];by_cases c : xN f = 0
 case neg =>
  rw [decide_eq_false c, Zah, zD, jd.t4, zA, jd.t3_s];simp only [zR, yG];rw [jd.ret];exact hK _ _ _ _ _ H0 (zG rfl) (by rw [actE, if_pos c])
 rw [decide_eq_true c, Zae, zC, zK, jd.t9, zA, jd.t8_s, zH];refine wD hG hw _ _ _ _ ?_;rintro _ rfl _;simp only [zR, yG];rw [jd.ret];exact hK _ _ _ _ _ H0 (zG rfl) (by rw [actE, if_neg (fun q => q c)])
theorem actE_ok {G : List Sym} {f : List Int} (h : actE G f = 0) : xN f = 0 /\ wu G f.length := by
 unfold actE at h;by_cases c : xN f = 0
 ·rw [if_neg (fun q => q c)] at h;obtain ⟨n, hn, ok⟩ := vQ h;obtain rfl : f.length = n := by omega
  exact ⟨c, ok⟩
 ·rw [if_pos c] at h; exact absurd h c
def orbV (G : List Sym) (f : List Int) : AV := if actE G f ≠ 0 then .tup [.zf, I (actE G f)] else imgV G f
theorem orbit75 {G : List Sym} {f : List Int} (hG : G.length <= 100000) (hw : ∀ g ∈ G, g.1.length <= 100000) (hfl : f.length <= 100000) : Pure Tryz.prog B 75 [jc G, encI f] (· = orbV G f) := by
 refine yK fun h nx K H0 hK => zQ zT yt 1000 fun hf' => ?_;rw [F75.go, F75.t11, zA, F75.xu, F75.t10, zA, F75.t7, zA, F75.xw];refine acting156 hG hw hfl _ _ _ _ ?_;rintro _ rfl _;rw [F75.t6, zA, F75.bQ, ql, F75.t5, zI, F75.v5];by_cases c : actE G f = 0
 case neg =>
  rw [decide_eq_false c, Zah, zD, F75.t4, zA, F75.t3_s];simp only [zR, yG];rw [F75.ret];exact hK _ _ _ _ _ H0 (jQ (zG rfl) (zG rfl)) (by rw [orbV, if_pos c])
 obtain ⟨hf, ok⟩ := actE_ok c;rw [decide_eq_true c, Zae, zC, zK, F75.t9, zA, F75.t8_s];refine images157 ok hf _ _ _ _ ?_;rintro _ rfl _;by_cases d : (pq G f).any (·.any farB) = true
 ·have e : imgV G f = .tup [.zf, I 3] := by rw [imgV, d]; rfl
  rw [e, y0, jB];simp only [zR, yG];rw [F75.ret];exact hK _ _ _ _ _ H0 (jQ (zG rfl) (zG rfl)) (by rw [orbV, if_neg (fun q => q c), e])
 ·have e : imgV G f = .tup [encT (gS (pq G f)), I 0] := by rw [imgV, if_neg d]
  rw [e, y0, jB];simp only [zR, yG];rw [F75.ret];exact hK _ _ _ _ _ H0 (jQ (zG (mM _)) (zG rfl)) (by rw [orbV, if_neg (fun q => q c), e])
def orbErr (G : List Sym) (f : List Int) : Int := if actE G f ≠ 0 then actE G f else if (pq G f).any (·.any farB) then 3 else 0
theorem orbV_ok {G : List Sym} {f : List Int} (h : orbErr G f = 0) : orbV G f = .tup [encT (gS (pq G f)), I 0] := by
 unfold orbV orbErr at *
 by_cases c : actE G f = 0
 ·rw [if_neg (fun q => q c)] at h ⊢;rw [imgV];by_cases d : (pq G f).any (·.any farB) = true
  ·rw [if_pos d] at h; cases h
  ·rw [if_neg d]
 ·rw [if_pos c] at h; exact absurd h c
theorem orb_pos {G : List Sym} {f : List Int} (ok : wu G f.length) : 0 < (gS (pq G f)).length := by
 have hm : yR (idS f.length).2 (idS f.length).1 f ∈ gS (pq G f) := fG.2 (List.mem_map.2 ⟨_, ok.one, rfl⟩);exact List.length_pos_of_mem hm
def jL (G : List Sym) (f : List Int) : List Sym := G.filter (goesB f f)
def stabV (G : List Sym) (f : List Int) : AV := if actE G f ≠ 0 then .tup [.zf, I (actE G f)] else .tup [jc (jL G f), I 0]
theorem stab_len (G : List Sym) (f : List Int) (i : Nat) : (jL (G.take i) f).length <= G.length := by
 have := Zby (goesB f f) (G.take i);rw [Zau] at this;unfold jL; omega
theorem stab_snoc {G : List Sym} {f : List Int} {i : Nat} {x : Sym} (hx : G[i]? = some x) : jL (G.take (i + 1)) f = if yR x.2 x.1 f = f then jL (G.take i) f ++ [x] else jL (G.take i) f := by
 unfold jL;rw [Zap, hx, List.filter_append];by_cases c : yR x.2 x.1 f = f
 ·rw [if_pos c];show _ ++ List.filter _ [x] = _;rw [List.filter_cons_of_pos (show goesB f f x = true from decide_eq_true c)]; rfl
 ·rw [if_neg c];show _ ++ List.filter _ [x] = _;rw [List.filter_cons_of_neg (by rw [goesB, decide_eq_false c]; decide)]; simp
theorem stabilizer76 {G : List Sym} {f : List Int} (hG : G.length <= 100000) (hw : ∀ g ∈ G, g.1.length <= 100000) (hfl : f.length <= 100000) : Pure Tryz.prog B 76 [jc G, encI f] (· = stabV G f) := by
 refine yK fun h nx K H0 hK => zQ zT yt 10000000 fun hf' => ?_;rw [F76.go, F76.t24, zA, F76.xu];refine H0.box (l := [encI f]) rfl fun b2 h1 nx1 H1 => ?_;rw [F76.t23, zA, F76.t7, zA, F76.xw, H1.load (k := 0) (i := 0) rfl rfl];refine acting156 hG hw hfl _ _ _ _ ?_;rintro _ rfl _;rw [F76.t6, zA, F76.bQ, ql, F76.t5, zI, F76.v8];by_cases c : actE G f = 0
 case neg =>
  rw [decide_eq_false c, Zah, zD, F76.t4, zA, F76.t3_s];simp only [zR, yG];rw [F76.ret];exact hK _ _ _ _ _ H1 (jQ (zG rfl) (zG rfl)) (by rw [stabV, if_pos c])
 obtain ⟨hf, ok⟩ := actE_ok c;obtain ⟨hf1, hf2⟩ := fillE_rng hf;rw [decide_eq_true c, Zae, zC, zK, F76.t22, zA, F76.t8_s];refine H1.alloc fun b6 h2 nx2 H2 => ?_;rw [F76.t21, zA, F76.t18, zA, F76.t9_s];refine vE _ _ _ _ ?_;rintro _ rfl _;rw [F76.t17, zP, F76.t16];have H3 := H2.addGro 2
 refine rfAll H3 F76.t16_f (fun v w k => F76.t16_b k) (by omega)
  (fun i L' => ∃ o, L' = [.gro o 2 (jL (G.take i) f).length (yD (jL (G.take i) f)), .arr b6 [uw o 2 (jL (G.take i) f).length], .arr b2 [encI f]])
  (fun _ => False) (fun _ _ => False) ⟨none, rfl⟩
  (fun i x Rb Rb' h6 nx6 L' M E O1 O2 hx hJ H6 hM hE hR hX => ?_) (fun h6 nx6 L' hJ H6 => ?_) (fun _ _ _ hX _ => hX.elim) (fun _ _ _ _ hX _ => hX.elim)
 ·obtain ⟨o, rfl⟩ := hJ;have hxm := Zaa hx;have hdp := ok.dp x hxm;have hal : (yR x.2 x.1 f).length = f.length := jN ..;have hsn := stab_snoc (f := f) hx;rw [F76.mr];refine H6.alloc fun b9 h7 nx7 H7 => ?_;refine H7.jl (k := 0) (n := 2) rfl rfl rfl fun h8 H8 => ?_;refine hM _ _ _ [_] H8 fun h9 H9 => ?_;have ld2 : ∀ op : AV -> OP, zF (.ptr b2 0) h9 op = op (encI f) := fun op => H9.load (k := 4) (i := 0) rfl rfl;rw [F76.t15, zP, F76.t14, zA, F76.t11_s, H9.zi (k := 0) (n := 2) rfl rfl, ld2, ld2];refine image135 (g := x.1) (c := x.2) (by omega) (by rw [hdp.1.1]) hdp.perm (fun y hy => by have := hf2 y hy; omega) _ _ _ _ ?_;rintro _ rfl _;rw [ld2, zB];refine equal150 (by omega) _ _ _ _ ?_;rintro _ rfl _;rw [F76.t13, zI, F76.v12];by_cases d : yR x.2 x.1 f = f
  ·rw [if_pos d] at hsn;rw [decide_eq_true d, zD, F76.t12_s, H9.load (k := 3) (i := 0) rfl rfl, sFx, H9.load (k := 0) (i := 0 + 0) rfl rfl, sFx, H9.load (k := 0) (i := 0 + 1) rfl rfl];refine clone106 _ (by rw [hdp.1.1]; omega) _ _ _ _ ?_;rintro _ rfl _;rw [H9.load (k := 0) (i := 0 + 1) rfl rfl, zB, sFx, zB, H9.load (k := 3) (i := 0) rfl rfl, zB, wY rfl rfl];refine H9.zy (l := [encI x.1, .bool x.2]) rfl fun tb h15 nx15 H15 => ?_;rw [H15.load (k := 4) (i := 0) rfl rfl, zB, sAppq_row];refine H15.appN (k := 3) (o := o) (c := 1) (esz := 2) (new := [encI x.1, .bool x.2]) rfl (je.rd (l := [encI x.1, .bool x.2]) (n := 1) (e := 2) (H15.own _ (Zaj ..)) rfl) rfl rfl (by decide) (by decide) (by have := stab_len G f i; omega) fun o'' h16 nx16 _ H16 => ?_;refine H16.store (k := 4) rfl (by simp) (j9 _ _ _) fun h17 H17 => ?_;refine hE _ _ _ [_, _] _ ⟨o'', ?_⟩ H17;rw [hsn, Zat, flatG_snoc]
   rfl
  ·rw [if_neg d] at hsn;rw [decide_eq_false d, zC, zK];exact hE _ _ _ [_] _ ⟨o, by rw [hsn]⟩ H9
 ·obtain ⟨o, rfl⟩ := hJ;rw [Zal (Zai _)] at H6;rw [F76.t20, zA, F76.t19_s, H6.load (k := 1) (i := 0) rfl rfl];simp only [zR, yG];rw [F76.ret];exact hK _ _ _ _ _ H6 (jQ (H6.frzGro (k := 0) rfl xF) (zG rfl)) (by rw [stabV, if_neg (fun q => q c)])
def LT (v : AV) (l : List (List Int)) : Prop := (v = .zf /\ l = []) \/ (v = encT l /\ l ≠ [])
theorem LT.len {v : AV} {l : List (List Int)} (h : LT v l) {op : AV -> OP} : sLen v op = op (I l.length) := by
 rcases h with ⟨rfl, rfl⟩ | ⟨rfl, _⟩
 ·exact yZ
 ·exact zH ..
theorem LT.frz {v : AV} {l : List (List Int)} (h : LT v l) {N : Pa -> Prop} {O : AV -> Prop} {hh : T Blk} : Frz True N O hh v (encT l) := by
 rcases h with ⟨rfl, rfl⟩ | ⟨rfl, _⟩
 ·exact .lnils 1
 ·exact zG (mM _)
theorem scal_T (q : List (List Int)) : (q.map encI).all jg = true := List.all_eq_true.2 fun v hv => by obtain ⟨a, _, rfl⟩ := List.mem_map.1 hv; exact fC.jg (uM a)
theorem LT.halves {v : AV} {l : List (List Int)} {i : Nat} (h : LT v l) (hi : i <= l.length) : ∃ lo hi' : AV, (∀ op : AV -> OP, jX 1 v none (some (I (i : Int))) none op = op lo) /\ (∀ op : AV -> OP, jX 1 v (some (I (i : Int))) none none op = op hi') /\
  (∀ (h : T Blk) (no : OP) (K' : List AV -> Nat -> OP), gM lo h no K' = K' ((l.take i).map encI) i) /\ (∀ (h : T Blk) (no : OP) (K' : List AV -> Nat -> OP), gM hi' h no K' = K' ((l.drop i).map encI) (l.length - i)) := by
 rcases h with ⟨rfl, rfl⟩ | ⟨rfl, h0⟩
 ·obtain rfl : i = 0 := by simpa using hi
  exact ⟨.zf, .zf, fun op => rfl, fun op => rfl, fun h no K' => rfl, fun h no K' => rfl⟩
 ·have hn : 1 <= l.length := by cases l with
   | nil => exact absurd rfl h0
   | cons _ _ => simp
  refine ⟨.lst 1 (i - 0) (((l.map encI).drop (0 * 1)).take ((i - 0) * 1)), .lst 1 (l.length - i) (((l.map encI).drop (i * 1)).take ((l.length - i) * 1)), fun op => ?_, fun op => ?_, fun h no K' => ?_, fun h no K' => ?_⟩
  ·show (bif Nat.beq 1 1 && Nat.ble 1 l.length then dG 1 l.length (l.map encI) none (some (I (i : Int))) none op else .no 17) = _;rw [Zav, Zab hn];show (match bnd (some (I (i : Int))) l.length l.length with | none => Out.no 17 | some h => match bnd none h 0 with | none => .no 17 | some q => op (.lst 1 (h - q) (((l.map encI).drop (q * 1)).take ((h - q) * 1)))) = _;rw [wQ hi]; rfl
  ·show (bif Nat.beq 1 1 && Nat.ble 1 l.length then dG 1 l.length (l.map encI) (some (I (i : Int))) none none op else .no 17) = _;rw [Zav, Zab hn];show (match bnd (some (I (i : Int))) l.length 0 with | none => Out.no 17 | some q => op (.lst 1 (l.length - q) (((l.map encI).drop (q * 1)).take ((l.length - q) * 1)))) = _;rw [wQ hi]
  ·show K' _ (i - 0) = _;rw [Nat.sub_zero, Nat.zero_mul, List.drop_zero, Zbv, <- List.map_take]
  ·show K' _ (l.length - i) = _;rw [Zbv, Zbv, <- List.map_drop, Zal (by rw [Zan, Zcb]; omega)]
theorem insT1_at {l : List (List Int)} {f : List Int} {i : Nat} (ha : (l.take i).all (yQ · f) = true) (hi : i <= l.length) (hn : ∀ q : i < l.length, yQ l[i] f = false) (hf : f ∉ l) : uV l f = l.take i ++ [f] ++ l.drop i := by
 obtain ⟨e1, e2⟩ := twT_at hi ha hn;rw [uV, if_neg hf, e1, e2, Zbr]; rfl
theorem putList48 {v : AV} {l : List (List Int)} {f : List Int} (hv : LT v l) (hasc : AscT l) (hl : l.length <= 100000) (hw : ∀ g ∈ l, g.length <= 1000000) (hfl : f.length <= 1000000) : Pure Tryz.prog B 48 [v, encI f] (· = encT (uV l f)) := by
 refine yK fun h nx K H0 hK => zQ zT yt 1000000 fun hf' => ?_;rw [F48.go, F48.t20, zA, F48.xu, F48.t19, zA, F48.xw, F48.t18, zA, F48.t9, zP];refine F48.t8_L (fun m x3 h' nx' => ∃ i : Nat, x3 = I i /\ m = l.length - i /\ i <= l.length /\ (l.take i).all (yQ · f) = true /\ Hp h h' nx' []) (m := l.length) (by omega) ⟨0, rfl, by omega, by omega, by simp, H0⟩ ?_;rintro m z3 z4 h3 nx3 R ⟨i, rfl, rfl, hi, hal, H3⟩ hR;have put : (∀ q : i < l.length, yQ l[i] f = false) -> f ∉ l -> ∀ x4 x5, IR.run F48.t16 (CS Tryz.prog B) 1000000 (fnO F48.res K) (gu F48.res K) (F48.fr v (encI f) .zf (I i) x4 x5) h3 nx3 = .ok True := by
  intro hn hnin x4 x5;obtain ⟨lo, hi', e1, e2, r1, r2⟩ := hv.halves hi;have f0 : (gD (dh 0 [AV.zf]) []).isSome = true := rfl;have f1 : (gD (dh 1 [AV.zf]) [(0, 1, encI f)]).isSome = true := rfl;rw [F48.t16, zA, F48.t15_s, f0, Bool.and_self, jM, e1, f1, Bool.and_self, jM, e2];refine H3.zy (l := []) rfl fun e0 h4 nx4 H4 => ?_
  try simp only [e1, e2, zB]
  refine H4.app0E (by decide) (fun no K' => r1 _ no K') (by rw [Zan, Zau]; omega) (scal_T _) (by decide) (by omega) fun w X h5 nx5 H5 hp => ?_
  try simp only [e1, e2, zB]
  refine H5.zy (l := [encI f]) rfl fun b h6 nx6 H6 => ?_
  try simp only [e1, e2, zB]
  refine hp _ _ _ _ [encI f] b _ H6 rfl rfl fun id h7 nx7 H7 => ?_
  try simp only [e1, e2, zB]
  show sApp 1 24 (uw (some id) 1 (i + 1)) hi' h7 nx7 _ = _;refine H7.appN (k := 0) (o := some id) (n := i + 1) (c := l.length - i) (new := (l.drop i).map encI) rfl (fun no K' => r2 _ no K') (by rw [Zan, Zcb]; omega) (scal_T _) (by decide) (by decide) (by omega) fun o' h8 nx8 _ H8 => ?_;simp only [zR, yG];rw [F48.ret];have hp := insT1_at hal hi hn hnin;have e3 : i + 1 + (l.length - i) = (uV l f).length := by
   rw [hp]; simp only [Zat, Zau, Zcb, Zbj, List.length_nil]; omega
  have e4 : (l.take i).map encI ++ [encI f] ++ (l.drop i).map encI = (uV l f).map encI := by
   rw [hp, Zbh, Zbh]; rfl
  have H9 : Hp h h8 nx8 [.gro o' 1 (uV l f).length ((uV l f).map encI)] := by
   have := H8;rw [e3] at this;simp only [List.set_cons_zero, e4] at this;exact this
  rw [e3];exact hK _ _ _ _ _ H9 (H9.frzGro (k := 0) rfl fun v hv => by obtain ⟨a, _, rfl⟩ := List.mem_map.1 hv; exact uM a) rfl
 have fin : (∀ q : i < l.length, yQ l[i] f = false) -> ∀ x4, IR.run F48.t17 (CS Tryz.prog B) 1000000 (fnO F48.res K) (gu F48.res K) (F48.fr v (encI f) .zf (I i) x4 (.bool false)) h3 nx3 = .ok True := by
  intro hn x4;have hst := insT_stop hasc hal hi hn;rw [F48.t17, zA, F48.t14, zA, F48.mr, F48.r4_0, F48.r4_0_g, hv.len, qf];by_cases hlt : i < l.length
  case neg =>
   simp only [show ¬ (i : Int) < (l.length : Int) by omega, decide_false, j7];rw [F48.r4_1, F48.r4_1_g];simp only [j7, gW_ft];rw [F48.r4_2, F48.r4_2_g, zY, F48.t13, zI, F48.v5, zC, zK];exact put hn (fun q => hlt (hst.1 q).1) _ _
  have hvl : v = encT l := by
   rcases hv with ⟨_, rfl⟩ | ⟨q, _⟩
   ·simp at hlt
   ·exact q
  have hx : l[i]? = some l[i] := List.getElem?_eq_getElem hlt;have hwi := hw _ (Zak hlt);simp only [show (i : Int) < (l.length : Int) by omega, decide_true, gC];rw [show v = encT l from hvl, wz rfl hlt, F48.r4_1, F48.r4_1_g];simp only [gC];rw [ldL (getT hx), gW_tt];refine wX (by omega) _ _ _ _ ?_;rintro _ rfl _;rw [F48.r4_2, F48.r4_2_g, yL, F48.t13, zI, F48.v5];by_cases c : l[i] = f
  ·rw [decide_eq_true c, zD, F48.t12, zA, F48.t11_s];simp only [zR, yG];rw [F48.ret];exact hK _ _ _ _ _ H3 (zG (mM l)) (by rw [uV, if_pos (hst.2 ⟨hlt, c⟩)])
  ·rw [decide_eq_false c, zC, zK, <- hvl];exact put hn (fun q => c (hst.1 q).2) _ _
 rw [F48.t7, zA, F48.t4, zA, F48.bQ, F48.r2_0, F48.r2_0_g, hv.len, qf];by_cases hlt : i < l.length
 case neg =>
  simp only [show ¬ (i : Int) < (l.length : Int) by omega, decide_false, j7];rw [F48.r2_1, F48.r2_1_g];simp only [j7, gW_ft];rw [F48.r2_2, F48.r2_2_g, zY, F48.t3, zI, F48.v4, zC, jG, gG];exact fin (fun q => absurd q hlt) _
 have hvl : v = encT l := by
  rcases hv with ⟨_, rfl⟩ | ⟨q, _⟩
  ·simp at hlt
  ·exact q
 have hx : l[i]? = some l[i] := List.getElem?_eq_getElem hlt;have hwi := hw _ (Zak hlt);simp only [show (i : Int) < (l.length : Int) by omega, decide_true, gC];rw [show v = encT l from hvl, wz rfl hlt, F48.r2_1, F48.r2_1_g];simp only [gC];rw [ldL (getT hx), gW_tt];refine before74 hwi hfl _ _ _ _ ?_;rintro _ rfl _;rw [F48.r2_2, F48.r2_2_g, yL, F48.t3, zI, F48.v4];cases c2 : yQ l[i] f with
 | false =>
  rw [zC, jG, gG, <- hvl];exact fin (fun _ => c2) _
 | true =>
  rw [zD, zK, F48.t6, zP, F48.t5_s, qm (by omega), <- hvl];refine hR (l.length - (i + 1)) _ _ _ _ (by omega) ⟨i + 1, rfl, rfl, by omega, ?_, H3⟩;exact uW hx hal c2
end Go.Ev
namespace Go.Ev
open Go.Proofs
theorem apply_bnd {n : Nat} {a : Sym} (ha : DP n a) {f : List Int} (hf : f.length = n) {M : Int} (hM : ∀ x ∈ f, -M <= x /\ x <= M) (h0 : 0 <= M) : ∀ y ∈ yR a.2 a.1 f, -(M + n + 1) <= y /\ y <= M + n + 1 := by
 intro y hy;obtain ⟨j, hj⟩ := List.getElem?_of_mem hy;have hjl := (List.getElem?_eq_some_iff.1 hj).1;rw [jN, hf] at hjl;obtain ⟨i, hi, e⟩ := ha.surj hjl;have g := wV ha hf hi;rw [e, Int.toNat_natCast, hj] at g;have hx : f.getD i 0 ∈ f := by
  rw [Zac, List.getElem?_eq_getElem (by omega)];exact Zak _
 have := hM _ hx;have e := Option.some.inj g;rw [e, xOf];split <;> omega
end Go.Ev
namespace Go.Ev
open Go Go.Proofs
variable {B : Nat}
set_option maxRecDepth 100000
def dF (f : List Int) : Bool := decide (f.length <= 9) && f.all fun x => decide (-1000 <= x /\ x <= 1000)
theorem small80 {f : List Int} : Pure Tryz.prog B 80 [encI f] (· = .bool (dF f)) := by
 refine yK fun h nx K H0 hK => zQ zT yt 1000 fun hf' => ?_;rw [F80.go, F80.t26, zA, F80.xu, F80.t25, zA, F80.t5, zA, F80.xw, zH, bV, F80.t4, zI, F80.v3];by_cases c : 9 < f.length
 ·rw [decide_eq_true (by omega), zD, F80.t3, zA, F80.bQ];simp only [zR, yG];rw [F80.ret];exact hK _ _ _ _ _ H0 (zG rfl) (by rw [dF, decide_eq_false (by omega)]; rfl)
 rw [decide_eq_false (by omega), zC, zK, F80.t24, zA, F80.t21, zA, F80.t6_s, F80.t20, zP];refine F80.t19_L (fun m x2 h' nx' => ∃ i : Nat, x2 = I i /\ m = f.length - i /\ i <= f.length /\ (f.take i).all (fun x => decide (-1000 <= x /\ x <= 1000)) = true /\ Hp h h' nx' []) (m := f.length) (by omega) ⟨0, rfl, by omega, by omega, by simp, H0⟩ ?_;rintro m z1 z2 z4 z5 h3 nx3 R ⟨i, rfl, rfl, hi, ha, H3⟩ hR;rw [F80.t18, zA, F80.t9, zA, F80.t7_s, zH, qf];by_cases hlt : i < f.length
 case neg =>
  rw [Zal (by omega)] at ha;rw [decide_eq_false (by omega), F80.t8, zI, F80.v4, zC, jG, gG, F80.t23, zA, F80.t22_s, zR, yG, F80.ret];exact hK _ _ _ _ _ H3 (zG rfl) (by rw [dF, ha, decide_eq_true (by omega)]; rfl)
 have hx : f[i]? = some f[i] := List.getElem?_eq_getElem hlt;have hno : ¬ (-1000 <= f[i] /\ f[i] <= 1000) -> dF f = false := fun q => by
  rw [dF];refine Bool.and_eq_false_iff.2 (.inr (Bool.eq_false_iff.2 fun z => ?_));exact q (of_decide_eq_true (List.all_eq_true.1 z _ (Zak hlt)))
 rw [decide_eq_true (by omega), F80.t8, zI, F80.v4, zD, zK, F80.t17, zA, F80.t15, zP, F80.t14, zA, F80.mr, F80.r5_0, F80.r5_0_g, wz rfl hlt, ldL (getI hx), qf];by_cases c1 : f[i] < -1000
 ·simp only [c1, decide_true, j6];rw [F80.r5_1, F80.r5_1_g];simp only [j6, yL];rw [F80.t13, zI, F80.v5, zD, F80.t12, zA, F80.t11_s];simp only [zR, kX, yG];rw [F80.ret];exact hK _ _ _ _ _ H3 (zG rfl) (by rw [hno (by omega)])
 ·simp only [c1, decide_false, jA];rw [F80.r5_1, F80.r5_1_g];simp only [jA];rw [wz rfl hlt, ldL (getI hx), bV, zY, F80.t13, zI, F80.v5];by_cases c2 : 1000 < f[i]
  ·rw [decide_eq_true c2, zD, F80.t12, zA, F80.t11_s];simp only [zR, kX, yG];rw [F80.ret];exact hK _ _ _ _ _ H3 (zG rfl) (by rw [hno (by omega)])
  ·rw [decide_eq_false c2, zC, zK, F80.cO, qm (by omega)];exact hR (f.length - (i + 1)) _ _ _ _ _ _ (by omega) ⟨i + 1, rfl, rfl, by omega, uW hx ha (decide_eq_true (by omega)), H3⟩
def fewB (G : List Sym) (n k : Int) : Bool := decide ((G.length : Int) <= k) && (decide (n <= 16) && decide (yV G n = 0))
theorem few45 {G : List Sym} {n k : Int} (hk : k <= 100000) : Pure Tryz.prog B 45 [jc G, I n, I k] (· = .bool (fewB G n k)) := by
 refine yK fun h nx K H0 hK => zQ zT yt 1000 fun hf' => ?_;rw [F45.go, F45.t3, zA, F45.xu, F45.t2, zA, F45.xw, F45.r1_0, F45.r1_0_g, zH, sLeq];have last : ∀ b : Bool, b = fewB G n k -> K (.bool b) h nx = .ok True := fun v hv => hK _ _ _ _ _ H0 (.bool _) (by rw [hv]);by_cases c1 : (G.length : Int) <= k
 case neg =>
  simp only [c1, decide_false, j7, zY];rw [F45.r1_1, F45.r1_1_g];simp only [j7, gW_ft];rw [F45.r1_2, F45.r1_2_g];simp only [j7, zY];simp only [zR, yG];rw [F45.ret];exact last _ (by rw [fewB, decide_eq_false c1]; rfl)
 simp only [c1, decide_true, gC, sLeq, yL];rw [F45.r1_1, F45.r1_1_g];by_cases c2 : n <= 16
 case neg =>
  simp only [c2, decide_false, j7, gW_ft];rw [F45.r1_2, F45.r1_2_g];simp only [j7, zY];simp only [zR, yG];rw [F45.ret];exact last _ (by rw [fewB, decide_eq_false c2]; simp)
 simp only [c2, decide_true, gC, gW_tt];refine mU (by omega) _ _ _ _ ?_;rintro _ rfl _;rw [F45.r1_2, F45.r1_2_g];simp only [gC, sEql, yL];simp only [zR, yG];rw [F45.ret];exact last _ (by rw [fewB, decide_eq_true c1, decide_eq_true c2]; rfl)
theorem notFar {l : List Int} (h : ∀ x ∈ l, -900000 <= x /\ x <= 900000) : l.any farB = false := by
 refine Bool.eq_false_iff.2 fun q => ?_;obtain ⟨x, hx, e⟩ := List.any_eq_true.1 q;have := h x hx;simp only [farB, Zcd, decide_eq_true_eq] at e;omega
theorem fill0 {f : List Int} (hl : f.length <= 256) (h : ∀ x ∈ f, -100000 <= x /\ x <= 100000) : xN f = 0 := by
 rw [xN, if_neg (by omega), rangeE, notFar fun x hx => by have := h x hx; omega]; rfl
theorem orb0 {G : List Sym} {f : List Int} (hg : yV G f.length = 0) (h : ∀ x ∈ f, -100000 <= x /\ x <= 100000) : orbErr G f = 0 := by
 obtain ⟨n, hn, ok⟩ := vQ hg;obtain rfl : f.length = n := by omega
 have hl := ok.n256;have h0 := fill0 hl h;have ha : actE G f = 0 := by rw [actE, if_neg (fun q => q h0), hg]
 rw [orbErr, if_neg (fun q => q ha)];have : (pq G f).any (·.any farB) = false := by
  refine Bool.eq_false_iff.2 fun q => ?_;obtain ⟨y, hy, e⟩ := List.any_eq_true.1 q;obtain ⟨a, ha, rfl⟩ := List.mem_map.1 hy;have hb := apply_bnd (ok.dp a ha) rfl h (by decide);have e : (yR a.2 a.1 f).any farB = true := e;rw [notFar fun x hx => by have := hb x hx; omega] at e;cases e
 rw [this]; rfl
end Go.Ev
namespace Go.Ev
open Go.Proofs
theorem ordG_of : ∀ {G : List Sym}, (G.Pairwise fun a b => bY a b = true) -> ordG G = true
 | [], _ => rfl
 | [_], _ => rfl
 | a :: b :: G, h => by
  have h1 := List.pairwise_cons.1 h;show (bY a b && ordG (b :: G)) = true;rw [h1.1 b (by simp), ordG_of h1.2]; rfl
theorem dV {n : Nat} (hn : n <= 256) : ∀ {G : List Sym}, (∀ g ∈ G, DP n g) -> jC n G = 0
 | [], _ => rfl
 | a :: G, h => by
  have ha := h a (by simp);have e : gH a.1 n = 0 := by rw [gH, if_neg (by omega), if_neg (by rw [ha.1.1]; omega), if_pos ha.perm]
  rw [jC, e, if_neg (by decide)];exact dV hn fun g hg => h g (by simp [hg])
theorem wu.err {G : List Sym} {n : Nat} (h : wu G n) : yV G n = 0 := by
 have := h.n256;have hl := h.len;rw [yV, if_neg (by omega), if_neg (fun q => h.ne (Zba q)), if_neg (by omega), if_neg (by rw [dV h.n256 h.dp]; decide), if_neg (by rw [h.ord]; decide), if_neg (by rw [clG_iff.2 h.cl]; decide)]
theorem fO {G : List Sym} {f : List Int} {a : Sym} : a ∈ jL G f ↔ a ∈ G /\ yR a.2 a.1 f = f := by
 rw [jL, Zbf, goesB, decide_eq_true_eq]
theorem stab_ok {G : List Sym} {n : Nat} (ok : wu G n) {f : List Int} (hf : f.length = n) : wu (jL G f) n := {
 n256 := ok.n256
 ne := fun q => by
  have : idS n ∈ jL G f := fO.2 ⟨ok.one, apply_id hf⟩;rw [q] at this; cases this
 len := by have := Zby (goesB f f) G; have := ok.len; unfold jL; omega
 dp := fun g hg => ok.dp g (fO.1 hg).1
 ord := ordG_of ((d6 ok.ord).sublist List.filter_sublist)
 cl := fun a ha b hb => by
  obtain ⟨h1, h2⟩ := fO.1 ha;obtain ⟨h3, h4⟩ := fO.1 hb;exact fO.2 ⟨ok.cl a h1 b h3, by rw [xJ (ok.dp a h1) (ok.dp b h3) hf, h4, h2]⟩ }
section
variable {G S : List Sym} {n : Nat}
theorem least_uniq {m m' c : Sym} (hS : wu S n) (h : yI S m = true) (h' : yI S m' = true) (hm : DP n m) (hc : c ∈ S) (e : zL m c = m') : m = m' := by
 obtain ⟨d, hd, e2⟩ := qX hS hm hc e;have h1 := List.all_eq_true.1 h c hc;have h2 := List.all_eq_true.1 h' d hd;rw [e] at h1;rw [e2] at h2;refine Decidable.byContradiction fun q => ?_;cases z : bY m m' with
 | true => rw [z] at h2; cases h2
 | false => have := befS_tri q z; rw [this] at h1; cases h1
theorem qD {m : Sym} (h : m ∈ cosL G S) : m ∈ G /\ yI S m = true := List.mem_filter.1 h
theorem cosU_all (hG : wu G n) (hS : wu S n) (hs : ∀ a ∈ S, a ∈ G) (x : Sym) : x ∈ cosU (cosL G S) S ↔ x ∈ G := by
 constructor
 ·intro h;obtain ⟨m, hm, c, hc, rfl⟩ := mem_cosU.1 h;exact hG.cl m (qD hm).1 c (hs c hc)
 ·intro h;obtain ⟨i, hi⟩ := List.getElem?_of_mem h;obtain ⟨j, m, _, hj, hl, ⟨b, hb, e⟩, _⟩ := m0 hG hS hs hi;obtain ⟨c, hc, e2⟩ := qX hS (hG.dp x h) hb e;exact mem_cosU.2 ⟨m, List.mem_filter.2 ⟨Zaa hj, hl⟩, c, hc, e2⟩
theorem cosU_nodup (hG : wu G n) (hS : wu S n) : (cosU (cosL G S) S).Nodup := by
 refine List.pairwise_flatMap.2 ⟨fun m hm => ?_, ?_⟩
 ·refine List.pairwise_map.2 (hS.nd.imp_of_mem fun ha hb hab q => hab ?_);exact mN hS (hG.dp m (qD hm).1) ha hb q
 ·have hnd : (cosL G S).Nodup := hG.nd.sublist List.filter_sublist;refine hnd.imp_of_mem fun {m m'} hm hm' hne x hx y hy q => hne ?_;subst q;obtain ⟨b, hb, e⟩ := List.mem_map.1 hx;obtain ⟨b', hb', e'⟩ := List.mem_map.1 hy;obtain ⟨hm1, hm2⟩ := qD hm;obtain ⟨hm1', hm2'⟩ := qD hm';obtain ⟨c, hc, e2⟩ := qX hS (hG.dp m' hm1') hb' e';obtain ⟨e3, h3⟩ := coset_step hS (hG.dp m hm1) hb hc e;exact least_uniq hS hm2 hm2' (hG.dp m hm1) h3 (by rw [<- e3, e2])
theorem lagrange (hG : wu G n) (hS : wu S n) (hs : ∀ a ∈ S, a ∈ G) : (cosL G S).length * S.length = G.length := by
 have e : (cosU (cosL G S) S).length = (cosL G S).length * S.length := by
  unfold cosU
  generalize cosL G S = C
  induction C with
  | nil => simp
  | cons a C ih => rw [Zbd, Zat, ih, Zan, Zbj, Nat.succ_mul]; omega
 have h1 := lenG (cosU_nodup hG hS) fun x hx => (cosU_all hG hS hs x).1 hx;have h2 := lenG hG.nd fun x hx => (cosU_all hG hS hs x).2 hx;omega
end
theorem orbit_cos {G : List Sym} {n : Nat} (ok : wu G n) {f : List Int} (hf : f.length = n) : (pq (cosL G (jL G f)) f).Nodup /\ ∀ z, z ∈ pq (cosL G (jL G f)) f ↔ z ∈ pq G f := by
 have hS := stab_ok ok hf;have hs : ∀ a ∈ jL G f, a ∈ G := fun a ha => (fO.1 ha).1;constructor
 ·have hnd : (cosL G (jL G f)).Nodup := ok.nd.sublist List.filter_sublist;refine List.pairwise_map.2 (hnd.imp_of_mem fun {m m'} hm hm' hne q => hne ?_);obtain ⟨hm1, hm2⟩ := qD hm;obtain ⟨hm1', hm2'⟩ := qD hm';have dm := ok.dp m hm1;have dm' := ok.dp m' hm1';obtain ⟨b, hb, e⟩ := ok.inv m hm1;obtain ⟨b', hb', e'⟩ := ok.linv hm1;have db := ok.dp b hb;have hbb : b' = b := by
   have := (jF n).assoc b' m b (ok.dp b' hb') dm db;rw [e', e, (jF n).el b db, (jF n).er b' (ok.dp b' hb')] at this;exact this.symm
  subst hbb
  have hin : zL b' m' ∈ jL G f := fO.2 ⟨ok.cl b' hb m' hm1', by
   rw [xJ db dm' hf, <- q, <- xJ db dm hf, e', apply_id hf]⟩
  refine least_uniq hS hm2 hm2' dm hin ?_;rw [<- (jF n).assoc m b' m' dm db dm', e, (jF n).el m' dm']
 ·intro z;constructor
  ·intro h;obtain ⟨m, hm, e⟩ := List.mem_map.1 h;exact List.mem_map.2 ⟨m, (qD hm).1, e⟩
  ·intro h;obtain ⟨a, ha, rfl⟩ := List.mem_map.1 h;obtain ⟨m, hm, c, hc, e⟩ := mem_cosU.1 ((cosU_all ok hS hs a).2 ha);refine List.mem_map.2 ⟨m, hm, ?_⟩;have hc' := fO.1 hc;rw [<- e, xJ (ok.dp m (qD hm).1) (ok.dp c hc'.1) hf, hc'.2]
theorem sortT_nodup (l : List (List Int)) : (gS l).Nodup := (wG l).imp fun h e => by rw [e, vO] at h; cases h
theorem orbit_sort {G : List Sym} {n : Nat} (ok : wu G n) {f : List Int} (hf : f.length = n) : gS (pq (cosL G (jL G f)) f) = gS (pq G f) :=
 mQ (wG _) (wG _) fun z => by rw [fG, fG]; exact (orbit_cos ok hf).2 z
theorem orbit_len {G : List Sym} {n : Nat} (ok : wu G n) {f : List Int} (hf : f.length = n) : (gS (pq G f)).length = (cosL G (jL G f)).length := by
 obtain ⟨h1, h2⟩ := orbit_cos ok hf;have l1 := lenG h1 fun z hz => fG.2 ((h2 z).1 hz);have l2 := lenG (sortT_nodup (pq G f)) fun z hz => (h2 z).2 (fG.1 hz);have e : (pq (cosL G (jL G f)) f).length = (cosL G (jL G f)).length := Zan _;omega
end Go.Ev
namespace Go.Ev
open Go Go.Proofs
variable {B : Nat}
set_option maxRecDepth 100000
theorem apply52 {a : Sym} {f : List Int} (hd : DP f.length a) (hl : f.length <= 256) (hb : ∀ x ∈ f, -100000 <= x /\ x <= 100000) : Pure Tryz.prog B 52 [encS a, encI f] (· = .tup [encI (yR a.2 a.1 f), I 0]) := by
 refine yK fun h nx K H0 hK => zQ zT yt 1000 fun hf' => ?_;have hal : (yR a.2 a.1 f).length = f.length := jN ..;rw [F52.go, F52.t27, zA, F52.xu];refine H0.box (l := [encI a.1, .bool a.2]) rfl fun b2 h1 nx1 H1 => ?_;rw [F52.t26, zA, F52.t7, zA, F52.xw]
 (refine fill134 (by omega) _ _ _ _ ?_; rintro _ rfl _)
 rw [fill0 hl hb, F52.t6, zA, F52.bQ, ql, decide_eq_true rfl, Zae, F52.t5, zI, F52.v8, zC, zK, F52.t25, zA, F52.t14, zA, F52.t8_s, H1.zi (k := 0) (n := 2) rfl rfl, zH];refine sym200 (g := a.1) (c := a.2) (by rw [hd.1.1]; omega) _ _ _ _ ?_;rintro _ rfl _;have e : gH a.1 f.length = 0 := by rw [gH, if_neg (by omega), if_neg (by rw [hd.1.1]; omega), if_pos hd.perm]
 rw [e, F52.t13, zA, F52.t9_s, ql, decide_eq_true rfl, Zae, F52.t12, zI, F52.v9, zC, zK, F52.t24, zA, F52.t15_s, H1.zi (k := 0) (n := 2) rfl rfl];refine image135 (g := a.1) (c := a.2) (by omega) (by rw [hd.1.1]) hd.perm (fun y hy => by have := hb y hy; omega) _ _ _ _ ?_;rintro _ rfl _;rw [F52.t23, zA, F52.t20, zA, F52.cO];refine contF131 (l := yR a.2 a.1 f) (by omega) (fun x _ K hK => far137 x _ _ _ _ fun v hv _ => by rw [hv]; exact hK) ?_;have hnf : (yR a.2 a.1 f).any farB = false := notFar fun x hx => by have := apply_bnd hd rfl hb (by decide) x hx; omega
 rw [F52.t19, zI, F52.v10, hnf, zC, zK, F52.t22, zA, F52.t21_s];simp only [zR, yG];rw [F52.ret];exact hK _ _ _ _ _ H1 (jQ (zG (uM _)) (zG rfl)) rfl
theorem act0 {G : List Sym} {f : List Int} (hg : yV G f.length = 0) (h : ∀ x ∈ f, -100000 <= x /\ x <= 100000) : actE G f = 0 := by
 have := orb0 hg h;unfold orbErr at this;refine Decidable.byContradiction fun q => ?_;rw [if_pos q] at this;exact q this
theorem heavy_no {G : List Sym} {n : Nat} {k : Int} (h : ∀ g ∈ G, g.1.length = n) (hn : n <= 16) (hk : (G.length : Int) <= k) : mG G k = false := by
 rw [mG, decide_eq_false (by omega), Bool.false_or];refine Bool.eq_false_iff.2 fun q => ?_;obtain ⟨g, hg, e⟩ := List.any_eq_true.1 q;have := of_decide_eq_true e;have := h g hg;omega
theorem law13 {G : List Sym} {f : List Int} (haw : ∀ {B}, Pure Tryz.prog B 18 [] (· = .bool true)) : Pure Tryz.prog B 13 [jc G, encI f] (· = .bool true) := by
 refine yK fun h nx K H0 hK => zQ zT yt 100000 fun hf => ?_;have awk : ∀ (h : T Blk) (nx : Pa) (Z : Kw Prop), Z (.bool true) h nx = .ok True -> (CS Tryz.prog B).fn 18 (.of 18) [] h nx Z = .ok True := fun h nx Z hZ => haw _ _ _ _ fun v hv _ => by rw [hv]; exact hZ
 have ret : ∀ {h1 nx1 L}, Hp h h1 nx1 L -> K (.bool true) h1 nx1 = .ok True := fun H => hK _ _ _ _ _ H (zG rfl) rfl;rw [F13.go, F13.t46, zA, F13.xu, F13.t45, zA, F13.t5, zA, F13.xw, F13.r1_0, F13.r1_0_g];refine awk _ _ _ ?_;rw [F13.r1_1, F13.r1_1_g, yX, Zae];simp only [jA, gW_ff]
 (refine small80 _ _ _ _ ?_; rintro _ rfl _)
 rw [F13.r1_2, F13.r1_2_g];cases c1 : dF f with
 | false =>
  simp only [jA, yX, Zah, zY, j6, gW_tf];rw [F13.r1_3, F13.r1_3_g];simp only [j6, yL];rw [F13.t4, zI, F13.v13, zD, F13.t3, zA, F13.bQ];refine awk _ _ _ ?_;simp only [zR, yG];rw [F13.ret];exact ret H0
 | true =>
 simp only [jA, yX, Zae, zY, gW_ff, zH]
 (refine few45 (by decide) _ _ _ _ ?_; rintro _ rfl _)
 rw [F13.r1_3, F13.r1_3_g];cases c4 : fewB G f.length 48 with
 | false =>
  simp only [jA, yX, Zah, zY];rw [F13.t4, zI, F13.v13, zD, F13.t3, zA, F13.bQ];refine awk _ _ _ ?_;simp only [zR, yG];rw [F13.ret];exact ret H0
 | true =>
 simp only [jA, yX, Zae, zY];rw [F13.t4, zI, F13.v13, zC, zK, F13.t44, zA, F13.t6_s];simp only [fewB, Zad, decide_eq_true_eq] at c4;obtain ⟨hG48, hn16, hge⟩ := c4;obtain ⟨n, hn, ok⟩ := vQ hge;have hfn : f.length = n := by omega
 simp only [dF, Zad, decide_eq_true_eq, Zaf] at c1;have hbf : ∀ x ∈ f, -100000 <= x /\ x <= 100000 := fun x hx => by have := c1.2 x hx; omega
 have hG : G.length <= 100000 := by omega
 have hw : ∀ a ∈ G, a.1.length <= 100000 := fun a ha => by have := (ok.dp a ha).1.1; omega
 have hw6 : ∀ a ∈ G, a.1.length <= 1000000 := fun a ha => by have := (ok.dp a ha).1.1; omega
 have oS := stab_ok ok hfn;have hsub : ∀ a ∈ jL G f, a ∈ G := fun a ha => (fO.1 ha).1;have hSl : (jL G f).length <= G.length := Zby ..;have hCl : (cosL G (jL G f)).length <= G.length := Zby ..;have hCs : ∀ a ∈ cosL G (jL G f), a ∈ G := fun a ha => (qD ha).1;have hol := orbit_len ok hfn;have hlg := lagrange ok oS hsub;have hpos : 0 < (gS (pq G f)).length := by
  have := ok;rw [<- hfn] at this;exact orb_pos this
 refine orbit75 hG hw (by omega) _ _ _ _ ?_;rintro _ rfl _;rw [orbV_ok (orb0 hge hbf), y0, jB, F13.t43, zA, F13.t7_s];refine stabilizer76 hG hw (by omega) _ _ _ _ ?_;rintro _ rfl _;have hst : stabV G f = .tup [jc (jL G f), I 0] := by rw [stabV, if_neg (fun q => q (act0 hge hbf))]
 rw [hst, y0, jB, F13.t42, zA, F13.t8_s, zH];refine cosets39 hG hw (by omega) (fun g hg => hw g (hsub g hg)) _ _ _ _ ?_;rintro _ rfl _;have hse : subE G (jL G f) f.length = 0 := by
  rw [subE, if_neg (fun q => q hge), hfn, if_neg (fun q => q oS.err), if_pos (List.all_eq_true.2 fun a ha => decide_eq_true (hsub a ha))]
 have hcv : cosV G (jL G f) f.length = .tup [jc (cosL G (jL G f)), I 0] := by rw [cosV, if_neg (fun q => q hse)]
 rw [hcv, y0, jB, F13.t41, zA, F13.t13, zA, F13.t9_s, F13.r6_0, F13.r6_0_g, qm (by decide), show ((0 : Int) + 0) = 0 from rfl, qm (by decide), show ((0 : Int) + 0) = 0 from rfl, ql, decide_eq_true (rfl : (0 : Int) = 0), Zae];simp only [jA];rw [F13.r6_1, F13.r6_1_g];have hmul : ((gS (pq G f)).length : Int) * ((jL G f).length : Int) = (G.length : Int) := by
  rw [hol, <- hlg]; simp
 simp only [jA, zH];rw [sMul (by rw [hmul]; omega), hmul];simp only [jA, zH, ql, decide_true, Zae, zY];rw [F13.r6_2, F13.r6_2_g];simp only [jA, zH, ql, hol, decide_true, Zae, zY];rw [F13.r6_3, F13.r6_3_g];simp only [jA, gW_ff]
 (refine heavy19 (by decide) _ _ _ _ ?_; rintro _ rfl _)
 rw [heavy_no (n := n) (fun g hg => (ok.dp g (hsub g hg)).1.1) (by omega) (by omega), F13.r6_4, F13.r6_4_g, zY];simp only [jA, gW_ff]
 (refine heavy19 (by decide) _ _ _ _ ?_; rintro _ rfl _)
 rw [heavy_no (n := n) (fun g hg => (ok.dp g (hCs g hg)).1.1) (by omega) (by omega), F13.r6_5, F13.r6_5_g, zY];simp only [jA, gW_ff, zH];refine mU (by omega) _ _ _ _ ?_;rintro _ rfl _;have hse2 : yV (jL G f) f.length = 0 := by rw [hfn]; exact oS.err
 rw [hse2, F13.r6_6, F13.r6_6_g];simp only [jA, gW_ff, ql, decide_true, Zae, zY];refine subset42 (by omega) (by omega) hw6 _ _ _ _ ?_;rintro _ rfl _;have hall : (cosL G (jL G f)).all (fun a => decide (a ∈ G)) = true := List.all_eq_true.2 fun a ha => decide_eq_true (hCs a ha);rw [hall, F13.r6_7, F13.r6_7_g];simp only [jA, yX, Zae, zY];rw [F13.t12, zI, F13.v14, zC, zK, F13.t40, zA, F13.t14_s, F13.t39, zA, F13.t36, zA, F13.t15_s, zH, F13.t35, zP]
 generalize hC : cosL G (jL G f) = C at *
 refine F13.t34_L (fun m x9 x16 h' nx' => ∃ i : Nat, x16 = I i /\ LT x9 (gS (pq (C.take i) f)) /\ m = C.length - i /\ i <= C.length /\ Hp h h' nx' []) (m := C.length) (by omega) ⟨0, rfl, .inl ⟨rfl, rfl⟩, by omega, by omega, H0⟩ ?_;rintro m z2 z9 z10 z11 z12 z16 z17 z18 h3 nx3 R ⟨i, rfl, hLT, rfl, hi, H3⟩ hR;rw [F13.t33, zA, F13.cO, qf];by_cases hlt : i < C.length
 case neg =>
  rw [decide_eq_false (by omega), F13.t32, zA, F13.t17, zI, F13.v17, zC, jG, gG, F13.t38, zA, F13.t37_s];have hso := orbit_sort ok hfn;rw [hC] at hso;rw [Zal (by omega), hso] at hLT;have hv : z9 = encT (gS (pq G f)) := by
   rcases hLT with ⟨_, q⟩ | ⟨q, _⟩
   ·rw [q] at hpos; simp at hpos
   ·exact q
  rw [hv];refine sameTable81 (by omega) (fun g hg => by obtain ⟨x, _, rfl⟩ := List.mem_map.1 (fG.1 hg); rw [jN]; omega) _ _ _ _ ?_;rintro _ rfl _;simp only [zR, yG];rw [F13.ret];exact ret H3
 have hx : C[i]? = some C[i] := List.getElem?_eq_getElem hlt;have hdp : DP f.length C[i] := by rw [hfn]; exact ok.dp _ (hCs _ (Zak hlt))
 have hal : (yR C[i].2 C[i].1 f).length = f.length := jN ..;have hlen : (gS (pq (C.take i) f)).length <= i := by
  have := fold_insT_len (pq (C.take i) f) [];have e : (pq (C.take i) f).length <= i := by unfold pq; rw [Zan, Zau]; omega
  unfold gS; simp at this; omega
 have hws : ∀ g ∈ gS (pq (C.take i) f), g.length <= 1000000 := fun g hg => by
  obtain ⟨x, _, rfl⟩ := List.mem_map.1 (fG.1 hg);rw [jN]; omega
 rw [decide_eq_true (by omega), F13.t32, zA, F13.t17, zI, F13.v17, zD, zK, F13.t31, zA, F13.t29, zP, F13.t28, zA, F13.t18_s, F13.t27, zA, F13.t19_s, wz rfl hlt, jK hlt, kE];refine apply52 (a := C[i]) hdp (by omega) hbf _ _ _ _ ?_;rintro _ rfl _;rw [y0, jB, F13.t26, zA, F13.t24, zA, F13.t20_s, F13.r13_0, F13.r13_0_g, ql, decide_eq_true rfl, Zae];simp only [jA, zH, ql, hal, decide_true, Zae];rw [F13.r13_1, F13.r13_1_g, zY, F13.t23, zI, F13.v18, zC, zK, F13.t25_s];refine putList48 hLT (wG _) (by omega) hws (by omega) _ _ _ _ ?_;rintro _ rfl _;have htk : gS (pq (C.take (i + 1)) f) = uV (gS (pq (C.take i) f)) (yR C[i].2 C[i].1 f) := by
  unfold gS pq; rw [Zap, hx, Zbh, List.foldl_append]; rfl
 rw [F13.t30_s, qm (by omega)];refine hR (C.length - (i + 1)) _ _ _ _ _ _ _ _ _ _ (by omega) ⟨i + 1, rfl, .inr ⟨by rw [htk], ?_⟩, rfl, by omega, H3⟩;rw [htk];intro q;have := mem_insT1 (l := gS (pq (C.take i) f)) (a := yR C[i].2 C[i].1 f) (x := yR C[i].2 C[i].1 f) |>.2 (.inl rfl);rw [q] at this; cases this
end Go.Ev
