import Derived.Test.YtkjkjpmahgeneaaGreatDoorWordsa
import Derived.Test.YtkjkjpmahgeneaaGreatDoorCodea
import Derived.Test.YtkjkjpmahgeneaaGreatDoorEvD
set_option linter.unusedSimpArgs false
set_option linter.unusedVariables false
namespace Go.Ev
open Go Go.Proofs
variable {B : Nat}
def insP (x : AV × Sym) : List (AV × Sym) → List (AV × Sym)
 | [] => [x]
 | y :: l => if ordS x.2 y.2 ≤ 0 then x :: y :: l else y :: insP x l
def srtP : List (AV × Sym) → List (AV × Sym)
 | [] => []
 | x :: l => insP x (srtP l)
theorem pT (x : AV × Sym) : ∀ l, (insP x l).Perm (x :: l)
 | [] => .refl _
 | y :: l => by
  rw [insP]; split
  ·exact .refl _
  ·exact ((pT x l).cons y).trans (.swap x y l)
theorem pJ : ∀ l, (srtP l).Perm l
 | [] => .refl _
 | x :: l => (pT x _).trans ((pJ l).cons x)
theorem ordS_le_trans {a b c : Sym} (h1 : ordS a b ≤ 0) (h2 : ordS b c ≤ 0) : ordS a c ≤ 0 := by
 have n1 := uX a b
 have n2 := uX b c
 have n3 := uX a c
 have := vJ (a := c) (b := b) (c := a) (by omega) (by omega)
 omega
theorem insP_srt {x : AV × Sym} : ∀ {l : List (AV × Sym)}, l.Pairwise (fun a b => ordS a.2 b.2 ≤ 0) → (insP x l).Pairwise (fun a b => ordS a.2 b.2 ≤ 0)
 | [], _ => by simp [insP]
 | y :: l, h => by
  have h' := List.pairwise_cons.1 h
  rw [insP]; split
  ·rename_i c
   refine List.pairwise_cons.2 ⟨fun z hz => ?_, h⟩
   rcases List.mem_cons.1 hz with rfl | r
   ·exact c
   ·exact ordS_le_trans c (h'.1 z r)
  ·rename_i c
   refine List.pairwise_cons.2 ⟨fun z hz => ?_, insP_srt h'.2⟩
   rcases List.mem_cons.1 ((pT x l).mem_iff.1 hz) with rfl | r
   ·have := uX z.2 y.2; omega
   ·exact h'.1 z r
theorem srtP_srt : ∀ l, (srtP l).Pairwise (fun a b => ordS a.2 b.2 ≤ 0)
 | [] => .nil
 | _ :: l => insP_srt (srtP_srt l)
noncomputable def intsB : List AV → Option (List Int)
 | [] => some []
 | .int .i64 v :: l => match intsB l with
  | some r => some (v :: r)
  | none => none
 | _ => none
theorem intsB_eq : ∀ {l : List AV} {xs : List Int}, intsB l = some xs → l = xs.map I
 | [], xs, h => by rw [intsB] at h; cases h; rfl
 | a :: l, xs, h => by
  unfold intsB at h
  split at h
  ·rename_i he; cases he
  ·rename_i v l' he
   cases he
   split at h
   ·rename_i r hr
    cases h
    rw [intsB_eq hr]; rfl
   ·cases h
  ·cases h
noncomputable def decRow (h : T Blk) (a : AV) : Option (Pa × List Int) := match a with
 | .sl rid off n (some c) e => match T.get .no rid h with
  | .cells _ m t => if off = 0 ∧ e = 1 ∧ m = n ∧ c = n then (match intsB (yI t 0 n) with
   | some l => some (rid, l)
   | none => none) else none
  | _ => none
 | _ => none
theorem decRow_ok {h : T Blk} {a : AV} {rid : Pa} {l : List Int} (e : decRow h a = some (rid, l)) : a = .sl rid 0 l.length (some l.length) 1 ∧ HasArr h rid (l.map I) := by
 unfold decRow at e
 split at e
 case h_2 => cases e
 rename_i r off n c ee he0
 split at e
 case h_2 => cases e
 rename_i op m t ht
 split at e
 case isFalse => cases e
 rename_i hc
 obtain ⟨rfl, rfl, rfl, rfl⟩ := hc
 split at e
 case h_2 => cases e
 rename_i l' hl
 cases e
 have e1 := intsB_eq hl
 have e2 : l.length = ee := by
  have := congrArg List.length e1
  rw [List.length_map, uG] at this
  exact this.symm
 subst e2
 exact ⟨rfl, op, t, by rw [List.length_map]; exact ht, by rw [List.length_map]; exact e1⟩
noncomputable def decMap (h : T Blk) : List (AV × AV) → Option (List (Pa × (AV × Sym)))
 | [] => some []
 |(.str k, .agg [a, .bool c]) :: es => match decRow h a, decMap h es with
  | some (rid, l), some r => if keyB (l, c) = k then some ((rid, (a, (l, c))) :: r) else none
  | _, _ => none
 | _ => none
theorem decMap_ok {h : T Blk} : ∀ {es : List (AV × AV)} {r : List (Pa × (AV × Sym))}, decMap h es = some r → es = entP (r.map (·.2)) ∧ ∀ x ∈ r, x.2.1 = .sl x.1 0 x.2.2.1.length (some x.2.2.1.length) 1 ∧ HasArr h x.1 (x.2.2.1.map I)
 | [], r, e => by rw [decMap] at e; cases e; exact ⟨rfl, fun x hx => by cases hx⟩
 | p :: es, r, e => by
  unfold decMap at e
  split at e
  ·rename_i he; cases he
  ·rename_i k a c es' he
   cases he
   split at e
   ·rename_i rid l r' h1 h2
    split at e
    ·rename_i hk
     cases e
     obtain ⟨i1, i2⟩ := decMap_ok h2
     obtain ⟨j1, j2⟩ := decRow_ok h1
     refine ⟨by rw [i1, ← hk]; rfl, fun x hx => ?_⟩
     rcases List.mem_cons.1 hx with rfl | q
     ·exact ⟨j1, j2⟩
     ·exact i2 x q
    ·cases e
   ·cases e
  ·cases e
noncomputable def listJ (f : Nat) (a : List AV) (h : T Blk) : Option (AV × T Blk) := if f = 99 then (match a with
 | [.map g] => match T.get .no g h with
  | .map n es => match decMap h es with
   | some r => if n = es.length ∧ 0 < r.length ∧ r.length ≤ 2000 ∧ ((g :: r.map (·.1)).map Pa.toNat).Nodup ∧ (r.map (·.2.2)).Nodup ∧ (∀ x ∈ r, x.2.2.1.length ≤ 1000000) then some (encG ((srtP (r.map (·.2))).map (·.2)), killN (g :: r.map (·.1)) h) else none
   | none => none
  | _ => none
 | _ => none) else none
theorem flatP_scal : ∀ (qs : List Sym), (yO qs).all scal = true
 | [] => rfl
 | _ :: qs => flatP_scal qs
theorem pZ : ∀ (ps : List Sym) (i : Nat), (yO ps)[i]? = (ps[i / 2]?).map fun p => if i % 2 = 0 then encI p.1 else .bool p.2
 | [], i => by simp [yO]
 | p :: ps, 0 => rfl
 | p :: ps, 1 => rfl
 | p :: ps, i + 2 => by
  rw [show (i + 2) / 2 = i / 2 + 1 by omega, show (i + 2) % 2 = i % 2 by omega, List.getElem?_cons_succ, ← pZ ps i]
  rfl
theorem dP {α β : Type} {f : α → β} : ∀ {l : List α}, (l.map f).Nodup → l.Nodup
 | [], _ => .nil
 | a :: l, h => by
  rw [List.map_cons, List.nodup_cons] at h
  exact List.nodup_cons.2 ⟨fun m => h.1 (List.mem_map.2 ⟨a, m, rfl⟩), dP h.2⟩
theorem listJ_ok : JOk Tryz.prog B listJ := by
 intro E h nx w f args vs v h2 H hv hj
 unfold listJ at hj
 split at hj
 case isFalse => cases hj
 rename_i hf
 subst hf
 split at hj
 case h_2 => cases hj
 rename_i g
 split at hj
 case h_2 => cases hj
 rename_i n es hg
 split at hj
 case h_2 => cases hj
 rename_i r hr
 split at hj
 case isFalse => cases hj
 rename_i hc
 obtain ⟨rfl, hr0, hrl, hnd1, hnd2, hlen⟩ := hc
 cases hj
 have hnd1 := dP hnd1
 obtain ⟨rfl, hrow⟩ := decMap_ok hr
 have names : (Ob.map g (entP (r.map (·.2))) :: r.map fun x => Ob.arr x.1 (x.2.2.1.map I)).flatMap Ob.names = g :: r.map (·.1) := by
  have e : ∀ r : List (Pa × (AV × Sym)), (r.map fun x => Ob.arr x.1 (x.2.2.1.map I)).flatMap Ob.names = r.map (·.1) := by
   intro r
   induction r with
   | nil => rfl
   | cons x r ih => show x.1 :: _ = x.1 :: _; rw [← ih]; rfl
  show g :: _ = _
  rw [← e]; rfl
 have H0 : Hp (killN (g :: r.map (·.1)) h) h nx (.map g (entP (r.map (·.2))) :: r.map fun x => .arr x.1 (x.2.2.1.map I)) := ⟨fun j hj => by
   by_cases q : j ∈ g :: r.map (·.1)
   ·exact absurd (killN_in _ h j (.inl q)) hj
   ·exact (killN_out _ h j q).symm, fun y hy => by
   rcases List.mem_cons.1 hy with rfl | q
   ·exact hg
   ·obtain ⟨x, hx, rfl⟩ := List.mem_map.1 q
    exact (hrow x hx).2, fun m hm => killN_in _ h m (.inl (by rw [names] at hm; exact hm)), by rw [names]; exact hnd1, H.fr⟩
 refine CS_frzJ (h0 := killN (g :: r.map (·.1)) h) H0.keep (fun K hK => ?_) H hv
 have hp := pJ (r.map (·.2))
 refine list99P (k := 0) (q := r.map (·.2)) (s := srtP (r.map (·.2))) H0 rfl (by rw [List.length_map]; exact hr0) (by rw [List.length_map]; exact hrl) (fun p hq => ?_) (by rw [List.map_map]; exact hnd2) hp (srtP_srt _) fun o h' nx' A H' => hK _ _ _ H'.fr H'.keep ?_
 ·obtain ⟨x, hx, rfl⟩ := List.mem_map.1 hq
  exact ⟨.inr ⟨x.1, (hrow x hx).1, List.mem_cons_of_mem _ (List.mem_map.2 ⟨x, hx, rfl⟩)⟩, hlen x hx⟩
 ·have := frzGroE (k := 0) (l' := yO ((srtP (r.map (·.2))).map (·.2))) H' rfl (by rw [uR, kW, List.length_map]) (flatP_scal _) fun i a b h1 h2 => ?_
  ·show FrzN _ _ (rowV o 2 _) (.lst 2 ((srtP (r.map (·.2))).map (·.2)).length _)
   rw [List.length_map]; exact this
  rw [wC] at h1
  rw [pZ, List.getElem?_map] at h2
  cases hx : (srtP (r.map (·.2)))[i / 2]? with
  | none => rw [hx] at h1; cases h1
  | some p =>
   rw [hx] at h1 h2
   simp only [Option.map_some, Option.some.injEq] at h1 h2
   subst h1; subst h2
   by_cases c : i % 2 = 0
   ·rw [if_pos c, if_pos c]
    obtain ⟨x, hxm, rfl⟩ := List.mem_map.1 (hp.mem_iff.1 (List.mem_of_getElem? hx))
    rw [(hrow x hxm).1]
    have hin : Ob.arr x.1 (x.2.2.1.map I) ∈ (.gro o 2 (srtP (r.map (·.2))).length (yU (srtP (r.map (·.2)))) :: (A ++ (.map g (entP (r.map (·.2))) :: r.map fun x => Ob.arr x.1 (x.2.2.1.map I)))) := by
     refine List.mem_cons_of_mem _ (List.mem_append_right _ (List.mem_cons_of_mem _ (List.mem_map.2 ⟨x, hxm, rfl⟩)))
    obtain ⟨k, hk⟩ := List.getElem?_of_mem hin
    exact H'.frzArr hk (by show d6 _ (some _); simp [d6]) (by simp) (fun v hv => by obtain ⟨z, _, rfl⟩ := List.mem_map.1 hv; rfl)
   ·rw [if_neg c, if_neg c]
    exact zH rfl
end Go.Ev
namespace Go.Ev
open Go Go.Proofs
variable {B : Nat}
set_option maxRecDepth 100000
theorem perm5 {α : Type} (a b c d e f g : α) (L : List α) : (a :: b :: c :: d :: e :: f :: g :: L).Perm (b :: c :: e :: ([a, d, f, g] ++ L)) :=
 (List.Perm.swap b a _).trans (.cons b ((List.Perm.swap c a _).trans (.cons c (((List.Perm.swap e d _).cons a).trans (List.Perm.swap e a _)))))
def subE (G S : List Sym) (n : Int) : Int := if yT G n ≠ 0 then yT G n else if yT S n ≠ 0 then yT S n else if S.all (fun a => decide (a ∈ G)) then 0 else 28
theorem mA {h0 h : T Blk} {nx p : Pa} {K : Kw Prop} {L : List Ob} {n : Int} {G S : List Sym} (hG : G.length ≤ 100000) (hw : ∀ g ∈ G, g.1.length ≤ 100000) (hS : S.length ≤ 100000) (hw2 : ∀ g ∈ S, g.1.length ≤ 100000) (H : Hp h0 h nx L)
  (hbad : ∀ e h' nx' X, e = subE G S n → e ≠ 0 → Hp h0 h' nx' (X ++ L) → K (.tup [.nilm, .agg [.nils, .nils], I e]) h' nx' = .ok True)
  (hok : ∀ (n' : Nat) (u1 q1 u2 q2 : List Sym) g o1 o2 h' nx' X, n = n' → GrOk G n' → GrOk S n' → subE G S n = 0 → (∀ c ∈ u1, c ∈ G) → u1.length ≤ G.length → CloS n' u1 q1 → (∀ a, a ∈ q1 ↔ a ∈ G) → (∀ c ∈ u2, c ∈ S) → u2.length ≤ S.length → CloS n' u2 q2 → (∀ a, a ∈ q2 ↔ a ∈ S) → (∀ a ∈ S, a ∈ G) →
   Hp h0 h' nx' (.map g (entS q2) :: .gro o2 2 u2.length (yO u2) :: .gro o1 2 u1.length (yO u1) :: (X ++ L)) → K (.tup [.map g, .agg [rowV o1 2 u1.length, rowV o2 2 u2.length], I 0]) h' nx' = .ok True) :
  (CS Tryz.prog B).fn 120 p [encG G, encG S, I n] h nx K = .ok True := by
 refine gU (p := .of 120) (K := K) (zO zS dreg 10000000 fun hf => ?_) fun _ _ _ _ q => q
 rw [F120.go, F120.t40, zA, F120.t0_s]
 refine H.alloc fun b4 h1 nx1 H1 => ?_
 rw [F120.t39, zA, F120.t1_s]
 refine H1.alloc fun b6 h2 nx2 H2 => ?_
 rw [F120.t38, zA, F120.t2_s]
 refine open167 hG hw H2 (fun h3 nx3 hg H3 => ?_) fun n' u1 q1 g1 o1 h3 nx3 hn ok1 hg1 hu1 hul1 hC1 hnd1 hq1 H3 => ?_
 ·rw [jA, jE, jO, F120.t37, zA, F120.t7, zA, F120.t3_s, sNeq, decide_eq_false hg, Bool.not_false, F120.t6, zJ, F120.v13, zC, F120.t5, zA, F120.t4_s, H3.loadN (k := 0) (n := 2) rfl rfl]
  refine H3.storeN (k := 1) (n := 2) rfl rfl rfl fun h4 H4 => ?_
  rw [zB]
  simp only [zQ, yG]
  rw [F120.ret, H4.loadN (k := 1) (n := 2) rfl rfl]
  exact hbad _ _ _ [_, _] (by rw [subE, if_pos hg]) hg H4
 rw [jA, jE, jO, F120.t37, zA, F120.t7, zA, F120.t3_s, sNeq, decide_eq_true rfl, Bool.not_true, F120.t6, zJ, F120.v13, zE, zT, F120.t36, zA, F120.t8_s]
 refine open167 hS hw2 H3 (fun h4 nx4 hg H4 => ?_) fun n2 u2 q2 g2 o2 h4 nx4 hn2 ok2 hg2 hu2 hul2 hC2 hnd2 hq2 H4 => ?_
 ·rw [jA, jE, jO, F120.t35, zA, F120.t13, zA, F120.t9_s, sNeq, decide_eq_false hg, Bool.not_false, F120.t12, zJ, F120.v14, zC, F120.t11, zA, F120.t10_s, H4.loadN (k := 2) (n := 2) rfl rfl]
  refine H4.storeN (k := 3) (n := 2) rfl rfl rfl fun h5 H5 => ?_
  rw [zB]
  simp only [zQ, yG]
  rw [F120.ret, H5.loadN (k := 3) (n := 2) rfl rfl]
  exact hbad _ _ _ [_, _, _, _] (by rw [subE, if_neg (by simp [hg1]), if_pos hg]) hg H5
 subst hn
 obtain rfl : n' = n2 := by omega
 rw [jA, jE, jO, F120.t35, zA, F120.t13, zA, F120.t9_s, sNeq, decide_eq_true rfl, Bool.not_true, F120.t12, zJ, F120.v14, zE, zT, F120.t34, zA, F120.t29, zA, F120.t14_s]
 refine H4.range (k := 0) rfl fun it h5 nx5 H5 => ?_
 have hlen : (entS q2).length = q2.length := by simp [entS]
 have hql : q2.length ≤ S.length := lenG hnd2 fun a ha => (hq2 a).1 ha
 have hn256 : n' ≤ 256 := ok1.n256
 have hd1 : ∀ b ∈ q1, DS n' b := fun b hb => (ok1.dp b ((hq1 b).1 hb)).1
 rw [F120.t28, yB]
 refine F120.t27_L (fun m' h' nx' => ∃ seen : List Nat, (gC q2.length seen).length = m' ∧ (∀ i ∈ seen, ∀ a, q2[i]? = some a → a ∈ G) ∧
  Hp h0 h' nx' (.iter it g2 (entS q2).length seen (entS q2).length :: .map g2 (entS q2) :: .gro o2 2 u2.length (yO u2) :: .map g1 (entS q1) :: .gro o1 2 u1.length (yO u1) :: .arr b6 [.nils, .nils] :: .arr b4 [.nils, .nils] :: L)) (m := q2.length) (by omega)
  ⟨[], by (have e : gC q2.length [] = List.range q2.length := List.filter_eq_self.2 (by simp)); rw [e]; simp, by simp, H5⟩ ?_
 rintro m' z3 z5 z12 z16 z17 h6 nx6 R ⟨seen, rfl, hse, H6⟩ hR
 rw [F120.t26, zA, F120.t15_s]
 refine H6.next (k := 0) (j := 1) rfl rfl (fun hall => ?_) fun i a b h7 hi hnin hab H7 => ?_
 ·have hsub : ∀ a ∈ S, a ∈ G := fun a ha => by
   obtain ⟨i, hi⟩ := List.getElem?_of_mem ((hq2 a).2 ha)
   exact hse i (hall i (by rw [hlen]; exact (List.getElem?_eq_some_iff.1 hi).1)) a hi
  rw [jA, F120.t25, zA, F120.t16, zJ, F120.v16, zE, gD, kD, F120.t33, zA, F120.t30_s, sAx0]
  refine H6.store (k := 5) rfl (by simp) (u9 _ _ _) fun h7 H7 => ?_
  rw [sAx1]
  refine H7.store (k := 5) rfl (by simp) (u9 _ _ _) fun h8 H8 => ?_
  rw [F120.t32, zA, F120.t31_s, H8.loadN (k := 5) (n := 2) rfl rfl]
  refine H8.storeN (k := 6) (n := 2) rfl rfl rfl fun h9 H9 => ?_
  simp only [zQ, yG]
  rw [F120.ret, H9.loadN (k := 6) (n := 2) rfl rfl]
  refine hok n' u1 q1 u2 q2 g2 o1 o2 _ _ [_, _, _, _] rfl ok1 ok2 (by rw [subE, if_neg (by simp [hg1]), if_neg (by simp [hg2]), if_pos (List.all_eq_true.2 fun a ha => decide_eq_true (hsub a ha))]) hu1 hul1 hC1 hq1 hu2 hul2 hC2 hq2 hsub (H9.perm (perm5 _ _ _ _ _ _ _ _))
 ·have hi' : i < q2.length := by rw [← hlen]; exact hi
  have hx : q2[i]? = some q2[i] := List.getElem?_eq_getElem hi'
  have hent : (entS q2)[i]? = some (.str (keyB q2[i]), encS q2[i]) := by rw [entS, List.getElem?_map, hx]; rfl
  rw [hent] at hab
  cases hab
  rw [jA, F120.t25, zA, F120.t16, zJ, F120.v16, zC, zT, F120.t24, yB, F120.t23, zA, F120.t17_s, H7.entry (k := 0) (j := 1) rfl rfl hent, jE]
  refine H7.alloc fun b5 h8 nx8 H8 => ?_
  refine H8.storeN (k := 0) (n := 2) rfl rfl rfl fun h9 H9 => ?_
  rw [F120.t22, zA, F120.t18_s, H9.loadN (k := 0) (n := 2) rfl rfl]
  have hd2 : DS n' q2[i] := (ok2.dp _ ((hq2 _).1 (List.getElem_mem hi'))).1
  refine has204 (a := q2[i]) hn256 hd2 hd1 H9 (k := 4) rfl ?_
  rw [yX, F120.t21, zJ, F120.v17]
  by_cases c : q2[i] ∈ q1
  ·rw [decide_eq_true c, Bool.not_true, zE, zT]
   refine hR _ _ _ _ _ _ _ _ (show (gC q2.length (i :: seen)).length < _ by have := leftA_step hi' hnin; omega) ⟨i :: seen, rfl, fun j hj a ha => ?_, H9.drop⟩
   rcases List.mem_cons.1 hj with rfl | r
   ·rw [hx] at ha; cases ha; exact (hq1 _).1 c
   ·exact hse j r a ha
  ·rw [decide_eq_false c, Bool.not_false, zC, F120.t20, zA, F120.t19_s, H9.loadN (k := 6) (n := 2) rfl rfl]
   refine H9.storeN (k := 7) (n := 2) rfl rfl rfl fun h10 H10 => ?_
   simp only [zQ, kL, yG]
   rw [F120.ret, H10.loadN (k := 7) (n := 2) rfl rfl]
   refine hbad 28 _ _ [_, _, _, _, _, _, _, _] ?_ (by decide) H10
   rw [subE, if_neg (by simp [hg1]), if_neg (by simp [hg2]), if_neg]
   intro hall
   have := List.all_eq_true.1 hall q2[i] ((hq2 _).1 (List.getElem_mem hi'))
   exact c ((hq1 _).2 (of_decide_eq_true this))
def closE (l : List Sym) (n : Int) : Int := if n < 0 ∨ 256 < n then 3 else if 256 < l.length then 5 else y5 n l
def ClosQ (l : List Sym) (n : Int) (v : AV) : Prop := if closE l n ≠ 0 then v = .tup [.nils, I (closE l n)] else ∃ n' : Nat, n = n' ∧ n' ≤ 256 ∧ (∀ a ∈ l, DP n' a) ∧
 ((mT n' 1536 l ∧ v = .tup [.nils, I 20]) ∨ ∃ u q s, (∀ c ∈ u, c ∈ l) ∧ (∀ a ∈ l, a ∈ q) ∧ q.Nodup ∧ CloS n' u q ∧ q.length ≤ 1536 ∧ s.Perm q ∧ s.Pairwise (fun a b => ordS a b ≤ 0) ∧ v = .tup [encG s, I 0])
abbrev fxP (a : Sym) : AV × Sym := (encI a.1, a)
theorem fxP_snd : ∀ q : List Sym, (q.map fxP).map (·.2) = q
 | [] => rfl
 | a :: q => congrArg (a :: ·) (fxP_snd q)
theorem sort_ex (q : List Sym) : ∃ s : List Sym, s.Perm q ∧ s.Pairwise (fun a b => ordS a b ≤ 0) :=
 ⟨(srtP (q.map fxP)).map (·.2), by have := (pJ (q.map fxP)).map (·.2); rw [fxP_snd] at this; exact this, List.pairwise_map.2 (srtP_srt _)⟩
theorem entP_fx (q : List Sym) : entP (q.map fxP) = entS q := by simp [entP, entS]
theorem flatP_fx : ∀ q : List Sym, yU (q.map fxP) = yO q
 | [] => rfl
 | a :: q => by
  show encI a.1 :: .bool a.2 :: yU (q.map fxP) = _
  rw [flatP_fx q]; rfl
theorem fixd_flatG {q : List Sym} : ∀ v ∈ yO q, fixd v = true := fun v hv => by
 obtain ⟨x, _, hx⟩ := List.mem_flatMap.1 hv
 simp only [List.mem_cons, List.not_mem_nil, or_false] at hx
 rcases hx with rfl | rfl
 ·exact wD _
 ·rfl
theorem closure27 {l : List Sym} {n : Int} (hl : l.length ≤ 100000) (hw : ∀ g ∈ l, g.1.length ≤ 100000) : Pure Tryz.prog B 27 [encG l, I n] (ClosQ l n) := by
 refine yH fun h nx K H0 hK => zO zS dreg 1000 fun hf' => ?_
 rw [F27.go, F27.t27, zA, F27.t0_s, F27.t26, zA, F27.t7, zA, F27.t1_s]
 (refine cells182 n _ _ _ _ ?_; rintro _ rfl _)
 rw [zG, sGtr]
 (refine kB _ _ _ _ _ _ ?_; rintro _ rfl _)
 refine H0.bslice (l := [I (if n < 0 ∨ 256 < n then 3 else 0), I (if decide ((256 : Int) < (l.length : Int)) = true then 5 else 0)]) rfl fun tb h1 nx1 H1 => ?_
 refine kV (l := [if n < 0 ∨ 256 < n then 3 else 0, if decide ((256 : Int) < (l.length : Int)) = true then 5 else 0]) H1 (k := 0) rfl (fun B => xG (by simp)) (fun v hv => by rw [hv]; exact .int _ _) ?_
 rintro _ rfl
 have fE : jV [if n < 0 ∨ 256 < n then (3 : Int) else 0, if decide ((256 : Int) < (l.length : Int)) = true then 5 else 0] = if n < 0 ∨ 256 < n then 3 else if 256 < l.length then 5 else 0 := by
  by_cases c1 : n < 0 ∨ 256 < n
  ·rw [if_pos c1, if_pos c1]; rfl
  rw [if_neg c1, if_neg c1]
  by_cases c2 : 256 < l.length
  ·rw [decide_eq_true (show (256 : Int) < (l.length : Int) by omega), if_pos c2]; rfl
  ·rw [decide_eq_false (show ¬ (256 : Int) < (l.length : Int) by omega), if_neg c2]; rfl
 rw [fE, F27.t6, zA, F27.t2_s, sNeq, F27.t5, zJ, F27.v8]
 have bad : ∀ (e : Int) h' nx' L', Hp h h' nx' L' → e = closE l n → e ≠ 0 → K (.tup [.nils, I e]) h' nx' = .ok True := fun e h' nx' L' H' he hne =>
  hK _ _ _ _ _ H' (uI (zH rfl) (zH rfl)) (by rw [ClosQ, ← he, if_pos hne])
 by_cases c1 : (if n < 0 ∨ 256 < n then (3 : Int) else if 256 < l.length then 5 else 0) = 0
 case neg =>
  rw [decide_eq_false c1, Bool.not_false, zC, F27.t4, zA, F27.t3_s]
  simp only [zQ, yG]
  rw [F27.ret]
  refine bad _ _ _ _ H1 ?_ c1
  rw [closE]
  split at c1
  ·rename_i q; rw [if_pos q, if_pos q]
  ·rename_i q; rw [if_neg q, if_neg q]
   split at c1
   ·rename_i q; rw [if_pos q, if_pos q]
   ·exact absurd rfl c1
 rw [decide_eq_true c1, Bool.not_true, zE, zT, F27.t25, zA, F27.t14, zA, F27.t8_s]
 obtain ⟨c2, c3⟩ : ¬ (n < 0 ∨ 256 < n) ∧ ¬ 256 < l.length := by
  split at c1
  ·omega
  ·rename_i q
   split at c1
   ·omega
   ·rename_i q2; exact ⟨q, q2⟩
 have e0 : closE l n = y5 n l := by rw [closE, if_neg c2, if_neg c3]
 refine mF hl hw _ _ _ _ ?_
 rintro _ rfl _
 rw [F27.t13, zA, F27.t9_s, sNeq, F27.t12, zJ, F27.v9]
 by_cases c4 : y5 n l = 0
 case neg =>
  rw [decide_eq_false c4, Bool.not_false, zC, F27.t11, zA, F27.t10_s]
  simp only [zQ, yG]
  rw [F27.ret]
  exact bad _ _ _ _ H1 e0.symm c4
 rw [decide_eq_true c4, Bool.not_true, zE, zT, F27.t24, zA, F27.t15_s]
 obtain ⟨n', rfl⟩ : ∃ n' : Nat, n = (n' : Int) := ⟨n.toNat, by omega⟩
 have hdp : ∀ g ∈ l, DP n' g := fun g hg => by
  obtain ⟨_, q2, q3⟩ := uP (qB c4 g hg)
  exact DP.of q3 (by omega)
 have hn256 : n' ≤ 256 := by omega
 have good : ∀ {v h' nx' L' v'}, Hp h h' nx' L' → FrzN h h' v v' → ((mT n' 1536 l ∧ v' = .tup [.nils, I 20]) ∨ ∃ u q s, (∀ c ∈ u, c ∈ l) ∧ (∀ a ∈ l, a ∈ q) ∧ q.Nodup ∧ CloS n' u q ∧ q.length ≤ 1536 ∧ s.Perm q ∧ s.Pairwise (fun a b => ordS a b ≤ 0) ∧ v' = .tup [encG s, I 0]) → K v h' nx' = .ok True := fun H' hF hq =>
  hK _ _ _ _ _ H' hF (by rw [ClosQ, e0, if_neg (by simp [c4])]; exact ⟨n', rfl, hn256, hdp, hq⟩)
 refine closure187 (n := n') (limit := 1536) hn256 (by omega) (by omega) (fun g hg => (hdp g hg).1) (by omega) H1 (fun h16 nx16 hT H16 => ?_) fun u q g o h16 nx16 hu _ hin hqn hC hql H16 => ?_
 ·rw [jA, jE, jO, F27.t23, zA, F27.t20, zA, F27.t16_s, yX, Bool.not_false, F27.t19, zJ, F27.v10, zC, F27.t18, zA, F27.t17_s]
  simp only [zQ, yG]
  rw [F27.ret]
  exact good H16 (uI (zH rfl) (zH rfl)) (.inl ⟨hT, rfl⟩)
 rw [jA, jE, jO, F27.t23, zA, F27.t20, zA, F27.t16_s, yX, Bool.not_true, F27.t19, zJ, F27.v10, zE, zT, F27.t22, zA, F27.t21_s]
 have hdq : ∀ a ∈ q, DP n' a := hC.dom (jX n') fun b hb => hdp b (hu b hb)
 have hone : idS n' ∈ q := hC.one
 have hq0 : 0 < q.length := List.length_pos_of_mem hone
 obtain ⟨s, hs1, hs2⟩ : ∃ s : List Sym, s.Perm q ∧ s.Pairwise (fun a b => ordS a b ≤ 0) := by
  exact sort_ex q
 have hsm := fxP_snd
 have he : (Ob.map g (entS q)) = .map g (entP (q.map fxP)) := by rw [entP_fx]
 rw [he] at H16
 refine list99P (k := 0) (q := q.map fxP) (s := s.map fxP) H16 rfl (by simpa using hq0) (by simp; omega) (fun a ha => ?_) (by rw [hsm]; exact hqn) (hs1.map _) (List.pairwise_map.2 hs2) fun o' h17 nx17 A H17 => ?_
 ·obtain ⟨b, hb, rfl⟩ := List.mem_map.1 ha
  have := (hdq b hb).1.1
  exact ⟨.inl rfl, by show b.1.length ≤ _; omega⟩
 ·simp only [zQ, yG]
  rw [F27.ret]
  rw [List.length_map, flatP_fx] at H17
  rw [List.length_map]
  refine good H17 (uI (H17.frzGro (k := 0) rfl fixd_flatG) (zH rfl)) (.inr ⟨u, q, s, hu, hin, hqn, hC, hql, hs1, hs2, rfl⟩)
end Go.Ev
namespace Go.Ev
theorem befS_asymm {a b : Sym} (h : befS a b = true) : befS b a = false := by
 cases c : befS b a with
 | false => rfl
 | true => have := befS_trans h c; rw [qK] at this; cases this
def jQ (S : List Sym) (a : Sym) : Bool := S.all fun b => !befS (zM a b) a
def cosL (G S : List Sym) : List Sym := G.filter (jQ S)
def cosU (C S : List Sym) : List Sym := C.flatMap fun a => S.map (zM a)
theorem mem_cosU {C S : List Sym} {x : Sym} : x ∈ cosU C S ↔ ∃ a ∈ C, ∃ b ∈ S, zM a b = x := by
 simp [cosU]
section
variable {G S : List Sym} {n : Nat}
theorem GrOk.inv2 (hS : GrOk S n) {b : Sym} (hb : b ∈ S) : ∃ c ∈ S, ∀ a, DP n a → zM (zM a b) c = a := by
 obtain ⟨c, hc, e⟩ := hS.inv b hb
 exact ⟨c, hc, fun a ha => by rw [(jX n).assoc a b c ha (hS.dp b hb) (hS.dp c hc), e, (jX n).er a ha]⟩
theorem coset_back (hS : GrOk S n) {a x b : Sym} (ha : DP n a) (hb : b ∈ S) (e : zM a b = x) : ∃ c ∈ S, zM x c = a := by
 obtain ⟨c, hc, q⟩ := hS.inv2 hb
 exact ⟨c, hc, by rw [← e]; exact q a ha⟩
theorem coset_step (hS : GrOk S n) {a x b c : Sym} (ha : DP n a) (hb : b ∈ S) (hc : c ∈ S) (e : zM a b = x) : zM x c = zM a (zM b c) ∧ zM b c ∈ S :=
 ⟨by rw [← e, (jX n).assoc a b c ha (hS.dp b hb) (hS.dp c hc)], hS.cl b hb c hc⟩
theorem ord_lt (hG : GrOk G n) {i j : Nat} {a b : Sym} (hi : G[i]? = some a) (hj : G[j]? = some b) (h : i < j) : befS a b = true := by
 obtain ⟨hi1, rfl⟩ := List.getElem?_eq_some_iff.1 hi
 obtain ⟨hj1, rfl⟩ := List.getElem?_eq_some_iff.1 hj
 exact List.pairwise_iff_getElem.1 (mM hG.ord) i j hi1 hj1 h
theorem ord_idx (hG : GrOk G n) {i j : Nat} {a b : Sym} (hi : G[i]? = some a) (hj : G[j]? = some b) (h : befS a b = true) : i < j := by
 rcases Nat.lt_trichotomy i j with q | rfl | q
 ·exact q
 ·rw [hi] at hj; cases hj; rw [qK] at h; cases h
 ·have := ord_lt hG hj hi q
  rw [befS_asymm this] at h; cases h
theorem coset_first (hG : GrOk G n) (hS : GrOk S n) (hs : ∀ a ∈ S, a ∈ G) {i : Nat} {a : Sym} (hi : G[i]? = some a) : ∃ (j : Nat) (m : Sym), j ≤ i ∧ G[j]? = some m ∧ jQ S m = true ∧ (∃ b ∈ S, zM a b = m) ∧ ∀ k x, G[k]? = some x → (∃ b ∈ S, zM a b = x) → j ≤ k := by
  have haG := List.mem_of_getElem? hi
  have hda := hG.dp a haG
  have hex : ∃ (k : Nat) (x : Sym), G[k]? = some x ∧ ∃ b ∈ S, zM a b = x := ⟨i, a, hi, idS n, hS.one, (jX n).er a hda⟩
  have key : ∀ N : Nat, (∃ (k : Nat) (x : Sym), k ≤ N ∧ G[k]? = some x ∧ ∃ b ∈ S, zM a b = x) → ∃ (j : Nat) (m : Sym), G[j]? = some m ∧ (∃ b ∈ S, zM a b = m) ∧ ∀ (k : Nat) (x : Sym), G[k]? = some x → (∃ b ∈ S, zM a b = x) → j ≤ k := by
    intro N
    induction N with
    | zero => rintro ⟨k, x, hk, hx, hb⟩; obtain rfl : k = 0 := by omega
              exact ⟨0, x, hx, hb, fun _ _ _ _ => Nat.zero_le _⟩
    | succ N ih =>
      rintro ⟨k, x, hk, hx, hb⟩
      by_cases c : ∃ (k : Nat) (x : Sym), k ≤ N ∧ G[k]? = some x ∧ ∃ b ∈ S, zM a b = x
      · exact ih c
      · have hkN : k = N + 1 := by
          rcases Nat.lt_or_ge k (N + 1) with q | q
          · exact absurd ⟨k, x, by omega, hx, hb⟩ c
          · omega
        subst hkN
        refine ⟨_, x, hx, hb, fun k' x' hk' hb' => ?_⟩
        rcases Nat.lt_or_ge k' (N + 1) with q | q
        · exact absurd ⟨k', x', by omega, hk', hb'⟩ c
        · exact q
  obtain ⟨k0, x0, h1, h2⟩ := hex
  obtain ⟨j, m, hj, hm, hmin⟩ := key k0 ⟨k0, x0, Nat.le_refl _, h1, h2⟩
  refine ⟨j, m, hmin i a hi ⟨idS n, hS.one, (jX n).er a hda⟩, hj, List.all_eq_true.2 fun b hb => ?_, hm, hmin⟩
  obtain ⟨c, hc, e⟩ := hm
  obtain ⟨e2, hcb⟩ := coset_step hS hda hc hb e
  have hin : zM m b ∈ G := hG.cl m (List.mem_of_getElem? hj) b (hs b hb)
  obtain ⟨k, hk⟩ := List.getElem?_of_mem hin
  have hle := hmin k _ hk ⟨_, hcb, e2.symm⟩
  cases q : befS (zM m b) m with
  | false => rfl
  | true => have := ord_idx hG hk hj q; omega
theorem coset_seen (hG : GrOk G n) (hS : GrOk S n) (hs : ∀ a ∈ S, a ∈ G) {i : Nat} {a : Sym} (hi : G[i]? = some a) : a ∈ cosU ((G.take i).filter (jQ S)) S ↔ jQ S a = false := by
 rw [mem_cosU]
 have hda := hG.dp a (List.mem_of_getElem? hi)
 constructor
 ·rintro ⟨m, hm, b, hb, e⟩
  obtain ⟨hm1, hm2⟩ := List.mem_filter.1 hm
  obtain ⟨j, hj⟩ := List.getElem?_of_mem hm1
  have hjl := (List.getElem?_eq_some_iff.1 hj).1
  rw [List.length_take] at hjl
  rw [List.getElem?_take_of_lt (by omega)] at hj
  have hlt := ord_lt hG hj hi (by omega)
  obtain ⟨c, hc, e2⟩ := coset_back hS (hG.dp m (List.mem_of_getElem? hj)) hb e
  cases q : jQ S a with
  | false => rfl
  | true =>
   have := List.all_eq_true.1 q c hc
   rw [e2, hlt] at this; cases this
 ·intro hl
  obtain ⟨j, m, hj1, hj, hm, ⟨b, hb, e⟩, _⟩ := coset_first hG hS hs hi
  have hne : j ≠ i := by
   rintro rfl
   rw [hi] at hj; cases hj
   rw [hm] at hl; cases hl
  refine ⟨m, List.mem_filter.2 ⟨?_, hm⟩, coset_back hS hda hb e⟩
  exact List.mem_of_getElem? (i := j) (by rw [List.getElem?_take_of_lt (by omega)]; exact hj)
theorem coset_new (hG : GrOk G n) (hS : GrOk S n) {C : List Sym} (hC : ∀ m ∈ C, m ∈ G) {a b : Sym} (ha : a ∈ G) (hb : b ∈ S) (hn : a ∉ cosU C S) : zM a b ∉ cosU C S := by
 intro h
 obtain ⟨m, hm, c, hc, e⟩ := mem_cosU.1 h
 obtain ⟨d, hd, q⟩ := hS.inv2 hb
 have hdm := hG.dp m (hC m hm)
 refine hn (mem_cosU.2 ⟨m, hm, zM c d, hS.cl c hc d hd, ?_⟩)
 rw [← (jX n).assoc m c d hdm (hS.dp c hc) (hS.dp d hd), e]
 exact q a (hG.dp a ha)
theorem coset_inj (hS : GrOk S n) {a b c : Sym} (ha : DP n a) (hb : b ∈ S) (hc : c ∈ S) (e : zM a b = zM a c) : b = c := (jX n).cl a b c ha (hS.dp b hb) (hS.dp c hc) e
end
end Go.Ev
namespace Go.Ev
open Go Go.Proofs
variable {B : Nat}
set_option maxRecDepth 100000
end Go.Ev
namespace Go.Ev
open Go Go.Proofs
variable {B : Nat}
set_option maxRecDepth 100000
theorem clone106o {h0 h : T Blk} {nx p : Pa} {L : List Ob} {f : List Int} {K : Kw Prop} (hf : 0 < f.length) (hl : f.length ≤ 1000) (H : Hp h0 h nx L)
  (hK : ∀ id cap h' nx', d6 f.length cap → Hp h0 h' nx' (.arr id (f.map I) :: L) → K (.sl id 0 f.length cap 1) h' nx' = .ok True) : (CS Tryz.prog B).fn 106 p [encI f] h nx K = .ok True := by
 refine gU (p := .of 106) (K := K) (zO zS dreg 9 fun hf => ?_) fun _ _ _ _ q => q
 cases f with
 | nil => simp at hf
 | cons x t =>
  rw [F106.go]
  have e : ∀ A C : OP, (sBin .eql (.nil .sl) (encI (x :: t)) .nils fun v1 => zX v1 A C) = C := fun A C => nr rfl
  rw [e]
  exact H.copyArrO (new := (x :: t).map I) (c := (x :: t).length) (fun e h1 n1 H1 => rdLst 1) (by simp) (List.all_eq_true.2 fun v hv => by obtain ⟨z, _, rfl⟩ := List.mem_map.1 hv; rfl) (by decide) (by omega) hK
def RowOwn (L : List Ob) (p : AV × Sym) : Prop := ∃ rid cap, p.1 = .sl rid 0 p.2.1.length cap 1 ∧ d6 p.2.1.length cap ∧ Ob.arr rid (p.2.1.map I) ∈ L
theorem RowOwn.mono {L L' : List Ob} {p : AV × Sym} (h : RowOwn L p) (hl : ∀ x ∈ L, x ∈ L') : RowOwn L' p := by
 obtain ⟨r, c, e, hc, m⟩ := h
 exact ⟨r, c, e, hc, hl _ m⟩
theorem frzArrN {h0 h : T Blk} {nx : Pa} {L : List Ob} {id : Pa} {l : List Int} {cap : Option Nat} (H : Hp h0 h nx L) (hm : Ob.arr id (l.map I) ∈ L) (hc : d6 l.length cap) : Frz False (fun _ => True) (fun _ => False) h (.sl id 0 l.length cap 1) (encI l) := by
 obtain ⟨op, t, h1, h2⟩ := H.own _ hm
 rw [List.length_map] at h1 h2
 refine .sl _ _ _ _ _ op _ t _ trivial hc h1 (by omega) (by simp) (List.all_eq_true.2 fun v hv => by obtain ⟨z, _, rfl⟩ := List.mem_map.1 hv; rfl) fun i v hi => ?_
 have hil : i < l.length := by have := (List.getElem?_eq_some_iff.1 hi).1; simpa using this
 have := yA t 0 l.length i hil
 rw [h2, hi] at this
 rw [← Option.some.inj this]
 obtain ⟨z, _, rfl⟩ := List.mem_map.1 (List.mem_of_getElem? hi)
 exact .int _ _
theorem frzOwn {h0 h : T Blk} {nx : Pa} {L : List Ob} {k n : Nat} {o : Option Pa} {out : List (AV × Sym)} (H : Hp h0 h nx L) (hk : L[k]? = some (.gro o 2 n (yU out))) (hr : ∀ p ∈ out, RowOwn L p) : Frz False (fun _ => True) (fun _ => False) h (rowV o 2 n) (encG (out.map (·.2))) := by
 have own := H.own _ (List.mem_of_getElem? hk)
 have hlen := kW out
 cases o with
 | none =>
  obtain ⟨e, rfl⟩ := own
  rw [e] at hlen
  obtain rfl : out = [] := List.eq_nil_of_length_eq_zero (by simp at hlen; omega)
  exact .lnils 2
 | some id =>
  obtain ⟨t, h1, h2, h3⟩ := own
  have hn : n = (out.map (·.2)).length := by rw [List.length_map]; omega
  subst hn
  refine .sl _ _ _ _ _ true _ t _ trivial trivial h1 (by omega) (uR _) (List.all_eq_true.2 fun v hv => fixd.scal (fixd_flatG v hv)) fun i v hi => ?_
  have hil : i < (out.map (·.2)).length * 2 := by have := (List.getElem?_eq_some_iff.1 hi).1; rwa [uR] at this
  have := yA t 0 ((out.map (·.2)).length * 2) i hil
  rw [h3, wC] at this
  rw [pZ, List.getElem?_map] at hi
  cases hq : out[i / 2]? with
  | none => rw [hq] at hi; cases hi
  | some p =>
   rw [hq] at hi this
   obtain ⟨rid, cap, e, hc, hm⟩ := hr p (List.mem_of_getElem? hq)
   have hi := Option.some.inj hi
   have this := Option.some.inj this
   by_cases c : i % 2 = 0
   ·simp only [if_pos c] at hi this
    rw [← this, ← hi, e]
    exact frzArrN H hm hc
   ·simp only [if_neg c] at hi this
    rw [← this, ← hi]
    exact .bool _
theorem frz_tup2N {N : Pa → Prop} {O : AV → Prop} {A : Prop} {hh : T Blk} {a b a' b' : AV} (h1 : Frz A N O hh a a') (h2 : Frz A N O hh b b') : Frz A N O hh (.tup [a, b]) (.tup [a', b']) := by
 refine .tup _ _ rfl fun i v v' hi hi' => ?_
 match i with
 | 0 => simp at hi hi'; subst hi; subst hi'; exact h1
 | 1 => simp at hi hi'; subst hi; subst hi'; exact h2
 | i + 2 => simp at hi
theorem cosets39N {G S : List Sym} {n : Int} (hG : G.length ≤ 100000) (hw : ∀ g ∈ G, g.1.length ≤ 100000) (hS : S.length ≤ 100000) (hw2 : ∀ g ∈ S, g.1.length ≤ 100000) (hse0 : subE G S n = 0) (hn0 : 0 < n) : PureN Tryz.prog 39 [encG G, encG S, I n] (.tup [encG (cosL G S), I 0]) := by
 intro B K hK0
 have hK : ∀ v h' nx' L v', Hp .e h' nx' L → Frz False (fun _ => True) (fun _ => False) h' v v' → v' = .tup [encG (cosL G S), I 0] → K v h' nx' = .ok True := fun v h' nx' L v' _ hF e => hK0 _ _ _ (e ▸ hF)
 refine zO zS dreg 10000000 fun hf' => ?_
 have H0 : Hp .e .e .z [] := Hp.init hf'
 rw [F39.go, F39.t37, zA, F39.t0_s]
 refine H0.box (l := [encG S]) rfl fun b3 h1 nx1 H1 => ?_
 rw [F39.t36, zA, F39.t7, zA, F39.t1_s, H1.load (k := 0) (i := 0) rfl rfl]
 refine mA hG hw hS hw2 H1 (fun e h2 nx2 X he hne H2 => ?_) fun n' u1 q1 u2 q2 g o1 o2 h2 nx2 X hn ok1 ok2 hse _ _ _ _ _ _ _ _ hsub H2 => ?_
 ·rw [jA, jE, jO]
  refine H2.alloc fun b6 h3 nx3 H3 => ?_
  refine H3.storeN (k := 0) (n := 2) rfl rfl rfl fun h4 H4 => ?_
  rw [hse0] at he; exact absurd he hne
 subst hn
 have hn256 := ok1.n256
 have H2 : Hp .e h2 nx2 [.arr b3 [encG S]] := Hp.pre (_ :: _ :: _ :: X) H2
 rw [jA, jE, jO]
 refine H2.alloc fun b6 h3 nx3 H3 => ?_
 refine H3.storeN (k := 0) (n := 2) rfl rfl rfl fun h4 H4 => ?_
 rw [F39.t6, zA, F39.t2_s, sNeq, decide_eq_true rfl, Bool.not_true, F39.t5, zJ, F39.v12, zE, zT, F39.t35, zA, F39.t8_s]
 refine H4.mkmap fun gm h5 nx5 H5 => ?_
 refine H5.alloc fun b7 h6 nx6 H6 => ?_
 refine H6.store (k := 0) rfl (by simp) rfl fun h7 H7 => ?_
 rw [F39.t34, zA, F39.t9_s]
 refine H7.alloc fun b8 h8 nx8 H8 => ?_
 rw [F39.t33, zA, F39.t30, zA, F39.t10_s]
 refine all185 _ _ _ _ ?_
 rintro _ rfl _
 rw [F39.t29, yB, F39.t28]
 have H9 := H8.addGro 2
 have T : ∃ T : List Ob, T = [.arr b6 [rowV o1 2 u1.length, rowV o2 2 u2.length], .arr b3 [encG S]] := ⟨_, rfl⟩
 obtain ⟨T, hT⟩ := T
 have hout : ∀ i, ((G.take i).filter (jQ S)).length ≤ G.length := fun i => by
  have := List.length_filter_le (jQ S) (G.take i)
  rw [List.length_take] at this; omega
 refine rfAll H9 F39.t28_f (fun v w k => F39.t28_b k) (by omega)
  (fun i L' => ∃ (o : Option Pa) (out : List (AV × Sym)) (rows : List Ob), out.map (·.2) = (G.take i).filter (jQ S) ∧ (∀ p ∈ out, RowOwn rows p) ∧ L' = .gro o 2 out.length (yU out) :: .arr b8 [rowV o 2 out.length] :: .arr b7 [.map gm] :: .map gm (entS (cosU ((G.take i).filter (jQ S)) S)) :: (T ++ rows))
  (fun _ => False) (fun _ _ => False) ⟨none, [], [], by simp, by simp, by subst hT; rfl⟩
  (fun i x Rb Rb' h10 nx10 L' M E O1 O2 hx hJ H10 hM hE hR hX => ?_) (fun h10 nx10 L' hJ H10 => ?_) (fun _ _ _ hX _ => hX.elim) (fun _ _ _ _ hX _ => hX.elim)
 case refine_2 =>
  obtain ⟨o, out, rows, ho, hr, rfl⟩ := hJ
  rw [List.take_of_length_le (Nat.le_refl _)] at H10 ho
  rw [F39.t32, zA, F39.t31_s, H10.load (k := 1) (i := 0) rfl rfl]
  simp only [zQ, yG]
  rw [F39.ret]
  refine hK _ _ _ _ (.tup [encG (cosL G S), I 0]) H10 (frz_tup2N ?_ (.int _ _)) rfl
  have := frzOwn (k := 0) H10 rfl fun p hp => (hr p hp).mono fun x hx => by simp [hx]
  rw [ho] at this
  exact this
 obtain ⟨o, out, rows, ho, hr, rfl⟩ := hJ
 have hol : out.length = ((G.take i).filter (jQ S)).length := by rw [← ho, List.length_map]
 have hxm := List.mem_of_getElem? hx
 have hdx := ok1.dp x hxm
 have htake : G.take (i + 1) = G.take i ++ [x] := by rw [List.take_add_one, hx]; rfl
 have hCm : ∀ m ∈ (G.take i).filter (jQ S), m ∈ G := fun m hm => List.mem_of_mem_take (List.mem_filter.1 hm).1
 have hks : ∀ b ∈ cosU ((G.take i).filter (jQ S)) S, DS n' b := fun b hb => by
  obtain ⟨m, hm, c, hc, rfl⟩ := mem_cosU.1 hb
  exact (ok1.dp _ (ok1.cl m (hCm m hm) c (hsub c hc))).1
 rw [F39.t11_s]
 refine H10.alloc fun b9 h11 nx11 H11 => ?_
 refine H11.storeN (k := 0) (n := 2) rfl rfl rfl fun h12 H12 => ?_
 refine hM _ _ _ [_] H12 fun h13 H13 => ?_
 rw [F39.t27, yB, F39.t26, zA, F39.t14, zA, F39.t12_s, H13.load (k := 4) (i := 0) rfl rfl, H13.loadN (k := 0) (n := 2) rfl rfl]
 refine has204 (a := x) hn256 hdx.1 hks H13 (k := 5) rfl ?_
 rw [F39.t13, zJ, F39.v16]
 have hseen := coset_seen ok1 ok2 hsub hx
 by_cases c : x ∈ cosU ((G.take i).filter (jQ S)) S
 ·rw [decide_eq_true c, zC, gD, kD]
  have hfl : (G.take (i + 1)).filter (jQ S) = (G.take i).filter (jQ S) := by
   rw [htake, List.filter_append, List.filter_cons_of_neg (by rw [hseen.1 c]; decide)]; simp
  exact hE _ _ _ [_] _ ⟨o, out, rows, by rw [hfl]; exact ho, hr, by rw [hfl]⟩ H13
 have hlx : jQ S x = true := by
  cases q : jQ S x with
  | true => rfl
  | false => exact absurd (hseen.2 q) c
 have hfl : (G.take (i + 1)).filter (jQ S) = (G.take i).filter (jQ S) ++ [x] := by
  rw [htake, List.filter_append, List.filter_cons_of_pos hlx]; rfl
 rw [decide_eq_false c, zE, zT, F39.t25, zA, F39.t23, zA, F39.t15_s]
 subst hT
 rw [H13.load (k := 7) (i := 0) rfl rfl]
 refine all185 _ _ _ _ ?_
 rintro _ rfl _
 rw [F39.t22, yB, F39.t21]
 refine rfAll H13 F39.t21_f (fun v w k => F39.t21_b k) (by omega)
  (fun k L' => L' = .arr b9 [encI x.1, .bool x.2] :: Rb' :: .gro o 2 out.length (yU out) :: .arr b8 [rowV o 2 out.length] :: .arr b7 [.map gm] :: .map gm (entS (cosU ((G.take i).filter (jQ S)) S ++ (S.take k).map (zM x))) :: ([.arr b6 [rowV o1 2 u1.length, rowV o2 2 u2.length], .arr b3 [encG S]] ++ rows))
  (fun _ => False) (fun _ _ => False) (by simp)
  (fun k y Sb Sb' h14 nx14 L' M' E' O1' O2' hy hJ H14 hM' hE' hR' hX' => ?_) (fun h14 nx14 L' hJ H14 => ?_) (fun _ _ _ hX _ => hX.elim) (fun _ _ _ _ hX _ => hX.elim)
 ·subst hJ
  have hym := List.mem_of_getElem? hy
  have hdy := ok2.dp y hym
  have htk : S.take (k + 1) = S.take k ++ [y] := by rw [List.take_add_one, hy]; rfl
  have hxy : DS n' (zM x y) := (ok1.dp _ (ok1.cl x hxm y (hsub y hym))).1
  rw [F39.t16_s]
  refine H14.alloc fun b10 h15 nx15 H15 => ?_
  refine H15.storeN (k := 0) (n := 2) rfl rfl rfl fun h16 H16 => ?_
  refine hM' _ _ _ [_] H16 fun h17 H17 => ?_
  rw [F39.t20, yB, F39.t19, zA, F39.t17_s, H17.loadN (k := 2) (n := 2) rfl rfl, H17.loadN (k := 0) (n := 2) rfl rfl]
  refine pD (a := x) (b := y) (fun z hz => by rw [hdx.1.1]; exact hdy.1.2 z hz) (by rw [hdy.1.1]; omega) _ _ _ _ ?_
  rintro _ rfl _
  refine H17.alloc fun b11 h18 nx18 H18 => ?_
  refine H18.storeN (k := 0) (n := 2) rfl rfl rfl fun h19 H19 => ?_
  rw [F39.t18_s, H19.load (k := 7) (i := 0) rfl rfl, H19.loadN (k := 0) (n := 2) rfl rfl, H19.loadN (k := 0) (n := 2) rfl rfl]
  refine key203 (a := zM x y) (fun z hz => by have := hxy.2 z hz; omega) (by rw [hxy.1]; omega) _ _ _ _ ?_
  rintro _ rfl _
  rw [H19.loadN (k := 0) (n := 2) rfl rfl, zB, H19.load (k := 7) (i := 0) rfl rfl, zB]
  refine H19.putS (a := zM x y) hn256 hxy (fun b hb => ?_) (fun hin => ?_) (k := 8) rfl fun h20 H20 => ?_
  ·rcases List.mem_append.1 hb with q | q
   ·exact hks b q
   ·obtain ⟨z, hz, rfl⟩ := List.mem_map.1 q
    exact (ok1.dp _ (ok1.cl x hxm z (hsub z (List.mem_of_mem_take hz)))).1
  ·rcases List.mem_append.1 hin with q | q
   ·exact coset_new ok1 ok2 hCm hxm hym c q
   ·obtain ⟨z, hz, e⟩ := List.mem_map.1 q
    have := coset_inj ok2 hdx (List.mem_of_mem_take hz) hym e
    subst this
    obtain ⟨j, hj⟩ := List.getElem?_of_mem hz
    have hjl := (List.getElem?_eq_some_iff.1 hj).1
    rw [List.length_take] at hjl
    rw [List.getElem?_take_of_lt (by omega)] at hj
    have := ord_lt ok2 hj hy (by omega)
    rw [qK] at this; cases this
  ·refine hE' _ _ _ [_, _] _ ?_ H20
   rw [htk, List.map_append, ← List.append_assoc]
   rfl
 ·subst hJ
  rw [List.take_of_length_le (Nat.le_refl _)] at H14
  rw [F39.t24_s, H14.load (k := 3) (i := 0) rfl rfl, sFx, H14.load (k := 0) (i := 0 + 0) rfl rfl, sFx, H14.load (k := 0) (i := 0 + 1) rfl rfl]
  refine clone106o (f := x.1) (by rw [hdx.1.1]; omega) (by rw [hdx.1.1]; omega) H14 fun rid cap h15 nx15 hcap H15 => ?_
  rw [H15.load (k := 1) (i := 0 + 1) rfl rfl, zB, sFx, zB, H15.load (k := 4) (i := 0) rfl rfl, zB, xO rfl rfl]
  refine H15.bslice (l := [.sl rid 0 x.1.length cap 1, .bool x.2]) rfl fun tb h16 nx16 H16 => ?_
  rw [H16.load (k := 5) (i := 0) rfl rfl, zB, sAppq_row]
  refine H16.appN (k := 4) (o := o) (c := 1) (esz := 2) (new := [.sl rid 0 x.1.length cap 1, .bool x.2]) rfl (HasArr.rd (l := [.sl rid 0 x.1.length cap 1, .bool x.2]) (n := 1) (e := 2) (H16.own _ (List.mem_cons_self ..)) rfl) rfl rfl (by decide) (by decide) (by have := hout i; omega) fun o'' h17 nx17 _ H17 => ?_
  refine H17.store (k := 5) rfl (by simp) (u9 _ _ _) fun h18 H18 => ?_
  have hp : Hp .e h18 nx17 ([.arr tb [.sl rid 0 x.1.length cap 1, .bool x.2], .arr b9 [encI x.1, .bool x.2]] ++ Rb' :: (.gro o'' 2 (out.length + 1) (yU out ++ [.sl rid 0 x.1.length cap 1, .bool x.2]) :: .arr b8 [rowV o'' 2 (out.length + 1)] :: .arr b7 [.map gm] :: .map gm (entS (cosU ((G.take i).filter (jQ S)) S ++ S.map (zM x))) :: ([.arr b6 [rowV o1 2 u1.length, rowV o2 2 u2.length], .arr b3 [encG S]] ++ (.arr rid (x.1.map I) :: rows)))) := by
   refine H18.perm ?_
   show List.Perm (_ :: _ :: _ :: _ :: _ :: _ :: _ :: _ :: _ :: _ :: rows) (_ :: _ :: _ :: _ :: _ :: _ :: _ :: _ :: _ :: _ :: rows)
   exact .cons _ (List.perm_middle (l₁ := [_, _, _, _, _, _, _, _]) (a := Ob.arr rid (x.1.map I)) (l₂ := rows)).symm
  refine hE _ _ _ [_, _] _ ⟨o'', out ++ [(.sl rid 0 x.1.length cap 1, x)], .arr rid (x.1.map I) :: rows, ?_, ?_, ?_⟩ hp
  ·rw [List.map_append, ho, hfl]; rfl
  ·intro p hp
   rcases List.mem_append.1 hp with q | q
   ·exact (hr p q).mono fun z hz => List.mem_cons_of_mem _ hz
   ·obtain rfl := List.mem_singleton.1 q
    exact ⟨rid, cap, rfl, hcap, List.mem_cons_self ..⟩
  ·rw [hfl]
   have e1 : cosU ((G.take i).filter (jQ S) ++ [x]) S = cosU ((G.take i).filter (jQ S)) S ++ S.map (zM x) := by simp [cosU]
   have e2 : yU (out ++ [(.sl rid 0 x.1.length cap 1, x)]) = yU out ++ [.sl rid 0 x.1.length cap 1, .bool x.2] := by unfold yU; rw [List.flatMap_append]; rfl
   rw [e1, e2, List.length_append]
   subst_vars
   rfl
end Go.Ev
namespace Go.Ev
theorem sub_permG {α : Type} [DecidableEq α] : ∀ (l r : List α), l.Nodup → (∀ x ∈ l, x ∈ r) → ∃ s, r.Perm (l ++ s)
 | [], r, _, _ => ⟨r, .refl _⟩
 | a :: l, r, hn, hs => by
  obtain ⟨h1, h2⟩ := List.nodup_cons.1 hn
  have ha := hs a (by simp)
  obtain ⟨s, hp⟩ := sub_permG l (r.erase a) h2 fun x hx => (List.mem_erase_of_ne (by rintro rfl; exact h1 hx)).2 (hs x (by simp [hx]))
  exact ⟨s, (List.perm_cons_erase ha).trans (.cons a hp)⟩
theorem perm_of_sub {α : Type} [DecidableEq α] {l r : List α} (h1 : l.Nodup) (h2 : ∀ x ∈ l, x ∈ r) (h3 : r.length ≤ l.length) : r.Perm l := by
 obtain ⟨s, hs⟩ := sub_permG l r h1 h2
 have hl := hs.length_eq
 obtain rfl : s = [] := List.eq_nil_of_length_eq_zero (by rw [List.length_append] at hl; omega)
 simpa using hs
theorem nodup_get {α : Type} {l : List α} (h : l.Nodup) {i j : Nat} {x : α} (hi : l[i]? = some x) (hj : l[j]? = some x) : i = j := by
 obtain ⟨a1, a2⟩ := List.getElem?_eq_some_iff.1 hi
 obtain ⟨b1, b2⟩ := List.getElem?_eq_some_iff.1 hj
 have hp := List.pairwise_iff_getElem.1 h
 rcases Nat.lt_trichotomy i j with c | c | c
 ·exact absurd (a2.trans b2.symm) (hp i j a1 b1 c)
 ·exact c
 ·exact absurd (b2.trans a2.symm) (hp j i b1 a1 c)
theorem getD_some {l : List Int} {i : Nat} (h : i < l.length) : l[i]? = some (l.getD i 0) := by
 rw [List.getD_eq_getElem?_getD, List.getElem?_eq_getElem h]; rfl
theorem PermL.surj {g : List Int} (h : PermL g) {j : Nat} (hj : j < g.length) : ∃ i, i < g.length ∧ g[i]? = some (j : Int) := by
 have hp : ((List.range g.length).map fun (i : Nat) => (i : Int)).Perm g := perm_of_sub h.1 (fun x hx => by
  have := h.2 x hx
  exact List.mem_map.2 ⟨x.toNat, List.mem_range.2 (by omega), by omega⟩) (by simp)
 have hm : (j : Int) ∈ g := hp.mem_iff.1 (List.mem_map.2 ⟨j, List.mem_range.2 hj, rfl⟩)
 obtain ⟨i, hi⟩ := List.mem_iff_getElem?.1 hm
 exact ⟨i, (List.getElem?_eq_some_iff.1 hi).1, hi⟩
theorem applyP_get {n : Nat} {c : Bool} {g f : List Int} (hg : PermL g) (hgn : g.length = n) : ∀ (i k : Nat), i ≤ n → k < i → (gG n c g f i)[(g.getD k 0).toNat]? = some (xOf n c (f.getD k 0))
 | 0, k, _, h => by omega
 | i + 1, k, hi, h => by
  rw [gS]
  have hk := hg.2 _ (List.mem_of_getElem? (getD_some (l := g) (i := k) (by omega)))
  have hi' := hg.2 _ (List.mem_of_getElem? (getD_some (l := g) (i := i) (by omega)))
  by_cases e : k = i
  ·subst e
   rw [List.getElem?_set, if_pos rfl, if_pos (by rw [yP]; omega)]
  ·rw [List.getElem?_set_ne, applyP_get hg hgn i k (by omega) (by omega)]
   intro q
   have e1 : g.getD i 0 = g.getD k 0 := by omega
   have := nodup_get hg.1 (getD_some (l := g) (i := i) (by omega)) (e1 ▸ getD_some (l := g) (i := k) (by omega))
   omega
theorem applyS_get {c : Bool} {g f : List Int} (hg : PermL g) (hgn : g.length = f.length) {k : Nat} (h : k < f.length) : (u3 c g f)[(g.getD k 0).toNat]? = some (xOf f.length c (f.getD k 0)) := applyP_get hg hgn _ k (Nat.le_refl _) h
end Go.Ev
namespace Go.Ev
theorem apply_len (c : Bool) (g f : List Int) : (u3 c g f).length = f.length := yP _ _ _ _ _
theorem DP.surj {n : Nat} {a : Sym} (ha : DP n a) {j : Nat} (hj : j < n) : ∃ i, i < n ∧ a.1.getD i 0 = (j : Int) := by
 have h1 := ha.1.1
 obtain ⟨i, hi, e⟩ := ha.perm.surj (show j < a.1.length by omega)
 exact ⟨i, by omega, by rw [List.getD_eq_getElem?_getD, e]; rfl⟩
def idL (n : Nat) : List Int := (List.range n).map fun j : Nat => (j : Int)
theorem mN (n : Nat) : (idL n).length = n := by simp [idL]
theorem idL_get {n i : Nat} (h : i < n) : (idL n).getD i 0 = (i : Int) := by
 rw [idL, List.getD_eq_getElem?_getD, List.getElem?_map, List.getElem?_range h]; rfl
def invS (a : Sym) : Sym := (u3 false a.1 (idL a.1.length), a.2)
theorem inv_get {n : Nat} {a : Sym} (ha : DP n a) {k : Nat} (hk : k < n) : (invS a).1[(a.1.getD k 0).toNat]? = some (k : Int) := by
 have h1 := ha.1.1
 have := applyS_get (c := false) ha.perm (f := idL a.1.length) (by rw [mN]) (k := k) (by rw [mN]; omega)
 rw [idL_get (by omega)] at this
 exact this
theorem xA {n : Nat} {a : Sym} (ha : DP n a) : DP n (invS a) := by
 have h1 := ha.1.1
 have hl : (invS a).1.length = n := by show (u3 _ _ _).length = n; rw [apply_len, mN, h1]
 have hv : ∀ j, j < n → ∃ i, i < n ∧ a.1.getD i 0 = (j : Int) ∧ (invS a).1[j]? = some (i : Int) := fun j hj => by
  obtain ⟨i, hi, e⟩ := ha.surj hj
  have := inv_get ha hi
  rw [e, Int.toNat_natCast] at this
  exact ⟨i, hi, e, this⟩
 refine ⟨⟨hl, fun x hx => ?_⟩, ?_⟩
 ·obtain ⟨j, hj⟩ := List.getElem?_of_mem hx
  obtain ⟨i, hi, _, e⟩ := hv j (by rw [← hl]; exact (List.getElem?_eq_some_iff.1 hj).1)
  rw [hj] at e; cases e; omega
 ·rw [List.Nodup, List.pairwise_iff_getElem]
  intro i j hi hj hij e
  obtain ⟨a1, _, b1, c1⟩ := hv i (by omega)
  obtain ⟨a2, _, b2, c2⟩ := hv j (by omega)
  rw [List.getElem?_eq_getElem hi] at c1
  rw [List.getElem?_eq_getElem hj] at c2
  have e1 := Option.some.inj c1
  have e2 := Option.some.inj c2
  have : a1 = a2 := by omega
  subst this
  rw [b1] at b2
  omega
theorem inv_l {n : Nat} {a : Sym} (ha : DP n a) : zM (invS a) a = idS n := by
 refine Prod.ext (vA (n := n) (by show (uY _ _).length = n; rw [gZ, ha.1.1]) (by simp [idS]) fun i hi => ?_) (by show (a.2 != a.2) = false; cases a.2 <;> rfl)
 rw [uS ha.1 hi, List.getD_eq_getElem?_getD (l := (invS a).1), inv_get ha hi]
 show some (i : Int) = ((List.range n).map fun j : Nat => (j : Int))[i]?
 rw [List.getElem?_map, List.getElem?_range hi]; rfl
theorem inv_r {n : Nat} {a : Sym} (ha : DP n a) : zM a (invS a) = idS n := by
 have L := jX n
 have hb := xA ha
 have hc := xA hb
 have e1 := inv_l ha
 have e2 := inv_l hb
 have : a = invS (invS a) := by
  have q := L.assoc (invS (invS a)) (invS a) a hc hb ha
  rw [e2, e1, L.el a ha, L.er _ hc] at q
  exact q
 rw [show zM a (invS a) = zM (invS (invS a)) (invS a) by rw [← this]]
 exact e2
theorem inv_uniq {n : Nat} {a b : Sym} (ha : DP n a) (hb : DP n b) (h : zM a b = idS n) : b = invS a := by
 have L := jX n
 have hi := xA ha
 have q := L.assoc (invS a) a b hi ha hb
 rw [inv_l ha, h, L.el b hb, L.er _ hi] at q
 exact q
def conj (a b : Sym) : Sym := zM (zM a b) (invS a)
theorem conj_mul {n : Nat} {a b c : Sym} (ha : DP n a) (hb : DP n b) (hc : DP n c) : conj a (zM b c) = zM (conj a b) (conj a c) := by
 have L := jX n
 have hi := xA ha
 have hab := L.dm a b ha hb
 have hac := L.dm a c ha hc
 have hci := L.dm _ _ hac hi
 unfold conj
 rw [L.assoc (zM a b) (invS a) (zM (zM a c) (invS a)) hab hi hci, ← L.assoc (invS a) (zM a c) (invS a) hi hac hi, ← L.assoc (invS a) a c hi ha hc, inv_l ha, L.el c hc, ← L.assoc (zM a b) c (invS a) hab hc hi, L.assoc a b c ha hb hc]
theorem conj_comp {n : Nat} {a b c : Sym} (ha : DP n a) (hb : DP n b) (hc : DP n c) : conj (zM a b) c = conj a (conj b c) := by
 have L := jX n
 have hia := xA ha
 have hib := xA hb
 have hab := L.dm a b ha hb
 have e : invS (zM a b) = zM (invS b) (invS a) := by
  refine (inv_uniq hab (L.dm _ _ hib hia) ?_).symm
  rw [L.assoc a b _ ha hb (L.dm _ _ hib hia), ← L.assoc b (invS b) (invS a) hb hib hia, inv_r hb, L.el _ hia, inv_r ha]
 have hbc := L.dm b c hb hc
 unfold conj
 rw [e, L.assoc a b c ha hb hc, ← L.assoc (zM a (zM b c)) (invS b) (invS a) (L.dm _ _ ha hbc) hib hia, L.assoc a (zM b c) (invS b) ha hbc hib]
theorem conj_dp {n : Nat} {a b : Sym} (ha : DP n a) (hb : DP n b) : DP n (conj a b) := (jX n).dm _ _ ((jX n).dm _ _ ha hb) (xA ha)
def normB (G S : List Sym) : Bool := G.all fun a => S.all fun b => decide (conj a b ∈ S)
theorem normB_gen {G S u1 q1 u2 q2 : List Sym} {n : Nat} (hG : GrOk G n) (hS : GrOk S n) (hu1 : ∀ c ∈ u1, c ∈ G) (h1 : CloS n u1 q1) (hq1 : ∀ a, a ∈ q1 ↔ a ∈ G) (hu2 : ∀ c ∈ u2, c ∈ S) (h2 : CloS n u2 q2) (hq2 : ∀ a, a ∈ q2 ↔ a ∈ S) :
  (u1.all fun a => u2.all fun b => decide (conj a b ∈ S)) = normB G S := by
 rw [Bool.eq_iff_iff]
 simp only [normB, List.all_eq_true, decide_eq_true_eq]
 have L := jX n
 constructor
 ·intro h
  have k1 : ∀ a ∈ u1, ∀ b ∈ S, conj a b ∈ S := fun a ha b hb => by
   have da := hG.dp a (hu1 a ha)
   have := h2.ind (fun b => DP n b ∧ conj a b ∈ S) ⟨L.de, by unfold conj; rw [L.er a da, inv_r da]; exact hS.one⟩ (fun x hx c hc => by
    have dc := hS.dp c (hu2 c hc)
    exact ⟨L.dm _ _ dc hx.1, by rw [conj_mul da dc hx.1]; exact hS.cl _ (h a ha c hc) _ hx.2⟩) b ((hq2 b).2 hb)
   exact this.2
  intro a ha
  have := h1.ind (fun a => DP n a ∧ ∀ b ∈ S, conj a b ∈ S) ⟨L.de, fun b hb => by
   have e : invS (idS n) = idS n := (inv_uniq L.de L.de (L.el _ L.de)).symm
   unfold conj
   rw [e, L.er _ (L.dm _ _ L.de (hS.dp b hb)), L.el b (hS.dp b hb)]; exact hb⟩ (fun x hx c hc => by
    have dc := hG.dp c (hu1 c hc)
    exact ⟨L.dm _ _ dc hx.1, fun b hb => by rw [conj_comp dc hx.1 (hS.dp b hb)]; exact k1 c hc _ (hx.2 b hb)⟩) a ((hq1 a).2 ha)
  exact this.2
 ·intro h a ha b hb
  exact h a (hu1 a ha) b (hu2 b hb)
end Go.Ev
namespace Go.Ev
open Go Go.Proofs
variable {B : Nat}
set_option maxRecDepth 100000
theorem inv124 {a : Sym} {n : Nat} (ha : DP n a) (hn : n ≤ 1000) : Pure Tryz.prog B 124 [encS a] (· = encS (invS a)) := by
 have hl := ha.1.1
 refine yH fun h nx K H0 hK => zO zS dreg 10000 fun hf' => ?_
 rw [F124.go, F124.t20, zA, F124.t0_s]
 refine H0.box (l := [encI a.1, .bool a.2]) rfl fun b1 h1 nx1 H1 => ?_
 refine H1.alloc fun b2 h2 nx2 H2 => ?_
 have ld0 : ∀ {hh nn L'} (HH : Hp h hh nn (L' ++ [.arr b2 [.nils, .bool false], .arr b1 [encI a.1, .bool a.2]])) (op : AV → OP), zF (.ptr b1 (0 + 0)) hh op = op (encI a.1) := fun {hh nn L'} HH op => HH.load (k := L'.length + 1) (i := 0) (l := [encI a.1, .bool a.2]) (by rw [List.getElem?_append_right (by omega)]; simp) rfl
 have ld1 : ∀ {hh nn L'} (HH : Hp h hh nn (L' ++ [.arr b2 [.nils, .bool false], .arr b1 [encI a.1, .bool a.2]])) (op : AV → OP), zF (.ptr b1 (0 + 1)) hh op = op (.bool a.2) := fun {hh nn L'} HH op => HH.load (k := L'.length + 1) (i := 1) (l := [encI a.1, .bool a.2]) (by rw [List.getElem?_append_right (by omega)]; simp) rfl
 have mk : mkSl 8 (I (a.1.length : Int)) (I (a.1.length : Int)) = true := by
  show (Nat.ble a.1.length a.1.length && Nat.ble a.1.length 1000000 && Nat.ble (8 * a.1.length) 281474976710656) = true
  rw [Nat.ble_eq_true_of_le (Nat.le_refl _), Nat.ble_eq_true_of_le (by omega), Nat.ble_eq_true_of_le (by omega)]; rfl
 rw [F124.t19, zA, F124.t1_s]
 simp only [Bool.and_self, jI, sFx]
 rw [ld0 (L' := []) H2, zG, mk]
 simp only [Bool.and_self, jI]
 rw [ld1 (L' := []) H2]
 refine H2.mk1 a.1.length rfl rfl (by omega) (by decide) fun tb h3 nx3 H3 => ?_
 rw [ld1 (L' := [_]) H3]
 simp only [zB, zG]
 rw [ld0 (L' := [_]) H3]
 try simp only [zB]
 rw [xO rfl rfl]
 refine H3.alloc fun b3 h4 nx4 H4 => ?_
 rw [xO rfl rfl]
 try simp only [zB]
 rw [ld1 (L' := [_, _]) H4]
 try simp only [zB, zG]
 rw [ld0 (L' := [_, _]) H4]
 try simp only [zB]
 refine H4.storeN (k := 0) (n := 2) rfl rfl rfl fun h5 H5 => ?_
 rw [F124.t18, zA, F124.t15, zA, F124.t2_s, sFx, ld0 (L' := [_, _]) H5, zG]
 have e0 : List.replicate a.1.length (I 0) = (gG a.1.length false a.1 (idL a.1.length) 0).map I := by simp [gG]
 rw [e0] at H5
 rw [F124.t14, yB]
 refine F124.t13_L (fun m x8 h' nx' => ∃ i : Nat, x8 = I i ∧ m = a.1.length - i ∧ i ≤ a.1.length ∧ Hp h h' nx' [.arr b3 [.sl tb 0 a.1.length (some a.1.length) 1, .bool a.2], .arr tb ((gG a.1.length false a.1 (idL a.1.length) i).map I), .arr b2 [.nils, .bool false], .arr b1 [encI a.1, .bool a.2]]) (m := a.1.length) (by omega)
  ⟨0, rfl, by omega, by omega, H5⟩ ?_
 rintro m z4 z5 z8 z9 h6 nx6 R ⟨i, rfl, rfl, hi, H6⟩ hR
 rw [F124.t12, zA, F124.t3_s, sLss]
 by_cases hlt : i < a.1.length
 case neg =>
  rw [decide_eq_false (by omega), F124.t11, zA, F124.t4, zJ, F124.v9, zE, gD, kD, F124.t17, zA, F124.t16_s, H6.loadN (k := 0) (n := 2) rfl rfl]
  refine H6.storeN (k := 2) (n := 2) rfl rfl rfl fun h7 H7 => ?_
  simp only [zQ, yG]
  rw [F124.ret, H7.loadN (k := 2) (n := 2) rfl rfl]
  obtain rfl : i = a.1.length := by omega
  have hal := yP a.1.length false a.1 (idL a.1.length) a.1.length
  have e : invS a = (gG a.1.length false a.1 (idL a.1.length) a.1.length, a.2) := by
   unfold invS u3; rw [mN]
  refine hK _ _ _ _ (encS (invS a)) H7 (xC ?_ (zH rfl) rfl) rfl
  rw [e]
  have := H7.frzArr (k := 1) (e := 1) (n := a.1.length) (cap := some a.1.length) rfl (Nat.le_refl _) (by simp [hal]) fixdI
  show FrzN h h7 _ (AV.lst 1 (gG _ _ _ _ _).length _)
  rw [hal]
  exact this
 rw [decide_eq_true (by omega), F124.t11, zA, F124.t4, zJ, F124.v9, zC, zT]
 have hx : a.1[i]? = some a.1[i] := List.getElem?_eq_getElem hlt
 have hgb := ha.perm.2 _ (List.getElem_mem hlt)
 have hgd : a.1.getD i 0 = a.1[i] := by rw [List.getD_eq_getElem?_getD, hx]; rfl
 rw [F124.t10, zA, F124.t8, yB, F124.t7, zA, F124.t5_s, sIxL rfl hlt, ldL (getI hx), F124.t6_s, sFx, H6.load (k := 0) (i := 0 + 0) rfl rfl, sIx (i := (a.1[i]).toNat) (by omega) (by omega)]
 refine H6.store (k := 1) rfl (by rw [List.length_map, yP]; omega) rfl fun h7 H7 => ?_
 rw [F124.t9_s, sAdd (by omega)]
 refine hR _ _ _ _ _ _ _ (by omega) ⟨i + 1, rfl, rfl, by omega, H7.cast ?_⟩
 rw [gS, hgd, idL_get hlt]
 simp [List.map_set, xOf]
def nrmV (G S : List Sym) (n : Int) : AV := if subE G S n ≠ 0 then .tup [.bool false, I (subE G S n)] else .tup [.bool (normB G S), I 0]
theorem vS {α : Type} {l : List α} {p : α → Bool} {i : Nat} {x : α} (hx : l[i]? = some x) (h : (l.take i).all p = true) (hp : p x = true) : (l.take (i + 1)).all p = true := by
 rw [List.take_add_one, hx, List.all_append, h]; simp [hp]
theorem pB {α : Type} {l : List α} {p : α → Bool} (h : (l.take l.length).all p = true) : l.all p = true := by rwa [List.take_of_length_le (Nat.le_refl _)] at h
theorem isNormal40 {G S : List Sym} {n : Int} (hG : G.length ≤ 100000) (hw : ∀ g ∈ G, g.1.length ≤ 100000) (hS : S.length ≤ 100000) (hw2 : ∀ g ∈ S, g.1.length ≤ 100000) : Pure Tryz.prog B 40 [encG G, encG S, I n] (· = nrmV G S n) := by
 refine yH fun h nx K H0 hK => zO zS dreg 10000000 fun hf' => ?_
 rw [F40.go, F40.t43, zA, F40.t0_s, F40.t42, zA, F40.t1_s]
 refine mA hG hw hS hw2 H0 (fun e h2 nx2 X he hne H2 => ?_) fun n' u1 q1 u2 q2 g o1 o2 h2 nx2 X hn ok1 ok2 hse hu1 hul1 hC1 hq1 hu2 hul2 hC2 hq2 hsub H2 => ?_
 ·rw [jA, jE, jO]
  refine H2.alloc fun b6 h3 nx3 H3 => ?_
  refine H3.storeN (k := 0) (n := 2) rfl rfl rfl fun h4 H4 => ?_
  rw [F40.t41, zA, F40.t6, zA, F40.t2_s, sNeq, decide_eq_false hne, Bool.not_false, F40.t5, zJ, F40.v10, zC, F40.t4, zA, F40.t3_s]
  simp only [zQ, yG]
  rw [F40.ret]
  exact hK _ _ _ _ _ H4 (uI (zH rfl) (zH rfl)) (by rw [nrmV, ← he, if_pos hne])
 subst hn
 have hn256 := ok1.n256
 have hgen := normB_gen ok1 ok2 hu1 hC1 hq1 hu2 hC2 hq2
 rw [jA, jE, jO]
 refine H2.alloc fun b6 h3 nx3 H3 => ?_
 refine H3.storeN (k := 0) (n := 2) rfl rfl rfl fun h4 H4 => ?_
 rw [F40.t41, zA, F40.t6, zA, F40.t2_s, sNeq, decide_eq_true rfl, Bool.not_true, F40.t5, zJ, F40.v10, zE, zT, F40.t40, zA, F40.t37, zA, F40.t7_s, sAx0, H4.load (k := 0) (i := 0) rfl rfl, H4.groLen (k := 3) rfl]
 have hd2 : ∀ b ∈ q2, DS n' b := fun b hb => (ok2.dp b ((hq2 b).1 hb)).1
 have no : ∀ {h' nx' L'}, Hp h h' nx' L' → (∃ a ∈ u1, ∃ b ∈ u2, conj a b ∉ S) → K (.tup [.bool false, I 0]) h' nx' = .ok True := fun H' ⟨a, ha, b, hb, hc⟩ => by
  refine hK _ _ _ _ _ H' (uI (zH rfl) (zH rfl)) ?_
  rw [nrmV, hse, if_neg (by decide), ← hgen]
  congr 3
  refine (Bool.eq_false_iff.2 fun q => ?_).symm
  have := List.all_eq_true.1 (List.all_eq_true.1 q a ha) b hb
  exact hc (of_decide_eq_true this)
 rw [F40.t36, yB]
 refine F40.t35_L (fun m x13 h' nx' => ∃ i : Nat, x13 = I i ∧ m = u1.length - i ∧ i ≤ u1.length ∧ (u1.take i).all (fun a => u2.all fun b => decide (conj a b ∈ S)) = true ∧ Hp h h' nx' (.arr b6 [rowV o1 2 u1.length, rowV o2 2 u2.length] :: .map g (entS q2) :: .gro o2 2 u2.length (yO u2) :: .gro o1 2 u1.length (yO u1) :: (X ++ []))) (m := u1.length) (by omega)
  ⟨0, rfl, by omega, by omega, by simp, H4⟩ ?_
 rintro m z3 z4 z8 z9 z13 z14 z15 z16 z17 z18 z19 h6 nx6 R ⟨i, rfl, rfl, hi, hal, H6⟩ hR
 rw [F40.t34, zA, F40.t8_s, sLss]
 by_cases hlt : i < u1.length
 case neg =>
  rw [decide_eq_false (by omega), F40.t33, zA, F40.t9, zJ, F40.v14, zE, gD, kD, F40.t39, zA, F40.t38_s]
  simp only [zQ, yG]
  rw [F40.ret]
  obtain rfl : i = u1.length := by omega
  exact hK _ _ _ _ _ H6 (uI (zH rfl) (zH rfl)) (by rw [nrmV, hse, if_neg (by decide), ← hgen, pB hal])
 rw [decide_eq_true (by omega), F40.t33, zA, F40.t9, zJ, F40.v14, zC, zT, F40.t32, zA, F40.t30, yB, F40.t29, zA, F40.t10_s]
 have hx : u1[i]? = some u1[i] := List.getElem?_eq_getElem hlt
 have hxm := List.mem_of_getElem? hx
 have hdx := ok1.dp _ (hu1 _ hxm)
 obtain ⟨iu, ou, e1, e2⟩ := groIx2 (k := 3) H6 rfl hx
 rw [e1, e2]
 refine H6.alloc fun b8 h7 nx7 H7 => ?_
 refine H7.storeN (k := 0) (n := 2) rfl rfl rfl fun h8 H8 => ?_
 rw [F40.t28, zA, F40.t11_s, sAx1, H8.load (k := 1) (i := 0 + 1) rfl rfl, H8.groLen (k := 3) rfl, F40.t27, yB]
 refine F40.t26_L (fun m x17 h' nx' => ∃ k : Nat, x17 = I k ∧ m = u2.length - k ∧ k ≤ u2.length ∧ (u2.take k).all (fun b => decide (conj u1[i] b ∈ S)) = true ∧ Hp h h' nx' (.arr b8 [encI u1[i].1, .bool u1[i].2] :: .arr b6 [rowV o1 2 u1.length, rowV o2 2 u2.length] :: .map g (entS q2) :: .gro o2 2 u2.length (yO u2) :: .gro o1 2 u1.length (yO u1) :: (X ++ []))) (m := u2.length) (by omega)
  ⟨0, rfl, by omega, by omega, by simp, H8⟩ ?_
 rintro m y3 y4 y9 y17 y18 y19 h9 nx9 R' ⟨k, rfl, rfl, hk, hal2, H9⟩ hR'
 rw [F40.t25, zA, F40.t12_s, sLss]
 by_cases hlt2 : k < u2.length
 case neg =>
  rw [decide_eq_false (by omega), F40.t24, zA, F40.t13, zJ, F40.v18, zE, gD, kD, F40.t31_s, sAdd (by omega)]
  obtain rfl : k = u2.length := by omega
  exact hR _ _ _ _ _ _ _ _ _ _ _ _ _ _ (by omega) ⟨i + 1, rfl, rfl, by omega, vS hx hal (pB hal2), H9.drop⟩
 rw [decide_eq_true (by omega), F40.t24, zA, F40.t13, zJ, F40.v18, zC, zT, F40.t23, zA, F40.t21, yB, F40.t20, zA, F40.t14_s]
 have hy : u2[k]? = some u2[k] := List.getElem?_eq_getElem hlt2
 have hym := List.mem_of_getElem? hy
 have hdy := ok2.dp _ (hu2 _ hym)
 obtain ⟨iv, ov, e3, e4⟩ := groIx2 (k := 3) H9 rfl hy
 rw [e3, e4]
 refine H9.alloc fun b9 h10 nx10 H10 => ?_
 refine H10.storeN (k := 0) (n := 2) rfl rfl rfl fun h11 H11 => ?_
 rw [F40.t19, zA, F40.t15_s, H11.loadN (k := 1) (n := 2) rfl rfl, H11.loadN (k := 0) (n := 2) rfl rfl, H11.loadN (k := 1) (n := 2) rfl rfl]
 refine pD (a := u1[i]) (b := u2[k]) (fun z hz => by rw [hdx.1.1]; exact hdy.1.2 z hz) (by rw [hdy.1.1]; omega) _ _ _ _ ?_
 rintro _ rfl _
 rw [H11.loadN (k := 1) (n := 2) rfl rfl, zB, zB]
 refine inv124 (a := u1[i]) hdx (by omega) _ _ _ _ ?_
 rintro _ rfl _
 have hdi := xA hdx
 have hdxy := (jX n').dm _ _ hdx hdy
 rw [zB]
 refine pD (a := zM u1[i] u2[k]) (b := invS u1[i]) (fun z hz => by rw [hdxy.1.1]; exact hdi.1.2 z hz) (by rw [hdi.1.1]; omega) _ _ _ _ ?_
 rintro _ rfl _
 rw [zB]
 have hdc : DP n' (conj u1[i] u2[k]) := conj_dp hdx hdy
 refine has204 (a := conj u1[i] u2[k]) hn256 hdc.1 hd2 H11 (k := 3) rfl ?_
 rw [yX, F40.t18, zJ, F40.v19]
 by_cases c : conj u1[i] u2[k] ∈ q2
 ·rw [decide_eq_true c, Bool.not_true, zE, zT, F40.t22_s, sAdd (by omega)]
  exact hR' _ _ _ _ _ _ _ _ _ (by omega) ⟨k + 1, rfl, rfl, by omega, vS hy hal2 (decide_eq_true ((hq2 _).1 c)), H11.drop⟩
 ·rw [decide_eq_false c, Bool.not_false, zC, F40.t17, zA, F40.t16_s]
  simp only [zQ, kL, yG]
  rw [F40.ret]
  exact no H11 ⟨_, hxm, _, hym, fun q => c ((hq2 _).2 q)⟩
end Go.Ev
namespace Go.Ev
abbrev AscS (l : List Sym) : Prop := l.Pairwise fun a b => befS a b = true
theorem AscS.nd {l : List Sym} (h : AscS l) : l.Nodup := h.imp fun hab e => by rw [e, qK] at hab; cases hab
theorem asc_uniq : ∀ {a b : List Sym}, AscS a → AscS b → (∀ x, x ∈ a ↔ x ∈ b) → a = b
 | [], [], _, _, _ => rfl
 | [], y :: b, _, _, h => by have := (h y).2 (by simp); cases this
 | x :: a, [], _, _, h => by have := (h x).1 (by simp); cases this
 | x :: a, y :: b, ha, hb, h => by
  have ha' := List.pairwise_cons.1 ha
  have hb' := List.pairwise_cons.1 hb
  have e : x = y := by
   have h1 := (h x).1 (by simp)
   have h2 := (h y).2 (by simp)
   rcases List.mem_cons.1 h1 with q | q
   ·exact q
   ·rcases List.mem_cons.1 h2 with r | r
    ·exact r.symm
    ·have h3 := hb'.1 x q
     have h4 := ha'.1 y r
     rw [befS_asymm h3] at h4; cases h4
  subst e
  congr 1
  refine asc_uniq ha'.2 hb'.2 fun z => ?_
  have hz := h z
  simp only [List.mem_cons] at hz
  constructor
  ·intro q
   rcases hz.1 (.inr q) with rfl | r
   ·have := ha'.1 z q; rw [qK] at this; cases this
   ·exact r
  ·intro q
   rcases hz.2 (.inr q) with rfl | r
   ·have := hb'.1 z q; rw [qK] at this; cases this
   ·exact r
end Go.Ev
namespace Go.Ev
open Go Go.Proofs
variable {B : Nat}
set_option maxRecDepth 100000
def xI (p : Sym → Bool) : List Sym → Nat → Int
 | [], _ => -1
 | a :: l, i => if p a then (i : Int) else xI p l (i + 1)
theorem findI_drop {p : Sym → Bool} {G : List Sym} {i : Nat} (h : i < G.length) : xI p (G.drop i) i = if p G[i] then (i : Int) else xI p (G.drop (i + 1)) (i + 1) := by rw [List.drop_eq_getElem_cons h]; rfl
theorem findI_spec {p : Sym → Bool} : ∀ (G : List Sym) (i : Nat), (G.find? p = none ∧ xI p G i = -1) ∨ ∃ (k : Nat) (a : Sym), G[k]? = some a ∧ G.find? p = some a ∧ xI p G i = ((i + k : Nat) : Int)
 | [], i => .inl ⟨rfl, rfl⟩
 | a :: G, i => by
  by_cases c : p a = true
  ·exact .inr ⟨0, a, rfl, by simp [c], by simp [xI, c]⟩
  ·rcases findI_spec G (i + 1) with ⟨h1, h2⟩ | ⟨k, b, h1, h2, h3⟩
   ·exact .inl ⟨by rw [List.find?_cons_of_neg (by simpa using c), h1], by rw [xI, if_neg c, h2]⟩
   ·exact .inr ⟨k + 1, b, by simpa using h1, by rw [List.find?_cons_of_neg (by simpa using c), h2], by rw [xI, if_neg c, h3]; congr 1; omega⟩
theorem same87 {G : List Sym} {f g : List Int} (hG : G.length ≤ 100000) (hfl : f.length ≤ 1000) (hdp : ∀ a ∈ G, PermL a.1 ∧ a.1.length = f.length) (hf2 : ∀ x ∈ f, -1000000000 ≤ x ∧ x ≤ 1000000000) : Pure Tryz.prog B 87 [encG G, encI f, encI g] (· = I (xI (vN f g) G 0)) := by
 refine yH fun h nx K H0 hK => zO zS dreg 10000000 fun hf' => ?_
 rw [F87.go, F87.t20, zA, F87.t0_s, F87.t19, zA, F87.t16, zA, F87.t1_s, F87.t15, yB]
 refine F87.t14_L (fun m x2 h' nx' => ∃ i : Nat, x2 = I i ∧ m = G.length - i ∧ i ≤ G.length ∧ xI (vN f g) G 0 = xI (vN f g) (G.drop i) i ∧ Hp h h' nx' []) (m := G.length) (by omega) ⟨0, rfl, by omega, by omega, rfl, H0⟩ ?_
 rintro m z1 z2 z3 z4 h3 nx3 R ⟨i, rfl, rfl, hi, ha, H3⟩ hR
 rw [F87.t13, zA, F87.t4, zA, F87.t2_s, zG, sLss]
 by_cases hlt : i < G.length
 case neg =>
  rw [decide_eq_false (by omega), F87.t3, zJ, F87.v5, zE, gD, kD, F87.t18, zA, F87.t17_s, zQ, yG, F87.ret]
  exact hK _ _ _ _ _ H3 (zH rfl) (by rw [ha, List.drop_of_length_le (by omega)]; rfl)
 rw [decide_eq_true (by omega), F87.t3, zJ, F87.v5, zC, zT, F87.t12, zA, F87.t10, yB, F87.t9, zA, F87.t5_s, sIxL rfl hlt, jC hlt, uV]
 have hd := hdp _ (List.getElem_mem hlt)
 refine apply49 (g := G[i].1) (c := G[i].2) hfl (by rw [hd.2]) hd.1 hf2 _ _ _ _ ?_
 rintro _ rfl _
 have hal : (u3 G[i].2 G[i].1 f).length = f.length := yP ..
 refine vU (by omega) _ _ _ _ ?_
 rintro _ rfl _
 have hs := findI_drop (p := vN f g) hlt
 rw [F87.t8, zJ, F87.v6]
 by_cases c : u3 G[i].2 G[i].1 f = g
 ·rw [decide_eq_true c, zC, F87.t7, zA, F87.t6_s]
  simp only [zQ, kL, yG]
  rw [F87.ret]
  exact hK _ _ _ _ _ H3 (zH rfl) (by rw [ha, hs, if_pos (show vN f g G[i] = true from decide_eq_true c)])
 ·rw [decide_eq_false c, zE, zT, F87.t11_s, sAdd (by omega)]
  exact hR _ _ _ _ _ _ _ (by omega) ⟨i + 1, rfl, rfl, by omega, by rw [ha, hs, if_neg (by rw [vN, decide_eq_false c]; decide)], H3⟩
theorem heavyB_no {G : List Sym} {n : Int} (h : wO G n = false) : (G.length : Int) ≤ n ∧ ∀ g ∈ G, g.1.length ≤ 16 := by
 simp only [wO, Bool.or_eq_false_iff, decide_eq_false_iff_not, List.any_eq_false, decide_eq_true_eq] at h
 exact ⟨by omega, fun g hg => by have := h.2 g hg; omega⟩
theorem longB_no {n : Nat} (h : qP n = false) : n ≤ 100000 := by
 have := of_decide_eq_false h; omega
theorem law16 {G : List Sym} {f g : List Int} (haw : ∀ {B}, Pure Tryz.prog B 18 [] (· = .bool true)) : Pure Tryz.prog B 16 [encG G, encI f, encI g] (· = .bool true) := by
 refine yH fun h nx K H0 hK => zO zS dreg 1000 fun hf => ?_
 have awk : ∀ (h : T Blk) (nx : Pa) (Z : Kw Prop), Z (.bool true) h nx = .ok True → (CS Tryz.prog B).fn 18 (.of 18) [] h nx Z = .ok True := fun h nx Z hZ => haw _ _ _ _ fun v hv _ => by rw [hv]; exact hZ
 have ret : ∀ {h1 nx1 L}, Hp h h1 nx1 L → K (.bool true) h1 nx1 = .ok True := fun H => hK _ _ _ _ _ H (zH rfl) rfl
 rw [F16.go, F16.t32, zA, F16.t0_s, F16.t31, zA, F16.t5, zA, F16.t1_s, F16.r1_0, F16.r1_0_g]
 refine awk _ _ _ ?_
 rw [F16.r1_1, F16.r1_1_g, yX, Bool.not_true]
 simp only [jH, gW_ff]
 (refine heavy19 (by decide) _ _ _ _ ?_; rintro _ rfl _)
 by_cases c1 : wO G 24 = true
 ·rw [c1, F16.r1_2, F16.r1_2_g, yC]
  simp only [jL, gW_tf]
  rw [F16.r1_3, F16.r1_3_g, yF]
  simp only [jL, gW_tf]
  rw [F16.r1_4, F16.r1_4_g, yF, F16.t4, zJ, F16.v8, zC, F16.t3, zA, F16.t2_s]
  refine awk _ _ _ ?_
  simp only [zQ, yG]
  rw [F16.ret]
  exact ret H0
 have c1 : wO G 24 = false := by cases q : wO G 24 <;> simp_all
 rw [c1, F16.r1_2, F16.r1_2_g, yC]
 simp only [jH, gW_ff]
 (refine long51 _ _ _ _ ?_; rintro _ rfl _)
 by_cases c2 : qP f.length = true
 ·rw [c2, F16.r1_3, F16.r1_3_g, yC]
  simp only [jL, gW_tf]
  rw [F16.r1_4, F16.r1_4_g, yF, F16.t4, zJ, F16.v8, zC, F16.t3, zA, F16.t2_s]
  refine awk _ _ _ ?_
  simp only [zQ, yG]
  rw [F16.ret]
  exact ret H0
 have hfl : f.length ≤ 100000 := longB_no (by cases q : qP f.length <;> simp_all)
 have c2 : qP f.length = false := by cases q : qP f.length <;> simp_all
 rw [c2, F16.r1_3, F16.r1_3_g, yC]
 simp only [jH, gW_ff]
 (refine long51 _ _ _ _ ?_; rintro _ rfl _)
 rw [F16.r1_4, F16.r1_4_g, yC, F16.t4, zJ, F16.v8]
 by_cases c3 : qP g.length = true
 ·rw [c3, zC, F16.t3, zA, F16.t2_s]
  refine awk _ _ _ ?_
  simp only [zQ, yG]
  rw [F16.ret]
  exact ret H0
 have hgl : g.length ≤ 100000 := longB_no (by cases q : qP g.length <;> simp_all)
 have c3 : qP g.length = false := by cases q : qP g.length <;> simp_all
 obtain ⟨hG1, hw⟩ := heavyB_no c1
 rw [c3, zE, zT, F16.t30, zA, F16.t6_s]
 refine same86 (by omega) (fun a ha => by have := hw a ha; omega) hfl hgl _ _ _ _ ?_
 rintro _ rfl _
 obtain ⟨sv, e, hsv, hsc⟩ : ∃ sv e, vF G f g = .tup [sv, I e] ∧ (sv = encZ ∨ ∃ a : Sym, sv = encS a) := by
  unfold vF
  split
  ·exact ⟨_, _, rfl, .inl rfl⟩
  ·split
   ·exact ⟨_, _, rfl, .inr ⟨_, rfl⟩⟩
   ·exact ⟨_, _, rfl, .inl rfl⟩
 obtain ⟨x1, x2, hx⟩ : ∃ x1 x2, sv = .agg [x1, x2] := by
  rcases hsc with rfl | ⟨a, rfl⟩
  ·exact ⟨_, _, rfl⟩
  ·exact ⟨_, _, rfl⟩
 subst hx
 rw [hsv, jA, jE]
 refine H0.alloc fun b4 h1 nx1 H1 => ?_
 refine H1.storeN (k := 0) (n := 2) rfl rfl rfl fun h2 H2 => ?_
 rw [F16.t29, zA, F16.t7_s, F16.r4_0, F16.r4_0_g]
 (refine fill57 (by omega) _ _ _ _ ?_; rintro _ rfl _)
 rw [F16.r4_1, F16.r4_1_g]
 (refine fill57 (by omega) _ _ _ _ ?_; rintro _ rfl _)
 rw [F16.r4_2, F16.r4_2_g, zG, zG, sNeq]
 (refine when37 _ _ _ _ _ _ ?_; rintro _ rfl _)
 rw [F16.r4_3, F16.r4_3_g]
 refine H2.bslice (l := [I (jF f), I (jF g), I (if (!decide ((f.length : Int) = (g.length : Int))) = true then 2 else 0)]) rfl fun tb h5 nx5 H5 => ?_
 rw [F16.r4_4, F16.r4_4_g]
 refine kV (l := [jF f, jF g, if (!decide ((f.length : Int) = (g.length : Int))) = true then 2 else 0]) H5 (k := 0) rfl (fun B => first41 (by simp)) (fun v hv => by rw [hv]; exact .int _ _) ?_
 rintro _ rfl
 have e1 : jV [jF f, jF g, if (!decide ((f.length : Int) = (g.length : Int))) = true then 2 else 0] = jV [jF f, jF g, if f.length = g.length then 0 else 2] := by
  by_cases c : f.length = g.length
  ·rw [if_pos c, decide_eq_true (by omega)]; rfl
  ·rw [if_neg c, decide_eq_false (by omega)]; rfl
 rw [e1, F16.r4_5, F16.r4_5_g]
 generalize hE : jV [jF f, jF g, if f.length = g.length then 0 else 2] = E1
 have hle : ∀ op : AV → OP, True := fun _ => trivial
 have rest : ∀ (x9 : AV) (bad : Int) h6 nx6, bad = wW G f g → Hp h h6 nx6 [.arr tb [I (jF f), I (jF g), I (if (!decide ((f.length : Int) = (g.length : Int))) = true then 2 else 0)], .arr b4 [x1, x2]] →
   IR.run F16.t27 (CS Tryz.prog B) 1000 (fnO F16.res K) (retK F16.res K) (F16.fr (encG G) (encI f) (encI g) (.bool false) (.ptr b4 0) (I e) (I bad) .undef (.bool false) x9 .undef .undef) h6 nx6 = .ok True := by
  rintro x9 bad h6 nx6 rfl H6
  rw [F16.t27, zA, F16.t16, zA, F16.t12_s, sNeq, F16.t15, zJ, F16.v10]
  by_cases c4 : wW G f g = 0
  case neg =>
   rw [decide_eq_false c4, Bool.not_false, zC, F16.t14, zA, F16.t13_s, H6.loadN (k := 1) (n := 2) rfl rfl, H6.loadN (k := 1) (n := 2) rfl rfl]
   rw [vF, if_pos c4] at hsv
   cases hsv
   refine sym_bad c4 _ _ _ _ ?_
   rintro _ rfl _
   simp only [zQ, yG]
   rw [F16.ret]
   exact ret H6
  rw [decide_eq_true c4, Bool.not_true, zE, zT, F16.t26, zA, F16.t17_s]
  have hE0 : E1 = 0 ∧ yT G f.length = 0 := by
   unfold wW at c4; simp only [hE] at c4
   by_cases q : E1 = 0
   ·rw [if_neg (by simp [q])] at c4; exact ⟨q, c4⟩
   ·rw [if_pos q] at c4; exact absurd c4 q
  obtain ⟨rfl, hg0⟩ := hE0
  have hfe := xE hE
  obtain ⟨hf1, hf2⟩ := fillE_rng (hfe (jF f) (by simp))
  obtain ⟨n', hn', ok⟩ := pV hg0
  obtain rfl : f.length = n' := by omega
  refine same87 (by omega) (by omega) (fun a ha => ⟨(ok.dp a ha).perm, (ok.dp a ha).1.1⟩) (fun x hx => by have := hf2 x hx; omega) _ _ _ _ ?_
  rintro _ rfl _
  rw [F16.t25, zA, F16.t22, zA, F16.t18_s, sLss, F16.t21, zJ, F16.v11]
  rcases findI_spec (p := vN f g) G 0 with ⟨q1, q2⟩ | ⟨k, a, q1, q2, q3⟩
  ·rw [q2, decide_eq_true (by decide), zC, F16.t20, zA, F16.t19_s, H6.loadN (k := 1) (n := 2) rfl rfl, H6.loadN (k := 1) (n := 2) rfl rfl]
   rw [vF, if_neg (by simp [c4]), q1] at hsv
   cases hsv
   refine sym_bad (e := 7) (by decide) _ _ _ _ ?_
   rintro _ rfl _
   simp only [zQ, yG]
   rw [F16.ret]
   exact ret H6
  ·rw [q3, decide_eq_false (by omega), zE, zT, F16.t24, zA, F16.t23_s, H6.loadN (k := 1) (n := 2) rfl rfl]
   have hk := (List.getElem?_eq_some_iff.1 q1).1
   have hka : G[k] = a := by rw [List.getElem?_eq_getElem hk] at q1; exact Option.some.inj q1
   rw [sIxL (i := k) (by omega) hk, jC hk, uV, hka]
   rw [vF, if_neg (by simp [c4]), q2] at hsv
   cases hsv
   refine sym_ok (a := a) (by have := hw a (List.mem_of_getElem? q1); omega) _ _ _ _ ?_
   rintro _ rfl _
   simp only [zQ, yG]
   rw [F16.ret]
   exact ret H6
 have hsE : wW G f g = if E1 ≠ 0 then E1 else yT G f.length := by unfold wW; simp only [hE]
 rw [F16.t28, zA, F16.t11, zA, F16.t8_s, sEql, F16.t10, zJ, F16.v9]
 by_cases c4 : E1 = 0
 ·rw [decide_eq_true c4, zC, F16.t9_s, zG]
  refine refGroup110 (by omega) _ _ _ _ ?_
  rintro _ rfl _
  exact rest _ _ _ _ (by rw [hsE, if_neg (by simp [c4])]) H5
 ·rw [decide_eq_false c4, zE, zT]
  exact rest _ _ _ _ (by rw [hsE, if_pos c4]) H5
end Go.Ev
