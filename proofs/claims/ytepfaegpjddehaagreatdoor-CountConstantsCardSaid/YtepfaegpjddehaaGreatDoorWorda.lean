import Derived.Test.YtepfaegpjddehaaGreatDoorWords
import Derived.Test.YtepfaegpjddehaaGreatDoorCode
import Derived.Test.YtepfaegpjddehaaGreatDoorEvD
import Derived.KernelRfl
import Derived.IntWalk
set_option linter.unusedSimpArgs false
set_option linter.unusedVariables false
namespace Go.Ev
open Go Go.Proofs
variable {B : Nat}
def StarSt (x : AV) (X : Ob) (l : List Int) (v : Int) : Prop := (l = [v] ∧ ∃ p, x = .sl p 0 1 (some 1) 1 ∧ X = .arr p [I v]) ∨ ∃ o, x = rowV (some o) 1 l.length ∧ X = .gro (some o) 1 l.length (l.map I)
theorem StarSt.ok {x : AV} {X : Ob} {l : List Int} {v : Int} (h : StarSt x X l v) : RowOk (x, X, l) := by
 rcases h with ⟨rfl, p, rfl, rfl⟩ | ⟨o, rfl, rfl⟩
 ·exact .inl ⟨p, some 1, Nat.le_refl _, rfl, rfl⟩
 ·exact .inr ⟨some o, rfl, rfl⟩
theorem star_app {h0 h : T Blk} {nx : Pa} {J L : List Ob} {x xv : AV} {X : Ob} {l : List Int} {v y : Int} {bytes : Nat} {K : AV → T Blk → Pa → OP} (hs : StarSt x X l v) (H : Hp h0 h nx (J ++ X :: L)) (hx : ∀ (no : OP) (K' : List AV → Nat → OP), gX xv h no K' = K' [I y] 1) (hb : bytes * 1000000 ≤ 70368744177664) (hl : l.length + 1 ≤ 1000000)
  (hK : ∀ x' X' h' nx', StarSt x' X' (l ++ [y]) v → Hp h0 h' nx' (X' :: L) → K x' h' nx' = .ok True) : sApp 1 bytes x xv h nx K = .ok True := by
 have hk : (J ++ X :: L)[J.length]? = some X := by rw [List.getElem?_append_right (by omega), Nat.sub_self]; rfl
 rcases hs with ⟨rfl, p, rfl, rfl⟩ | ⟨o, rfl, rfl⟩
 ·refine H.appFull hk rfl hx rfl rfl hb (by omega) fun o' h' nx' H' => ?_
  refine hK _ _ _ _ (.inr ⟨o', rfl, rfl⟩) ?_
  have H'' : Hp h0 h' nx' (.gro (some o') 1 (1 + 1) ([I v] ++ [I y]) :: ((J ++ [.arr p [I v]]) ++ L)) := H'.cast (by simp)
  exact H''.dropMid
 ·refine H.appN hk hx rfl rfl (by decide) hb hl fun o' h' nx' ho H' => ?_
  obtain ⟨q, rfl⟩ : ∃ q, o' = some q := by
   cases o' with
   | none => exact (ho (.inl (by simp)) rfl).elim
   | some q => exact ⟨q, rfl⟩
  refine hK (rowV (some q) 1 (l.length + 1)) (.gro (some q) 1 (l.length + 1) (l.map I ++ [I y])) _ _ (.inr ⟨q, by simp, by simp⟩) ?_
  rw [List.set_append_right _ _ (by omega), Nat.sub_self, List.set_cons_zero] at H'
  exact Hp.dropL H'
theorem F116.star {N : Nat} {K0 : Kw Prop} {E0 E1 K : Ks Prop} {h0 h : T Blk} {nx : Pa} {L : List Ob} {x0 x2 x3 x4 x5 x8 x9 x10 x11 x12 x13 x17 x18 : AV} {bx p : Pa} {V : Int} {E : List (Int × Int)} {v k : Nat} (hN : 1000 < N) (hV : 0 ≤ V ∧ V ≤ 16) (hE : E.length ≤ 32) (hk : L[k]? = some (.arr bx [I V, encP E]))
  (H : Hp h0 h nx (.arr p [I (v : Int)] :: L))
  (hK : ∀ x X w8 w9 w17 w18 h' nx', StarSt x X (gU V E (v : Int) E.length) (v : Int) → Hp h0 h' nx' (X :: L) → K (F116.fr x0 (.ptr bx 0) x2 x3 x4 x5 (I (v : Int)) x w8 w9 x10 x11 x12 x13 (encP E) (I E.length) (I E.length) w17 w18) h' nx' = .ok True) :
  IR.run F116.b8 (CS Tryz.prog B) N (((fnO F116.res K0).blk 0 E0).blk 1 E1) K (F116.fr x0 (.ptr bx 0) x2 x3 x4 x5 (I (v : Int)) (.sl p 0 1 (some 1) 1) x8 x9 x10 x11 x12 x13 (encP E) (I E.length) (I 0) x17 x18) h nx = .ok True := by
 refine F116.L8 (fun m x7 x16 h' nx' => ∃ (j : Nat) (X : Ob), x16 = I j ∧ E.length - j = m ∧ j ≤ E.length ∧ StarSt x7 X (gU V E (v : Int) j) (v : Int) ∧ Hp h0 h' nx' (X :: L)) (m := E.length) (by omega) ⟨0, _, rfl, rfl, by omega, .inl ⟨by simp [gU], p, rfl, rfl⟩, H⟩ ?_
 rintro m z7 z8 z9 z16 z17 z18 h1 nx1 R ⟨j, X, rfl, rfl, hj, hs, H1⟩ hR
 simp only [sLss]
 by_cases hlt : j < E.length
 case neg =>
  simp only [show ¬ (j : Int) < (E.length : Int) by omega, decide_false, zA]
  obtain rfl : j = E.length := by omega
  exact hK _ _ _ _ _ _ _ _ hs H1
 simp only [show (j : Int) < (E.length : Int) by omega, decide_true, zC]
 have hss := starL_succ V E (v : Int) j
 have hsl := vA V E (v : Int) j
 rw [vT hlt] at hss
 rw [sIxL rfl hlt, jN hlt, vC]
 refine H1.alloc fun b h2 nx2 H2 => ?_
 refine H2.storeN (k := 0) (n := 2) rfl rfl rfl fun h3 H3 => ?_
 rw [sAx0, H3.load (k := 0) (i := 0) rfl rfl]
 simp only [sEql]
 have app : (E[j].1 = (v : Int) ∨ E[j].2 = (v : Int)) → ∀ w17 w18, (zG 0 (.ptr bx 0) fun v18 =>
   zD v18 h3 fun v19 =>
   sBin .add .int v19 (I (j : Int)) fun v20 =>
   yF 1 1 [(I 0)] [(0, 1, v20)] h3 nx2 fun v21 h22 n23 =>
   sApp 1 8 z7 v21 h22 n23 fun v24 h25 n26 =>
   sBin .add .int (I (j : Int)) (I 1) fun v27 =>
   R (F116.fr x0 (.ptr bx 0) x2 x3 x4 x5 (I (v : Int)) v24 (I (j : Int)) (.ptr b 0) x10 x11 x12 x13 (encP E) (I E.length) v27 w17 w18) h25 n26) = .ok True := by
  intro hc w17 w18
  rw [if_pos hc] at hss
  rw [sFx, H3.load (k := k + 2) (i := 0) hk rfl, sAdd (by omega)]
  refine H3.bslice (l := [I (V + (j : Int))]) rfl fun tb h4 nx4 H4 => ?_
  refine star_app (J := [_, _]) hs H4 (HasArr.rd (l := [I (V + (j : Int))]) (n := 1) (H4.own _ (List.mem_cons_self ..)) rfl) (by decide) (by omega) fun x' X' h5 nx5 hs' H5 => ?_
  rw [sAdd (by omega)]
  exact hR _ _ _ _ _ _ _ _ _ (by omega) ⟨j + 1, X', rfl, rfl, by omega, by rw [hss]; exact hs', H5⟩
 by_cases c1 : E[j].1 = (v : Int)
 ·simp only [c1, decide_true, yO, zI, zC]
  exact app (.inl c1) _ _
 simp only [c1, decide_false, yN]
 rw [sAx1, H3.load (k := 0) (i := 0 + 1) rfl rfl]
 simp only [sEql, zK]
 by_cases c2 : E[j].2 = (v : Int)
 ·simp only [c2, decide_true, zC]
  exact app (.inr c2) _ _
 simp only [c2, decide_false, zA]
 rw [if_neg (by simp [c1, c2])] at hss
 rw [sAdd (by omega)]
 exact hR _ _ _ _ _ _ _ _ _ (by omega) ⟨j + 1, X, rfl, rfl, by omega, by rw [hss]; exact hs, H3.drop⟩
theorem vertexMagic116 {V : Int} {E : List (Int × Int)} (hj : ∀ B, JOk Tryz.prog B kE) (hE : E.length ≤ 1000000) : Pure Tryz.prog B 116 [.agg [I V, encP E]] (· = if zY V E ≠ 0 then .tup [.agg [I 0, .nils], I (zY V E)] else .tup [sysV V E (gS V E V.toNat), I 0]) := by
 refine yX fun h nx K H0 hK => zP zT dreg 10000 fun hf => ?_
 rw [F116.go]
 refine H0.box (l := [I V, encP E]) rfl fun bx h1 nx1 H1 => ?_
 refine H1.alloc fun r h2 nx2 H2 => ?_
 rw [H2.loadN (k := 1) (n := 2) rfl rfl]
 refine dE hE _ _ _ _ ?_
 rintro _ rfl _
 simp only [sNeq]
 by_cases c : zY V E = 0
 case neg =>
  rw [if_pos c] at hK
  simp only [c, decide_false, Bool.not_false, zC]
  rw [sBuild0]
  refine H2.storeN (l2 := [I 0, .nils]) (k := 0) rfl rfl rfl fun h4 H4 => ?_
  rw [H4.loadN (k := 0) (n := 2) rfl rfl]
  exact hK _ _ _ _ _ H4 (jG (pL (by simp [fixd])) (zO rfl)) rfl
 obtain ⟨g1, g2, g3⟩ := qG c
 rw [if_neg (by simp [c])] at hK
 rw [c]
 simp only [decide_true, Bool.not_true, zA, sFx]
 rw [H2.load (k := 1) (i := 0) rfl rfl]
 refine F116.L2 (fun m x5 x12 h' nx' => ∃ (i : Nat) (T : List TRow) (o : Option Pa), x12 = I i ∧ x5 = rowV o 1 T.length ∧ V.toNat - i = m ∧ i ≤ V.toNat ∧ T.map (·.2.2) = gS V E i ∧ (∀ t ∈ T, RowOk t) ∧
  Hp h h' nx' (.gro o 1 T.length (T.map (·.1)) :: .arr r [I 0, .nils] :: .arr bx [I V, encP E] :: T.map (·.2.1))) (m := V.toNat) (by omega) ⟨0, [], none, rfl, rfl, rfl, by omega, rfl, by simp, H2.addGro 1⟩ ?_
 rintro m z5 z6 z7 z8 z9 z12 z13 z14 z15 z16 z17 z18 h4 nx4 R ⟨i, T, o, rfl, rfl, rfl, hi, hTl, hT, H4⟩ hR
 have hTn : T.length = i := by have := congrArg List.length hTl; simpa [gS] using this
 simp only [sLss]
 by_cases hlt : i < V.toNat
 case neg =>
  simp only [show ¬ (i : Int) < V by omega, decide_false, zA]
  obtain rfl : i = V.toNat := by omega
  rw [F116.k17, sFx, H4.load (k := 2) (i := 0) rfl rfl, sFx, H4.load (k := 2) (i := 0 + 1) rfl rfl]
  simp only [zF]
  rw [sAdd (by omega)]
  have H5 : Hp h h4 nx4 ((.gro o 1 T.length (T.map (·.1)) :: T.map (·.2.1)) ++ [.arr r [I 0, .nils], .arr bx [I V, encP E]]) := H4.perm ((List.perm_append_comm (l₁ := [_, _])).cons _)
  refine collectO hj (by rw [hTl]; exact (wL c).1) hT H5 fun h5 H6 => ?_
  rw [hTl]
  refine H6.storeN (l2 := [I (V + (E.length : Int)), encT (gS V E V.toNat)]) (k := 0) rfl rfl rfl fun h6 H7 => ?_
  rw [H7.loadN (k := 0) (n := 2) rfl rfl]
  exact hK _ _ _ _ _ H7 (jG (pL fixd_sys) (zO rfl)) rfl
 simp only [show (i : Int) < V by omega, decide_true, zC]
 refine H4.bslice (l := [I (i : Int)]) rfl fun p h5 nx5 H5 => ?_
 simp only [sFx]
 rw [H5.load (k := 3) (i := 0 + 1) rfl rfl]
 simp only [zF]
 refine F116.star (k := 2) (by omega) (by omega) (by omega) rfl H5 fun x X w8 w9 w17 w18 h6 nx6 hs H6 => ?_
 have hro := hs.ok
 rw [F116.k15]
 refine H6.bslice (l := [x]) (fillCell hro.cells) fun tb h7 nx7 H7 => ?_
 refine H7.appN (k := 2) (o := o) (c := 1) (new := [x]) rfl (HasArr.rd (l := [x]) (n := 1) (H7.own _ (List.mem_cons_self ..)) rfl) rfl (by simp [show scal x = true from hro.scal]) (by decide) (by decide) (by omega) fun o' h8 nx8 _ H8 => ?_
 rw [F116.k16, sAdd (by omega)]
 refine hR _ _ _ _ _ _ _ _ _ _ _ _ _ _ _ (by omega) ⟨i + 1, T ++ [(x, X, gU V E (i : Int) E.length)], o', rfl, by rw [List.length_append]; rfl, rfl, by omega, ?_, ?_, ?_⟩
 ·rw [List.map_append, hTl, vertL_succ]; rfl
 ·intro t ht
  rcases List.mem_append.1 ht with q | q
  ·exact hT t q
  ·rw [List.mem_singleton.1 q]; exact hro
 ·rw [List.length_append, List.map_append, List.map_append]
  have H10 : Hp h h8 nx8 (X :: (.gro o' 1 (T.length + 1) (T.map (·.1) ++ [x]) :: .arr r [I 0, .nils] :: .arr bx [I V, encP E] :: T.map (·.2.1))) := H8.drop
  exact H10.perm (List.perm_append_singleton _ _).symm
theorem with117 {h0 h : T Blk} {nx p : Pa} {L : List Ob} {o : Option Pa} {T : List TRow} {t : TRow} {K : Kw Prop} (hT : ∀ q ∈ T, RowOk q ∧ q.2.2.length ≤ 1000) (hTl : T.length ≤ 1000) (ht : RowOk t) (hasc : t.2.2.Pairwise (· < ·)) (hne : t.2.2 ≠ []) (hl : t.2.2.length ≤ 1000) (hnew : t.2.2 ∉ T.map (·.2.2))
  (H : Hp h0 h nx (.gro o 1 T.length (T.map (·.1)) :: t.2.1 :: (T.map (·.2.1) ++ L)))
  (hK : ∀ o' t' h' nx', RowOk t' → t'.2.2 = t.2.2 → Hp h0 h' nx' (.gro o' 1 (T.length + 1) (T.map (·.1) ++ [t'.1]) :: t'.2.1 :: (T.map (·.2.1) ++ L)) → K (rowV o' 1 (T.length + 1)) h' nx' = .ok True) :
  (CS Tryz.prog B).fn 117 p [rowV o 1 T.length, t.1] h nx K = .ok True := by
 obtain ⟨x, X, l⟩ := t
 dsimp only at hasc hne hl hnew H hK ⊢
 have hpos := List.length_pos_iff.2 hne
 refine yS (p := .of 117) (K := K) (zP zT dreg 10000 fun hf => ?_) fun _ _ _ _ q => q
 rw [F117.go]
 refine H.copyArrO (new := l.map I) (c := l.length) (fun e h1 n1 H1 => ht.rd H1 (by simp)) (by simp) (scal_I l) (by decide) (by omega) fun id cap h1 nx1 hcap H1 => ?_
 refine F117.L1 (fun m x4 h' nx' => ∃ i : Nat, x4 = I i ∧ 1 ≤ i ∧ l.length - i = m ∧ i ≤ l.length ∧ h' = h1 ∧ nx' = nx1) (m := l.length - 1) (by omega) ⟨1, rfl, by omega, rfl, by omega, rfl, rfl⟩ ?_
 rintro m z4 z5 z6 z7 h1 nx1 R ⟨i, rfl, hi1, rfl, hi, rfl, rfl⟩ hR
 simp only [zS, sLss]
 by_cases hlt : i < l.length
 ·simp only [show (i : Int) < (l.length : Int) by omega, decide_true, zC]
  have g1 : (l.map I)[i]? = some (I l[i]) := by rw [List.getElem?_map, List.getElem?_eq_getElem hlt]; rfl
  have g0 : (l.map I)[i - 1]? = some (I l[i - 1]) := by rw [List.getElem?_map, List.getElem?_eq_getElem (show i - 1 < l.length by omega)]; rfl
  have hle : l[i - 1] < l[i] := List.pairwise_iff_getElem.1 hasc (i - 1) i (by omega) hlt (by omega)
  refine F117.L7 (fun m x5 h' nx' => x5 = I (i : Int) ∧ h' = h1 ∧ nx' = nx1) (m := 0) (by omega) ⟨rfl, rfl, rfl⟩ ?_
  rintro m y5 y7 h1 nx1 R2 ⟨rfl, rfl, rfl⟩ hR2
  simp only [sGtr, show (0 : Int) < (i : Int) by omega, decide_true, yJ]
  rw [sIx (i := i) rfl hlt, H1.load (k := 0) rfl g1, sSub (by omega), sIx (i := i - 1) (by omega) (by omega), H1.load (k := 0) rfl g0]
  simp only [sLss, zI, show ¬ l[i] < l[i - 1] by omega, decide_false, zA]
  rw [F117.k14, sAdd (by omega)]
  exact hR _ _ _ _ _ _ _ (by omega) ⟨i + 1, rfl, by omega, rfl, by omega, rfl, rfl⟩
 ·simp only [show ¬ (i : Int) < (l.length : Int) by omega, decide_false, zA]
  rw [F117.k15]
  have hmem : ∀ q ∈ T, q.2.1 ∈ (.arr id (l.map I) :: .gro o 1 T.length (T.map (·.1)) :: X :: (T.map (·.2.1) ++ L)) := fun q hq => by
   have : q.2.1 ∈ T.map (·.2.1) := List.mem_map_of_mem hq
   simp only [List.mem_cons, List.mem_append]
   exact .inr (.inr (.inr (.inl this)))
  have f1 := tabFrz H1.base (k := 1) rfl fun q hq => ⟨(hT q hq).1, hmem q hq⟩
  have f2 := H1.base.frzArr (k := 0) (e := 1) (n := l.length) (cap := cap) rfl hcap (by simp) (fixd_Is l)
  refine xX (args' := [encT (T.map (·.2.2)), encI l]) (Q := (· = .bool (decide (l ∈ T.map (·.2.2))))) (.cons f1 (.cons f2 .nil)) ?_ (fun B => hasLine84 (by simp; omega) fun q hq => by obtain ⟨t, ht', rfl⟩ := List.mem_map.1 hq; have := (hT t ht').2; omega) (fun v hv => by rw [hv]; exact .bool _) fun v hv _ => ?_
  ·simp only [nns, fixd.nn (kS l), fixd.nn (vO _), Bool.and_self]
  subst hv
  rw [decide_eq_false hnew, zA]
  refine H1.bslice (l := [.sl id 0 l.length cap 1]) rfl fun tb h2 nx2 H2 => ?_
  refine H2.appN (k := 2) (o := o) (c := 1) (new := [.sl id 0 l.length cap 1]) rfl (HasArr.rd (l := [.sl id 0 l.length cap 1]) (n := 1) (H2.own _ (List.mem_cons_self ..)) rfl) rfl rfl (by decide) (by decide) (by omega) fun o' h3 nx3 _ H3 => ?_
  refine hK o' (.sl id 0 l.length cap 1, .arr id (l.map I), l) h3 nx3 (.inl ⟨id, cap, hcap, rfl, rfl⟩) rfl ?_
  have H4 : Hp h0 h3 nx3 (.arr id (l.map I) :: .gro o' 1 (T.length + 1) (T.map (·.1) ++ [.sl id 0 l.length cap 1]) :: X :: (T.map (·.2.1) ++ L)) := H3.drop
  exact ((H4.perm (List.Perm.swap _ _ _)).perm (((List.Perm.swap _ _ _).cons _).trans (List.Perm.swap _ _ _))).drop
theorem sBuild2s {x : Int} {v : AV} {K : AV → OP} (h : v.cells = some [v]) : gB [(I 0), .nils] [(0, 1, I x), (1, 1, v)] K = K (.agg [I x, v]) := by
 have e : jK [(I 0), AV.nils] [(0, 1, I x), (1, 1, v)] = some [I x, v] := by simp only [jK, h]; rfl
 show (match jK [(I 0), AV.nils] [(0, 1, I x), (1, 1, v)] with
  | some l => K (.agg l)
  | none => Out.no 2) = _
 rw [e]
theorem frz_sys {h0 h : T Blk} {x : Int} {v : AV} {ls : List (List Int)} (hF : FrzN h0 h v (encT ls)) : FrzN h0 h (.agg [I x, v]) (.agg [I x, encT ls]) :=
 Frz.agg _ _ rfl rfl fun j v v' h1 h2 => match j, h1, h2 with
  | 0, h1, h2 => by cases h1; cases h2; exact zO rfl
  | 1, h1, h2 => by cases h1; cases h2; exact hF
  | j + 2, h1, h2 => by simp at h1
theorem refEdge69 {V : Int} {E : List (Int × Int)} (hg : zY V E = 0) : Pure Tryz.prog B 69 [.agg [I V, encP E]] (· = if E.length = 0 then .tup [.agg [I 0, .nils], I 12] else .tup [sysV V E (gO V E E.length), I 0]) := by
 obtain ⟨g1, g2, g3⟩ := qG hg
 obtain ⟨lo, lr⟩ := wW hg
 refine yX fun h nx K H0 hK => zP zT dreg 10000 fun hf => ?_
 rw [F69.go]
 refine H0.box (l := [I V, encP E]) rfl fun bx h1 nx1 H1 => ?_
 refine H1.alloc fun r h2 nx2 H2 => ?_
 simp only [sFx]
 rw [H2.load (k := 1) (i := 0 + 1) rfl rfl]
 simp only [zF, sEql]
 by_cases c : E.length = 0
 ·rw [if_pos c] at hK
  simp only [show (E.length : Int) = 0 by omega, decide_true, zC]
  rw [sBuild0]
  refine H2.storeN (l2 := [I 0, .nils]) (k := 0) rfl rfl rfl fun h4 H4 => ?_
  rw [H4.loadN (k := 0) (n := 2) rfl rfl]
  exact hK _ _ _ _ _ H4 (jG (pL (by simp [fixd])) (zO rfl)) rfl
 rw [if_neg c] at hK
 simp only [show ¬ (E.length : Int) = 0 by omega, decide_false, zA]
 refine F69.L2 (fun m x4 x5 h' nx' => ∃ (i : Nat) (T : List TRow) (o : Option Pa), x5 = I i ∧ x4 = rowV o 1 T.length ∧ E.length - i = m ∧ i ≤ E.length ∧ T.map (·.2.2) = gO V E i ∧ (∀ t ∈ T, RowOk t) ∧
  Hp h h' nx' (.gro o 1 T.length (T.map (·.1)) :: (T.map (·.2.1) ++ [Ob.arr r [I 0, .nils], Ob.arr bx [I V, encP E]]))) (m := E.length) (by omega) ⟨0, [], none, rfl, rfl, rfl, by omega, rfl, by simp, H2.addGro 1⟩ ?_
 rintro m z4 z5 z7 h4 nx4 R ⟨i, T, o, rfl, rfl, rfl, hi, hTl, hT, H4⟩ hR
 have hTn : T.length = i := by have := congrArg List.length hTl; simpa [gO] using this
 have kb : (Ob.gro o 1 T.length (T.map (·.1)) :: (T.map (·.2.1) ++ [Ob.arr r [I 0, .nils], Ob.arr bx [I V, encP E]]))[T.length + 2]? = some (.arr bx [I V, encP E]) := by
  rw [List.getElem?_cons_succ, List.getElem?_append_right (by simp), List.length_map, show T.length + 1 - T.length = 1 by omega]; rfl
 simp only [sFx]
 rw [H4.load (k := T.length + 2) (i := 0 + 1) kb rfl]
 simp only [zF, sLss]
 by_cases hlt : i < E.length
 case neg =>
  simp only [show ¬ (i : Int) < (E.length : Int) by omega, decide_false, zA]
  obtain rfl : i = E.length := by omega
  rw [F69.k9]
  simp only [sFx]
  rw [H4.load (k := T.length + 2) (i := 0) kb rfl, H4.load (k := T.length + 2) (i := 0 + 1) kb rfl]
  simp only [zF]
  rw [sAdd (by omega), sBuild2s (gV _ _ _)]
  have kr : (Ob.gro o 1 T.length (T.map (·.1)) :: (T.map (·.2.1) ++ [Ob.arr r [I 0, .nils], Ob.arr bx [I V, encP E]]))[T.length + 1]? = some (.arr r [I 0, .nils]) := by
   rw [List.getElem?_cons_succ, List.getElem?_append_right (by simp), List.length_map, Nat.sub_self]; rfl
  refine H4.storeN (l2 := [I (V + (E.length : Int)), rowV o 1 T.length]) (k := T.length + 1) kr rfl rfl fun h6 H6 => ?_
  rw [H6.loadN (k := T.length + 1) (n := 2) (List.getElem?_set_self (by simp)) rfl]
  have hF : FrzN h h6 (rowV o 1 T.length) (encT (gO V E E.length)) := by
   rw [← hTl]
   refine tabFrz H6 (k := 0) (by simp) fun t ht => ⟨hT t ht, ?_⟩
   have : t.2.1 ∈ T.map (·.2.1) := List.mem_map_of_mem ht
   rw [List.set_cons_succ, List.set_append_right _ _ (by simp)]
   exact List.mem_cons_of_mem _ (List.mem_append_left _ this)
  refine hK _ _ _ _ _ H6 (jG (frz_sys hF) (zO rfl)) rfl
 simp only [show (i : Int) < (E.length : Int) by omega, decide_true, zC]
 obtain ⟨⟨a1, a2, a3, a4⟩, a5⟩ := g3 _ (List.getElem_mem hlt)
 rw [H4.load (k := T.length + 2) (i := 0 + 1) kb rfl, sIxL rfl hlt, jN hlt, sAxF0, q9, H4.load (k := T.length + 2) (i := 0 + 1) kb rfl, sIxL rfl hlt, jN hlt, sAxF1, q9, H4.load (k := T.length + 2) (i := 0) kb rfl, sAdd (by omega)]
 refine H4.bslice (l := [I E[i].1, I E[i].2, I (V + (i : Int))]) rfl fun p h7 nx7 H7 => ?_
 simp only [zB]
 have hin : [E[i].1, E[i].2, V + (i : Int)] ∈ gO V E E.length := by
  rw [← vT hlt]; exact List.mem_map.2 ⟨i, List.mem_range.2 hlt, rfl⟩
 obtain ⟨b1, b2, b3, b4⟩ := lo.asc _ hin
 refine with117 (t := (.sl p 0 3 (some 3) 1, .arr p [I E[i].1, I E[i].2, I (V + (i : Int))], [E[i].1, E[i].2, V + (i : Int)])) (fun q hq => ⟨hT q hq, ?_⟩) (by omega) (.inl ⟨p, some 3, Nat.le_refl _, rfl, rfl⟩) b2 b1 b4 ?_ (H7.perm (List.Perm.swap _ _ _)) fun o' t' h8 nx8 ht' hl' H8 => ?_
 ·have : q.2.2 ∈ T.map (·.2.2) := List.mem_map_of_mem hq
  rw [hTl] at this
  obtain ⟨j, hj, e⟩ := List.mem_map.1 this
  rw [← e]; simp
 ·rw [hTl]
  intro hm
  obtain ⟨j, hj, e⟩ := List.mem_map.1 hm
  have := List.mem_range.1 hj
  simp only [List.cons.injEq, and_true] at e
  omega
 rw [sAdd (by omega)]
 refine hR _ _ _ _ _ _ (by omega) ⟨i + 1, T ++ [t'], o', rfl, by rw [List.length_append]; rfl, rfl, by omega, ?_, ?_, ?_⟩
 ·rw [List.map_append, hTl, edgeL_succ, vT hlt]
  simp [hl']
 ·intro t ht
  rcases List.mem_append.1 ht with q | q
  ·exact hT t q
  ·rw [List.mem_singleton.1 q]; exact ht'
 ·rw [List.length_append, List.map_append, List.map_append, List.append_assoc]
  exact H8.perm ((List.perm_middle (l₁ := T.map (·.2.1))).symm.cons _)
end Go.Ev
namespace Go.Ev
open Go Go.Proofs
variable {B : Nat}
abbrev encTT (lll : List (List (List Int))) : AV := .lst 1 lll.length (lll.map encT)
def enP (lines : List (List Int)) (i c : Nat) : List (List Int) := (lines.take i).filter fun l => decide (l.getLastD 0 = (c : Int))
def endS (n : Nat) (lines : List (List Int)) : List (List (List Int)) := (List.range n).map fun (c : Nat) => lines.filter fun l => decide (l.getLastD 0 = (c : Int))
noncomputable abbrev Le (on bx : Pa) (cells : Nat) (lines : List (List Int)) (o : Nat → Option Pa) (D : Nat → List (List Int)) : List Ob :=
 .arr on (rowL cells fun c => rowV (o c) 1 (D c).length) :: .arr bx [I cells, encT lines] :: rowL cells (fun c => Ob.gro (o c) 1 (D c).length ((D c).map encI))
theorem Le_get {on bx : Pa} {cells c : Nat} {lines : List (List Int)} {o : Nat → Option Pa} {D : Nat → List (List Int)} (hc : c < cells) : (Le on bx cells lines o D)[c + 2]? = some (.gro (o c) 1 (D c).length ((D c).map encI)) := by
 show (rowL cells _)[c]? = _
 rw [uK hc]
theorem m7 {l : List Int} (h : 0 < l.length) : l[l.length - 1]? = some (l.getLastD 0) := by
 rw [List.getLastD_eq_getLast?, List.getLast?_eq_getElem?, List.getElem?_eq_getElem (by omega)]; rfl
theorem last_mem' : ∀ {l : List Int}, l ≠ [] → l.getLastD 0 ∈ l
 | [], h => absurd rfl h
 | a :: l, _ => by rw [List.getLastD_cons]; cases l <;> simp [List.getLastD]
theorem ended137 {cells : Nat} {lines : List (List Int)} (hcl : cells ≤ 1000) (hn : lines.length ≤ 1000) (hl : ∀ l ∈ lines, AscL cells l ∧ l.length ≤ 1000) : Pure Tryz.prog B 137 [.agg [I cells, encT lines]] (· = encTT (endS cells lines)) := by
 refine yX fun h nx K H0 hK => zP zT dreg 10000000 fun hf => ?_
 rw [F137.go]
 refine H0.box (l := [I cells, encT lines]) rfl fun bx h1 nx1 H1 => ?_
 rw [sFx, H1.load (k := 0) (i := 0) rfl rfl]
 refine H1.mk1 cells rfl rfl (by omega) (by decide) fun on h2 nx2 H2 => ?_
 rw [sFx, H2.load (k := 1) (i := 0 + 1) rfl rfl]
 simp only [zF]
 refine F137.L1 (fun m z8 h' nx' => ∃ (i : Nat) (o : Nat → Option Pa), z8 = I i ∧ lines.length - i = m ∧ i ≤ lines.length ∧ Hp h h' nx' (Le on bx cells lines o (enP lines i))) (m := lines.length) (by omega) ⟨0, fun _ => none, rfl, rfl, by omega, ?_⟩ ?_
 ·have H3 := (H2.addE (E := rowL cells fun _ => Ob.gro none 1 0 []) fun x hx => by
   obtain ⟨j, _, rfl⟩ := rowL_mem hx
   exact ⟨rfl, fun _ => ⟨rfl, rfl⟩⟩).perm List.perm_append_comm
  refine H3.cast ?_
  rw [rowL_const]; rfl
 rintro m z4 z5 z8 z9 h3 nx3 R ⟨i, o, rfl, rfl, hi, H3⟩ hR
 simp (disch := omega) only [sAdd, sSub, sMul, sEql, sNeq, sLss, sLeq, sGtr, sGeq, zI, zK, zC, zA, yJ, yN, yO, yP, zV, yE, yB, yU, yI, yH, yG, zF, zS, zJ, zB, decide_true, decide_false, Bool.not_true, Bool.not_false, yA]
 by_cases hlt : i < lines.length
 case neg =>
  simp only [show ¬ (i : Int) < (lines.length : Int) by omega, decide_false, zA]
  obtain rfl : i = lines.length := by omega
  rw [F137.k8]
  have hD : ∀ c, enP lines lines.length c = lines.filter fun l => decide (l.getLastD 0 = (c : Int)) := fun c => by rw [enP, List.take_length]
  refine hK _ _ _ _ (encTT (endS cells lines)) H3 ?_ rfl
  have harr := H3.own (.arr on (rowL cells fun c => rowV (o c) 1 (enP lines lines.length c).length)) (by simp)
  have := HasArr.frzE (N := fun id => T.get Blk.no id h = .no) (O := fun v => (∃ id off, v = .ptr id off ∧ T.get Blk.no id h ≠ .no) ∨ (∃ id, v = .yld id ∧ T.get Blk.no id h ≠ .no) ∨ (∃ id, v = .map id ∧ T.get Blk.no id h ≠ .no) ∨ (∃ id off ln cap esz, v = .sl id off ln cap esz ∧ T.get Blk.no id h ≠ .no)) (cap := some cells) (e := 1) (n := cells) (l' := (endS cells lines).map encT) harr (H3.off on (by simp [Ob.names])) (Nat.le_refl _) (by simp [rowL]) (by simp [rowL, endS]) (by simp [List.all_eq_true, scal]) (fun c v v' h1 h2 => by
   have hc : c < cells := by
    have := (List.getElem?_eq_some_iff.1 h1).1
    simpa [rowL] using this
   rw [uK hc] at h1
   rw [endS, List.map_map, List.getElem?_map, List.getElem?_range hc] at h2
   have h1 := Option.some.inj h1
   have h2 := Option.some.inj h2
   subst h1 h2
   have := H3.frzGro (k := c + 2) (Le_get hc) (by intro v hv; obtain ⟨x, _, rfl⟩ := List.mem_map.1 hv; exact kS x)
   rw [hD c] at this ⊢
   exact this)
  have hlen : (endS cells lines).length = cells := by simp [endS]
  show Frz True _ _ _ _ (.lst 1 (endS cells lines).length ((endS cells lines).map encT))
  rw [hlen]
  exact this
 simp only [show (i : Int) < (lines.length : Int) by omega, decide_true, zC]
 obtain ⟨l, hx⟩ : ∃ l, lines[i]? = some l := ⟨_, List.getElem?_eq_getElem hlt⟩
 obtain ⟨ha, hlw⟩ := hl l (List.mem_of_getElem? hx)
 have hpos : 0 < l.length := List.length_pos_iff.2 ha.1
 obtain ⟨q1, q2⟩ := ha.2.2 _ (last_mem' ha.1)
 obtain ⟨c, hce⟩ : ∃ c : Nat, l.getLastD 0 = c := ⟨(l.getLastD 0).toNat, by omega⟩
 have hc : c < cells := by omega
 rw [sIxL rfl hlt, ldL (getT hx)]
 simp (disch := omega) only [sAdd, sSub, sMul, sEql, sNeq, sLss, sLeq, sGtr, sGeq, zI, zK, zC, zA, yJ, yN, yO, yP, zV, yE, yB, yU, yI, yH, yG, zF, zS, zJ, zB, decide_true, decide_false, Bool.not_true, Bool.not_false, yA]
 rw [sIxL (i := l.length - 1) (by omega) (by omega), ldL (getI (m7 hpos)), hce, sIx (i := c) rfl hc, H3.load (k := 0) rfl (uK hc)]
 refine H3.bslice (l := [encI l]) rfl fun t h4 nx4 H4 => ?_
 refine H4.appN (k := c + 3) (o := o c) (c := 1) (new := [encI l]) (by exact Le_get (on := on) (bx := bx) (lines := lines) hc) (HasArr.rd (l := [encI l]) (n := 1) (H4.own _ (List.mem_cons_self ..)) rfl) rfl rfl (by decide) (by decide) ?_ fun o' h5 nx5 _ H5 => ?_
 ·have : (enP lines i c).length ≤ 1000 := by
   refine Nat.le_trans (List.length_filter_le _ _) ?_
   rw [List.length_take]; omega
  omega
 rw [sIx (i := c) rfl hc]
 refine H5.store (k := 1) rfl (by simpa using hc) (gV _ _ _) fun h6 H6 => ?_
 try rw [sAdd (by omega)]
 refine hR (lines.length - (i + 1)) _ _ _ _ _ _ (by omega) ⟨i + 1, fun p => if p = c then o' else o p, rfl, rfl, by omega, H6.drop.cast ?_⟩
 have hD : ∀ p : Nat, enP lines (i + 1) p = if p = c then enP lines i c ++ [l] else enP lines i p := fun p => by
  rw [enP, List.take_add_one, hx, List.filter_append]
  show enP lines i p ++ List.filter _ [l] = _
  rw [List.filter_cons, hce]
  by_cases e : p = c
  ·subst e; simp
  ·have : ¬ (c : Int) = (p : Int) := by omega
   simp [this, e]
 rw [show enP lines (i + 1) = _ from funext hD]
 simp only [Le, List.set_cons_succ, List.set_cons_zero, List.tail_cons]
 rw [pB, pB]
 congr 1
 ·congr 1
  refine wO fun p _ => ?_
  by_cases e : p = c
  ·subst e; simp
  ·simp [e]
 ·congr 1
  refine wO fun p _ => ?_
  by_cases e : p = c
  ·subst e; simp
  ·simp [e]
end Go.Ev
namespace Go.Ev
def yT (l f : List Int) : Int := (l.map fun c => f.getD c.toNat 0).sum
def okAt (lines : List (List Int)) (s : Int) (k : Nat) (f : List Int) : Bool := (lines.filter fun l => decide (l.getLastD 0 = (k : Int))).all fun l => decide (yT l f = s)
def j8 (lines : List (List Int)) (s : Int) (n : Nat) : Nat → List Int → List (List Int)
 | 0, pre => [pre]
 | r + 1, pre => (upTo n).flatMap fun x => if x ∈ pre then [] else if okAt lines s pre.length (pre ++ [x]) then j8 lines s n r (pre ++ [x]) else []
theorem mG : ∀ {l f : List Int} {m : Nat}, (∀ c ∈ l, c.toNat < m) → yT l (f.take m) = yT l f
 | [], _, _, _ => rfl
 | c :: l, f, m, h => by
  have ih := mG (f := f) (m := m) (l := l) fun x hx => h x (by simp [hx])
  unfold yT at ih ⊢
  rw [List.map_cons, List.map_cons, List.sum_cons, List.sum_cons, ih]
  have hc := h c (by simp)
  rw [List.getD_eq_getElem?_getD, List.getD_eq_getElem?_getD, List.getElem?_take, if_pos hc]
theorem lsum_snoc (l : List Int) (c : Int) (f : List Int) : yT (l ++ [c]) f = yT l f + f.getD c.toNat 0 := by simp [yT]
theorem bM {f : List Int} {M : Nat} (h : ∀ v ∈ f, 0 ≤ v ∧ v ≤ (M : Int)) : ∀ l : List Int, 0 ≤ yT l f ∧ yT l f ≤ ((l.length * M : Nat) : Int)
 | [] => by simp [yT]
 | c :: l => by
  have ih := bM h l
  unfold yT at ih ⊢
  rw [List.map_cons, List.sum_cons, List.length_cons, Nat.add_mul]
  have : 0 ≤ f.getD c.toNat 0 ∧ f.getD c.toNat 0 ≤ (M : Int) := by
   rw [List.getD_eq_getElem?_getD]
   cases e : f[c.toNat]? with
   | none => simp
   | some v => exact h v (List.mem_of_getElem? e)
  omega
theorem xO : ∀ {l : List Int}, l.Pairwise (· < ·) → ∀ c ∈ l, c ≤ l.getLastD 0
 | [], _, c, h => by simp at h
 | [a], _, c, h => by simp at h; subst h; simp
 | a :: b :: l, hp, c, h => by
  have ih := xO (l := b :: l) (List.pairwise_cons.1 hp).2
  have e : (a :: b :: l).getLastD 0 = (b :: l).getLastD 0 := by simp [List.getLastD]
  rw [e]
  rcases List.mem_cons.1 h with q | q
  ·subst q
   have := (List.pairwise_cons.1 hp).1 b (by simp)
   have := ih b (by simp)
   omega
  ·exact ih c q
section
variable {σ α : Type}
def uA (stp : σ → α → σ × Bool) : σ → List α → σ × Bool
 | s, [] => (s, true)
 | s, x :: l => if (stp s x).2 then uA stp (stp s x).1 l else ((stp s x).1, false)
theorem foldE_app (stp : σ → α → σ × Bool) : ∀ (a b : List α) (s : σ), uA stp s (a ++ b) = if (uA stp s a).2 then uA stp (uA stp s a).1 b else uA stp s a
 | [], b, s => rfl
 | x :: a, b, s => by
  rw [List.cons_append, uA, uA]
  cases c : (stp s x).2 with
  | true => rw [if_pos rfl, if_pos rfl]; exact foldE_app stp a b _
  | false => simp
end
theorem upTo_drop {n x : Nat} (h1 : 1 ≤ x) (h2 : x ≤ n) : (upTo n).drop (x - 1) = (x : Int) :: (upTo n).drop x := by
 have hl : (upTo n).length = n := by simp
 rw [List.drop_eq_getElem_cons (by omega), show x - 1 + 1 = x by omega]
 congr 1
 simp [upTo]; omega
end Go.Ev
namespace Go.Ev
open Go Go.Proofs
variable {B : Nat}
theorem sLoad_fp1' {h : T Blk} (a : AV) (l : List AV) (K : AV → OP) : zD (.fp (a :: l)) h K = K a := nr rfl
theorem vD {k : Nat} {l : List AV} {K : AV → OP} : zG k (.fp l) K = K (.fp (l.drop k)) := nr rfl
theorem dL {a b : AV} {l : List AV} {h : T Blk} {K : AV → OP} : zL 2 (.fp (a :: b :: l)) h K = K (.agg [a, b]) := nr rfl
theorem sEqlW {a b : Nat} {K : AV → OP} : sBin .eql .int (.int .u64 (a : Int)) (.int .u64 (b : Int)) K = K (.bool (decide ((a : Int) = (b : Int)))) := by
 have e : sBin .eql .int (.int .u64 (a : Int)) (.int .u64 (b : Int)) K = K (.bool (ieq (a : Int) (b : Int))) := rfl
 rw [e, u5]
 congr 2
theorem wrapI (z : Int) : IntKind.wrap .i64 z = if z % 18446744073709551616 ≥ 9223372036854775808 then z % 18446744073709551616 - 18446744073709551616 else z % 18446744073709551616 := by
 unfold IntKind.wrap
 simp [IntKind.bits, IntKind.signed]
theorem wrap_sub (a b : Int) : IntKind.wrap .i64 (IntKind.wrap .i64 a - b) = IntKind.wrap .i64 (a - b) := by
 rw [wrapI, wrapI (a - b), wrapI a]
 split <;> split <;> split <;> omega
theorem wrap_zero {a : Int} (h : -18446744073709551616 < a ∧ a < 18446744073709551616) : IntKind.wrap .i64 a = 0 ↔ a = 0 := by
 rw [wrapI]; split <;> omega
theorem sCall_yldN {P : Program} {id : Pa} {args : List AV} {h : T Blk} {nx : Pa} {K : Kw Prop} : vZ (CS P B) (.yld id) args h nx K = (CS P B).yld id args h nx K := nr rfl
section
variable {σ : Type} {h0 : T Blk} {n : Nat} {lines : List (List Int)} {s : Int} {f bu bf be bp bg : Pa} {id : Pa} {LC : Bool → σ → List Ob → Prop} {stp : σ → List Int → σ × Bool}
noncomputable abbrev cloN (n : Nat) (lines : List (List Int)) (s : Int) (bu bf be bp bg : Pa) : AV := .fn 138 (.of 138) [.fp [I n, encT lines], .ptr bg 0, .ptr bf 0, .ptr bu 0, .ptr be 0, .fp [I s], .ptr bp 0]
noncomputable abbrev Gn (n : Nat) (lines : List (List Int)) (s : Int) (f bu bf be bp bg id : Pa) (fl : List Int) (m : Nat) : List Ob :=
 [.arr f (fl.map I), .arr bu [Wd m], .arr bf [.sl f 0 n (some n) 1], .arr be [encTT (endS n lines)], .arr bp [cloN n lines s bu bf be bp bg], .arr bg [.yld id]]
def YC (B : Nat) (h0 : T Blk) (n : Nat) (lines : List (List Int)) (s : Int) (f bu bf be bp bg id : Pa) (LC : Bool → σ → List Ob → Prop) (stp : σ → List Int → σ × Bool) : Prop :=
 ∀ (st : σ) (fl : List Int) (m : Nat) (h : T Blk) (nx : Pa) (K : Kw Prop) (L : List Ob), fl.length = n → (∀ x ∈ fl, 1 ≤ x ∧ x ≤ (n : Int)) → LC true st L → Hp h0 h nx (Gn n lines s f bu bf be bp bg id fl m ++ L) → (∀ h' nx' L', LC (stp st fl).2 (stp st fl).1 L' → Hp h0 h' nx' (Gn n lines s f bu bf be bp bg id fl m ++ L') → K (.bool (stp st fl).2) h' nx' = .ok True) →
  (CS Tryz.prog B).yld id [.sl f 0 n (some n) 1] h nx K = .ok True
theorem all_congr' {α : Type} {F G : α → Bool} : ∀ {l : List α}, (∀ x ∈ l, F x = G x) → l.all F = l.all G
 | [], _ => rfl
 | a :: l, h => by rw [List.all_cons, List.all_cons, h a (by simp), all_congr' fun x hx => h x (by simp [hx])]
theorem place138 (hn9 : n ≤ 9) (hm : lines.length ≤ 1000) (hl : ∀ l ∈ lines, AscL n l ∧ l.length ≤ 1000) (hs : -9223372036854775808 ≤ s ∧ s ≤ 9223372036854775807) (hY : YC B h0 n lines s f bu bf be bp bg id LC stp) :
  ∀ (r : Nat) (pre fl : List Int) (st : σ) (p : Pa) (h : T Blk) (nx : Pa) (K : Kw Prop) (L : List Ob), pre.length + r = n → fl.length = n → fl.take pre.length = pre → (∀ v ∈ fl, 0 ≤ v ∧ v ≤ 9) → (∀ x ∈ pre, 1 ≤ x ∧ x ≤ (n : Int)) → LC true st L → Hp h0 h nx (Gn n lines s f bu bf be bp bg id fl (gN pre) ++ L) →
   (∀ fl' h' nx' L', fl'.length = n → fl'.take pre.length = pre → (∀ v ∈ fl', 0 ≤ v ∧ v ≤ 9) → LC (uA stp st (j8 lines s n r pre)).2 (uA stp st (j8 lines s n r pre)).1 L' → Hp h0 h' nx' (Gn n lines s f bu bf be bp bg id fl' (gN pre) ++ L') → K (.bool (uA stp st (j8 lines s n r pre)).2) h' nx' = .ok True) →
   (CS Tryz.prog B).fn 138 p [I pre.length, .fp [I n, encT lines], .ptr bg 0, .ptr bf 0, .ptr bu 0, .ptr be 0, .fp [I s], .ptr bp 0] h nx K = .ok True
 | 0, pre, fl, st, p, h, nx, K, L, hr, hfl, htk, hf9, hpre, hL, H, hK => by
  refine yS (p := .of 138) (K := K) (zP zT dreg 1000 fun hf => ?_) fun _ _ _ _ q => q
  rw [F138.go, vD]
  show (zD (.fp (I n :: _)) h fun v2 => _) = _
  rw [sLoad_fp1']
  simp only [sEql, show (pre.length : Int) = (n : Int) by omega, decide_true, zC]
  rw [H.load (k := 5) (i := 0) rfl rfl, H.load (k := 2) (i := 0) rfl rfl, sCall_yldN]
  have e : fl = pre := by rw [← htk, List.take_of_length_le (by omega)]
  refine hY st fl (gN pre) h nx _ L hfl (by rw [e]; exact hpre) hL H fun h' nx' L' hL' H' => ?_
  have e2 : uA stp st (j8 lines s n 0 pre) = stp st fl := by
   rw [j8, uA, ← e]
   cases c : (stp st fl).2 with
   | true => rw [if_pos rfl, uA]; rw [← c]
   | false => rw [if_neg (by simp)]; rw [← c]
  rw [e2] at hK
  exact hK fl h' nx' L' hfl htk hf9 hL' H'
 | r + 1, pre, fl, st, p, h, nx, K, L, hr, hfl, htk, hf9, hpre, hL, H, hK => by
  refine yS (p := .of 138) (K := K) (zP zT dreg 1000000 fun hf => ?_) fun _ _ _ _ q => q
  rw [F138.go, vD]
  show (zD (.fp (I n :: _)) h fun v2 => _) = _
  rw [sLoad_fp1']
  simp only [sEql, show ¬ (pre.length : Int) = (n : Int) by omega, decide_false, zA]
  let g : Int → List (List Int) := fun x => if x ∈ pre then [] else if okAt lines s pre.length (pre ++ [x]) then j8 lines s n r (pre ++ [x]) else []
  have hg : j8 lines s n (r + 1) pre = (upTo n).flatMap g := rfl
  have hpre0 : ∀ y ∈ pre, 0 ≤ y := fun y hy => by have := hpre y hy; omega
  have hpre60 : ∀ y ∈ pre, 0 ≤ y ∧ y ≤ 60 := fun y hy => by have := hpre y hy; omega
  refine F138.L2 (fun m z9 h' nx' => ∃ (x : Nat) (st' : σ) (fl : List Int) (L : List Ob), z9 = I x ∧ n + 1 - x = m ∧ 1 ≤ x ∧ x ≤ n + 1 ∧ uA stp st (j8 lines s n (r + 1) pre) = uA stp st' (((upTo n).drop (x - 1)).flatMap g) ∧ fl.length = n ∧ fl.take pre.length = pre ∧ (∀ v ∈ fl, 0 ≤ v ∧ v ≤ 9) ∧ LC true st' L ∧ Hp h0 h' nx' (Gn n lines s f bu bf be bp bg id fl (gN pre) ++ L)) (m := n) (by omega)
   ⟨1, st, fl, L, rfl, by omega, by omega, by omega, by rw [hg]; rfl, hfl, htk, hf9, hL, H⟩ ?_
  clear hfl htk hf9 hL H
  rintro m z8 z9 z10 z11 z12 z13 z15 z16 z17 z18 z19 z20 z21 z22 z23 z24 z25 z26 h1 nx1 R ⟨x, st', fl, L, rfl, rfl, hx1, hx2, hfo, hfl, htk, hf9, hL, H⟩ hR
  rw [vD]
  show (zD (.fp (I n :: _)) h1 fun v2 => _) = _
  rw [sLoad_fp1']
  simp only [sLeq]
  by_cases hxn : x ≤ n
  case neg =>
   simp only [show ¬ (x : Int) ≤ (n : Int) by omega, decide_false, zA]
   rw [F138.k26]
   have e : (upTo n).drop (x - 1) = [] := List.drop_of_length_le (by simp; omega)
   rw [e] at hfo
   rw [hfo] at hK
   exact hK fl _ _ _ hfl htk hf9 hL H
  simp only [show (x : Int) ≤ (n : Int) by omega, decide_true, zC]
  have hdrop := upTo_drop hx1 hxn
  rw [hdrop, List.flatMap_cons] at hfo
  have next : ∀ z8 z10 z11 z12 z13 z15 z16 z17 z18 z19 z20 z21 z22 z23 z24 z25 z26 st2 fl2 h2 nx2 L2, uA stp st (j8 lines s n (r + 1) pre) = uA stp st2 (((upTo n).drop x).flatMap g) → fl2.length = n → fl2.take pre.length = pre → (∀ v ∈ fl2, 0 ≤ v ∧ v ≤ 9) → LC true st2 L2 → Hp h0 h2 nx2 (Gn n lines s f bu bf be bp bg id fl2 (gN pre) ++ L2) →
    R (F138.fr (I pre.length) (.fp [I n, encT lines]) (.ptr bg 0) (.ptr bf 0) (.ptr bu 0) (.ptr be 0) (.fp [I s]) (.ptr bp 0) z8 (I ((x : Int) + 1)) z10 z11 z12 z13 (.bool false) z15 z16 z17 z18 z19 z20 z21 z22 z23 z24 z25 z26) h2 nx2 = .ok True :=
   fun z8 z10 z11 z12 z13 z15 z16 z17 z18 z19 z20 z21 z22 z23 z24 z25 z26 st2 fl2 h2 nx2 L2 q1 q2 q3 q4 q6 q5 =>
    hR (n + 1 - (x + 1)) _ _ _ _ _ _ _ _ _ _ _ _ _ _ _ _ _ _ _ _ (by omega) ⟨x + 1, st2, fl2, L2, rfl, rfl, by omega, by omega, by rw [Nat.add_sub_cancel]; exact q1, q2, q3, q4, q6, q5⟩
  rw [H.load (k := 1) (i := 0) rfl rfl, sShr (by omega)]
  have hml := mask_lt hpre60
  have hdl : gN pre / 2 ^ x ≤ gN pre := Nat.div_le_self _ _
  show (sBin .and .int (Wd (gN pre / 2 ^ x)) (Wd 1) fun v6 => sBin .eql .int v6 (Wd 1) fun v7 => _) = _
  rw [sAndOne (by omega), sEqlW, show (((1 : Nat) : Int)) = 1 from rfl, mask_test hpre0]
  by_cases hmem : (x : Int) ∈ pre
  ·simp only [hmem, decide_true, zC]
   rw [sAdd (by omega)]
   have e : g (x : Int) = [] := by show (if (x : Int) ∈ pre then [] else _) = _; rw [if_pos hmem]
   rw [e, List.nil_append] at hfo
   exact next _ _ _ _ _ _ _ _ _ _ _ _ _ _ _ _ _ _ _ _ _ _ hfo hfl htk hf9 hL H
  simp only [hmem, decide_false, zA]
  rw [H.load (k := 2) (i := 0) rfl rfl, sIx (i := pre.length) rfl (by omega)]
  refine H.store (k := 0) rfl (by simp; omega) rfl fun h2 H2 => ?_
  have H2 : Hp h0 h2 nx1 (Gn n lines s f bu bf be bp bg id (fl.set pre.length x) (gN pre) ++ L) := H2.cast (by show _ = Ob.arr f ((fl.set pre.length (x : Int)).map I) :: _; rw [List.map_set]; rfl)
  have hfl2 : (fl.set pre.length (x : Int)).length = n := by simpa using hfl
  have htk1 : (fl.set pre.length (x : Int)).take (pre.length + 1) = pre ++ [(x : Int)] := by
   rw [List.take_add_one, List.take_set_of_le (Nat.le_refl _), htk, List.getElem?_set, if_pos rfl, if_pos (by omega)]; rfl
  have htk2 : (fl.set pre.length (x : Int)).take pre.length = pre := by rw [List.take_set_of_le (Nat.le_refl _), htk]
  have hf92 : ∀ v ∈ fl.set pre.length (x : Int), 0 ≤ v ∧ v ≤ 9 := fun v hv => by
   rcases List.mem_or_eq_of_mem_set hv with q | rfl
   ·exact hf9 v q
   ·omega
  clear H hf9 htk hfl
  generalize fl.set pre.length (x : Int) = fl at *
  have hcell : pre.length < n := by omega
  have hends : (endS n lines)[pre.length]? = some (lines.filter fun l => decide (l.getLastD 0 = ((pre.length : Nat) : Int))) := by
   rw [endS, List.getElem?_map, List.getElem?_range hcell]; rfl
  have hel : (endS n lines).length = n := by simp [endS]
  have hendv : ((endS n lines).map encT)[pre.length]? = some (encT (lines.filter fun l => decide (l.getLastD 0 = ((pre.length : Nat) : Int)))) := by rw [List.getElem?_map, hends]; rfl
  rw [H2.load (k := 3) (i := 0) rfl rfl, sIxL (i := pre.length) rfl (by omega), ldL hendv]
  have hok : okAt lines s pre.length (pre ++ [(x : Int)]) = (lines.filter fun l => decide (l.getLastD 0 = ((pre.length : Nat) : Int))).all fun l => decide (yT l fl = s) := by
   unfold okAt
   refine all_congr' fun l hm' => ?_
   have hml := List.mem_filter.1 hm'
   have hlast : l.getLastD 0 = ((pre.length : Nat) : Int) := of_decide_eq_true hml.2
   rw [← htk1, mG (fun c hc => ?_)]
   have := xO (hl l hml.1).1.2.1 c hc
   have := ((hl l hml.1).1.2.2 c hc).1
   omega
  have hle : ∀ l ∈ (lines.filter fun l => decide (l.getLastD 0 = ((pre.length : Nat) : Int))), AscL n l ∧ l.length ≤ 1000 := fun l hm' => hl l (List.mem_filter.1 hm').1
  have hll : (lines.filter fun l => decide (l.getLastD 0 = ((pre.length : Nat) : Int))).length ≤ 1000 := Nat.le_trans (List.length_filter_le _ _) hm
  generalize (lines.filter fun l => decide (l.getLastD 0 = ((pre.length : Nat) : Int))) = es at *
  simp only [zF]
  refine F138.L9 (fun m z19 h' nx' => ∃ j : Nat, z19 = I j ∧ es.length - j = m ∧ j ≤ es.length ∧ ((es.take j).all fun l => decide (yT l fl = s)) = true ∧ h' = h2 ∧ nx' = nx1) (m := es.length) (by omega) ⟨0, rfl, rfl, by omega, rfl, rfl, rfl⟩ ?_
  rintro m y10 y11 y12 y19 y20 y21 y22 y23 y24 y25 h2 nx1 R2 ⟨j, rfl, rfl, hj, hall, rfl, rfl⟩ hR2
  simp only [sLss]
  by_cases hjt : j < es.length
  ·simp only [show (j : Int) < (es.length : Int) by omega, decide_true, zC]
   obtain ⟨l, hxl⟩ : ∃ l, es[j]? = some l := ⟨_, List.getElem?_eq_getElem hjt⟩
   obtain ⟨hasc, hlw⟩ := hle l (List.mem_of_getElem? hxl)
   rw [sIxL rfl hjt, ldL (getT hxl)]
   show (zD (.fp (I s :: _)) h2 fun v4 => _) = _
   rw [sLoad_fp1']
   simp only [zF]
   refine F138.L15 (fun m z11 z23 h' nx' => ∃ k : Nat, z23 = I k ∧ z11 = I (IntKind.wrap .i64 (s - yT (l.take k) fl)) ∧ l.length - k = m ∧ k ≤ l.length ∧ h' = h2 ∧ nx' = nx1) (m := l.length) (by omega) ⟨0, rfl, by rw [show yT (l.take 0) fl = 0 from rfl, Int.sub_zero, uU hs], rfl, by omega, rfl, rfl⟩ ?_
   rintro m w11 w12 w23 w24 h2 nx1 R3 ⟨k, rfl, rfl, rfl, hk, rfl, rfl⟩ hR3
   simp only [sLss]
   by_cases hkt : k < l.length
   ·simp only [show (k : Int) < (l.length : Int) by omega, decide_true, zC]
    have hxk : l[k]? = some l[k] := List.getElem?_eq_getElem hkt
    obtain ⟨c0, c1⟩ := hasc.2.2 _ (List.getElem_mem hkt)
    have hv : (fl.map I)[(l[k]).toNat]? = some (I (fl.getD (l[k]).toNat 0)) := by
     rw [List.getElem?_map, List.getD_eq_getElem?_getD, List.getElem?_eq_getElem (by omega)]; rfl
    rw [sIxL rfl hkt, ldL (getI hxk), H2.load (k := 2) (i := 0) rfl rfl, sIx (i := (l[k]).toNat) (by omega) (by omega), H2.load (k := 0) rfl hv, sSubW, sAdd (by omega), wrap_sub]
    refine hR3 _ _ _ _ _ _ _ (by omega) ⟨k + 1, rfl, ?_, rfl, by omega, rfl, rfl⟩
    congr 2
    rw [List.take_add_one, hxk, Option.toList_some, lsum_snoc]; omega
   ·simp only [show ¬ (k : Int) < (l.length : Int) by omega, decide_false, zA]
    rw [List.take_of_length_le (l := l) (by omega), F138.k22]
    have hb := bM (M := 9) (fun v hv => by have := hf92 v hv; omega) l
    simp only [sNeq]
    have hz := wrap_zero (a := s - yT l fl) (by omega)
    by_cases hc : yT l fl = s
    ·simp only [hz.2 (by omega), decide_true, Bool.not_true, zA]
     rw [F138.k23, sAdd (by omega)]
     refine hR2 (es.length - (j + 1)) _ _ _ _ _ _ _ _ _ _ _ _ (by omega) ⟨j + 1, rfl, rfl, by omega, ?_, rfl, rfl⟩
     rw [List.take_add_one, hxl, List.all_append, hall]
     simp [hc]
    ·have hz2 : ¬ IntKind.wrap .i64 (s - yT l fl) = 0 := fun q => hc (by have := hz.1 q; omega)
     simp only [hz2, decide_false, Bool.not_false, zC]
     rw [F138.k25, sAdd (by omega)]
     have e : g (x : Int) = [] := by
      show (if (x : Int) ∈ pre then [] else if okAt lines s pre.length (pre ++ [(x : Int)]) then _ else []) = _
      rw [if_neg hmem, hok, if_neg]
      intro q
      exact hc (of_decide_eq_true (List.all_eq_true.1 q l (List.mem_of_getElem? hxl)))
     rw [e, List.nil_append] at hfo
     exact next _ _ _ _ _ _ _ _ _ _ _ _ _ _ _ _ _ _ _ _ _ _ hfo hfl2 htk2 hf92 hL H2
  ·simp only [show ¬ (j : Int) < (es.length : Int) by omega, decide_false, zA]
   rw [List.take_of_length_le (by omega)] at hall
   have e : g (x : Int) = j8 lines s n r (pre ++ [(x : Int)]) := by
    show (if (x : Int) ∈ pre then [] else if okAt lines s pre.length (pre ++ [(x : Int)]) then _ else []) = _
    rw [if_neg hmem, hok, if_pos hall]
   rw [e] at hfo
   have hmx : ∀ y ∈ pre ++ [(x : Int)], 0 ≤ y ∧ y ≤ 60 := fun y hy => by
    rcases List.mem_append.1 hy with q | q
    ·exact hpre60 y q
    ·simp at q; omega
   have hp2 : 2 ^ x < 18446744073709551616 := by
    have : 2 ^ x ≤ 2 ^ 63 := Nat.pow_le_pow_right (by omega) (by omega)
    omega
   rw [F138.k24, H2.load (k := 1) (i := 0) rfl rfl]
   show (sBin .shl .int (Wd 1) (I (x : Int)) fun v2 => _) = _
   rw [sShlOne (by omega), sOrW hml hp2]
   refine H2.store (k := 1) rfl (by simp) rfl fun h3 H3 => ?_
   have e3 : gN pre ||| 2 ^ x = gN (pre ++ [(x : Int)]) := by rw [maskN_snoc]; rfl
   have H3 : Hp h0 h3 nx1 (Gn n lines s f bu bf be bp bg id fl (gN (pre ++ [(x : Int)])) ++ L) := H3.cast (by rw [e3]; rfl)
   rw [H3.load (k := 4) (i := 0) rfl rfl, sAdd (by omega), d9]
   have e4 : (pre.length : Int) + 1 = (((pre ++ [(x : Int)]).length : Nat) : Int) := by simp
   rw [e4]
   refine place138 hn9 hm hl hs hY r (pre ++ [(x : Int)]) fl st' _ _ _ _ L (by simp; omega) hfl2 (by rw [List.length_append]; exact htk1) hf92 (fun y hy => by
    rcases List.mem_append.1 hy with q | q
    ·exact hpre y q
    ·simp at q; omega) hL H3 fun fl' h4 nx4 L4 hfl' htk' hf9' hL4 H4 => ?_
   rw [H4.load (k := 1) (i := 0) rfl rfl]
   show (sBin .shl .int (Wd 1) (I (x : Int)) fun v13 => _) = _
   rw [sShlOne (by omega), sAndNotW (c := gN pre) (mask_lt hmx) hp2 hml (fun k => by
    have := mask_off hpre0 (show (0 : Int) ≤ x by omega) hmem k
    rw [Int.toNat_natCast] at this
    exact this)]
   refine H4.store (k := 1) rfl (by simp) rfl fun h5 H5 => ?_
   have H5 : Hp h0 h5 nx4 (Gn n lines s f bu bf be bp bg id fl' (gN pre) ++ L4) := H5
   have htk3 : fl'.take pre.length = pre := by
    have := congrArg (List.take pre.length) htk'
    rw [List.take_take, List.length_append, Nat.min_eq_left (by omega), List.take_left] at this
    exact this
   rw [foldE_app] at hfo
   simp only [zV]
   cases c : (uA stp st' (j8 lines s n r (pre ++ [(x : Int)]))).2 with
   | true =>
    rw [c, if_pos rfl] at hfo
    rw [c] at hL4
    simp only [Bool.not_true, zA]
    rw [F138.k25, sAdd (by omega)]
    exact next _ _ _ _ _ _ _ _ _ _ _ _ _ _ _ _ _ _ _ _ _ _ hfo hfl' htk3 hf9' hL4 H5
   | false =>
    rw [c, if_neg (by simp)] at hfo
    simp only [Bool.not_false, zC]
    rw [hfo] at hK
    rw [c] at hK hL4
    exact hK fl' _ _ _ hfl' htk3 hf9' hL4 H5
theorem perm6 {α : Type} (a b c d e g : α) (L : List α) : ([a, b, c, d, e, g] ++ L).Perm ([e, b, d, c, a, g] ++ L) := by
 refine List.Perm.append_right L ?_
 have h : [0, 1, 2, 3, 4, 5].Perm [4, 1, 3, 2, 0, 5] := by decide
 exact h.map fun i => [a, b, c, d, e, g].getD i a
theorem normal107 {cells : Nat} {lines : List (List Int)} {s : Int} : Pure Tryz.prog B 107 [.agg [I cells, encT lines], I s] (· = .fn 136 (.of 136) [.fp [I cells, encT lines], .fp [I s]]) := by
 refine yX fun h nx K H0 hK => zP zT dreg 100 fun hf => ?_
 rw [F107.go]
 refine H0.box (l := [I cells, encT lines]) rfl fun b1 h1 nx1 H1 => ?_
 refine H1.box (l := [I s]) rfl fun b2 h2 nx2 H2 => ?_
 have fz : ∀ (k : Nat) (b : Pa) (l : List AV), [Ob.arr b2 [I s], Ob.arr b1 [I cells, encT lines]][k]? = some (.arr b l) → (∀ v ∈ l, fixd v = true) → FrzN h h2 (.ptr b 0) (.fp l) := fun k b l hk hl => by
  have hm := List.mem_of_getElem? hk
  obtain ⟨op, t, g1, g2⟩ := H2.own _ hm
  refine .ptr _ _ op _ t _ (H2.off b (List.mem_flatMap.2 ⟨_, hm, by simp [Ob.names]⟩)) g1 (by omega) (List.all_eq_true.2 fun v hv => fixd.scal (hl v hv)) fun i v hv => ?_
  have := yL t 0 l.length i (List.getElem?_eq_some_iff.1 hv).1
  rw [g2, hv] at this
  rw [← Option.some.inj this]
  exact zO (hl v (List.mem_of_getElem? hv))
 refine hK _ _ _ _ (.fn 136 (.of 136) [.fp [I cells, encT lines], .fp [I s]]) H2 (.fn _ _ _ _ rfl fun i v v' q1 q2 => ?_) rfl
 match i with
 | 0 =>
  simp only [List.getElem?_cons_zero, Option.some.injEq] at q1 q2
  subst q1 q2
  refine fz 1 b1 _ rfl fun v hv => ?_
  simp only [List.mem_cons, List.not_mem_nil, or_false] at hv
  rcases hv with rfl | rfl
  ·rfl
  ·exact vO lines
 | 1 =>
  simp only [List.getElem?_cons_succ, List.getElem?_cons_zero, Option.some.injEq] at q1 q2
  subst q1 q2
  exact fz 0 b2 _ rfl fun v hv => by simp only [List.mem_cons, List.not_mem_nil, or_false] at hv; subst hv; rfl
 | i + 2 => simp at q1
theorem normal136 {p : Pa} {h : T Blk} {nx : Pa} {K : Kw Prop} {L : List Ob} {st : σ} (hn9 : n ≤ 9) (hm : lines.length ≤ 1000) (hl : ∀ l ∈ lines, AscL n l ∧ l.length ≤ 1000) (hs : -9223372036854775808 ≤ s ∧ s ≤ 9223372036854775807) (hY : ∀ f bu bf be bp bg, YC B h0 n lines s f bu bf be bp bg id LC stp)
  (hL : LC true st L) (H : Hp h0 h nx L) (hK : ∀ h' nx' L', LC (uA stp st (j8 lines s n n [])).2 (uA stp st (j8 lines s n n [])).1 L' → Hp h0 h' nx' L' → K (.tup []) h' nx' = .ok True) : (CS Tryz.prog B).fn 136 p [.yld id, .fp [I n, encT lines], .fp [I s]] h nx K = .ok True := by
 refine yS (p := .of 136) (K := K) (zP zT dreg 1000 fun hf => ?_) fun _ _ _ _ q => q
 rw [F136.go]
 refine H.box (l := [.yld id]) rfl fun bg h1 nx1 H1 => ?_
 rw [vD]
 show (zD (.fp (I n :: _)) h1 fun v2 => _) = _
 rw [sLoad_fp1']
 refine H1.mk1 n rfl rfl (by omega) (by decide) fun f h2 nx2 H2 => ?_
 refine H2.alloc fun bf h3 nx3 H3 => ?_
 refine H3.store (k := 0) rfl (by decide) rfl fun h4 H4 => ?_
 rw [dL]
 refine ended137 (by omega) hm hl _ _ _ _ ?_
 rintro _ rfl _
 refine H4.alloc fun be h5 nx5 H5 => ?_
 refine H5.store (k := 0) rfl (by decide) rfl fun h6 H6 => ?_
 refine H6.alloc fun bu h7 nx7 H7 => ?_
 refine H7.alloc fun bp h8 nx8 H8 => ?_
 refine H8.store (k := 0) rfl (by decide) rfl fun h9 H9 => ?_
 rw [H9.load (k := 0) (i := 0) rfl rfl, d9]
 have hz : List.replicate n (I 0) = (List.replicate n (0 : Int)).map I := by simp
 rw [hz] at H9
 have H10 : Hp h0 h9 nx8 (Gn n lines s f bu bf be bp bg id (List.replicate n 0) (gN []) ++ L) := H9.perm (perm6 _ _ _ _ _ _ L)
 refine place138 hn9 hm hl hs (hY f bu bf be bp bg) n [] (List.replicate n 0) st _ _ _ _ L (by simp) (by simp) (by simp) (by intro v hv; simp at hv; omega) (by simp) hL H10 fun fl' h11 nx11 L' _ _ _ hL' H11 => ?_
 exact hK _ _ _ hL' H11.drop.drop.drop.drop.drop.drop
end
end Go.Ev
namespace Go.Ev
open Go Go.Proofs
variable {B : Nat}
def kY (cells : Int) (lines : List (List Int)) : Int := jC [jW cells lines, if 9 < cells then 20 else 0]
theorem small106 {cells : Int} {lines : List (List Int)} (hw : ∀ q ∈ lines, q.length ≤ 1000000) : Pure Tryz.prog B 106 [.agg [I cells, encT lines]] (· = I (kY cells lines)) := by
 refine yX fun h nx K H0 hK => zP zT dreg 1000 fun hf => ?_
 rw [F106.go]
 refine H0.box (l := [I cells, encT lines]) rfl fun bx h1 nx1 H1 => ?_
 rw [H1.loadN (k := 0) (n := 2) rfl rfl, sFx, H1.load (k := 0) (i := 0) rfl rfl]
 simp only [sGtr]
 refine sys81 hw _ _ _ _ ?_
 rintro _ rfl _
 simp only [zB, sFx]
 rw [H1.load (k := 0) (i := 0) rfl rfl]
 simp only [zB]
 refine whenB82 _ _ _ _ _ _ ?_
 rintro _ rfl _
 refine H1.bslice (l := [I (jW cells lines), I (if decide (9 < cells) then 20 else 0)]) rfl fun id h4 nx4 H4 => ?_
 refine u4 (l := [jW cells lines, if decide (9 < cells) then 20 else 0]) H4 (k := 0) rfl (fun B => first80 (by simp)) (fun v hv => by rw [hv]; exact .int _ _) ?_
 rintro _ rfl
 refine hK _ _ _ _ _ H4 (zO rfl) ?_
 simp only [kY, decide_eq_true_eq]
theorem d7 (cells : Int) (lines : List (List Int)) : kY cells lines = if jW cells lines ≠ 0 then jW cells lines else if 9 < cells then 20 else 0 := by
 by_cases c : jW cells lines = 0
 ·by_cases c2 : 9 < cells <;> simp [kY, jC, c, c2]
 ·simp [kY, jC, c]
end Go.Ev
namespace Go.Ev
def agrZ (lines : List (List Int)) (s : Int) (f : List Int) : Bool := lines.all fun l => decide ((f.length : Int) ≤ l.getLastD 0) || decide (yT l f = s)
def enumR (lines : List (List Int)) (s : Int) (n : Nat) : Nat → List Int → List (List Int)
 | 0, pre => if agrZ lines s pre then [pre] else []
 | r + 1, pre => if agrZ lines s pre then (upTo n).flatMap fun x => if x ∈ pre then [] else enumR lines s n r (pre ++ [x]) else []
theorem agr_snoc {n : Nat} {lines : List (List Int)} {s : Int} {pre : List Int} {x : Int} (hl : ∀ l ∈ lines, AscL n l) : agrZ lines s (pre ++ [x]) = (agrZ lines s pre && okAt lines s pre.length (pre ++ [x])) := by
 rw [Bool.eq_iff_iff]
 simp only [agrZ, okAt, Bool.and_eq_true, List.all_eq_true, Bool.or_eq_true, decide_eq_true_eq, List.mem_filter]
 have key : ∀ l ∈ lines, l.getLastD 0 < (pre.length : Int) → yT l (pre ++ [x]) = yT l pre := fun l hm hlt => by
  have : (pre ++ [x]).take pre.length = pre := by simp
  rw [← mG (f := pre ++ [x]) (m := pre.length), this]
  intro c hc
  have := xO (hl l hm).2.1 c hc
  have := ((hl l hm).2.2 c hc).1
  omega
 constructor
 ·intro h
  refine ⟨fun l hm => ?_, fun l ⟨hm, he⟩ => ?_⟩
  ·by_cases c : (pre.length : Int) ≤ l.getLastD 0
   ·exact .inl c
   ·refine .inr ?_
    rw [← key l hm (by omega)]
    rcases h l hm with q | q
    ·simp only [List.length_append, List.length_cons, List.length_nil] at q; omega
    ·exact q
  ·rcases h l hm with q | q
   ·simp only [List.length_append, List.length_cons, List.length_nil] at q; omega
   ·exact q
 ·rintro ⟨h1, h2⟩ l hm
  by_cases c : ((pre ++ [x]).length : Int) ≤ l.getLastD 0
  ·exact .inl c
  ·refine .inr ?_
   simp only [List.length_append, List.length_cons, List.length_nil] at c
   by_cases e : l.getLastD 0 = (pre.length : Int)
   ·exact h2 l ⟨hm, e⟩
   ·rw [key l hm (by omega)]
    rcases h1 l hm with q | q
    ·omega
    ·exact q
theorem kO {α β : Type} {f g : α → List β} : ∀ {l : List α}, (∀ x ∈ l, f x = g x) → l.flatMap f = l.flatMap g
 | [], _ => rfl
 | a :: l, h => by rw [List.flatMap_cons, List.flatMap_cons, h a (by simp), kO fun x hx => h x (by simp [hx])]
theorem enum_eq {n : Nat} {lines : List (List Int)} {s : Int} (hl : ∀ l ∈ lines, AscL n l) : ∀ (r : Nat) (pre : List Int), enumR lines s n r pre = if agrZ lines s pre then j8 lines s n r pre else []
 | 0, pre => rfl
 | r + 1, pre => by
  rw [enumR]
  cases c : agrZ lines s pre with
  | false => rfl
  | true =>
   rw [if_pos rfl, if_pos rfl, j8]
   refine kO fun x _ => ?_
   by_cases h : x ∈ pre
   ·rw [if_pos h, if_pos h]
   ·rw [if_neg h, if_neg h, enum_eq hl r (pre ++ [x]), agr_snoc hl, c, Bool.true_and]
theorem agr_nil {n : Nat} {lines : List (List Int)} {s : Int} (hl : ∀ l ∈ lines, AscL n l) : agrZ lines s [] = true := by
 simp only [agrZ, List.all_eq_true, Bool.or_eq_true, decide_eq_true_eq]
 intro l hm
 refine .inl ?_
 obtain ⟨h1, h2, h3⟩ := hl l hm
 obtain ⟨a, q⟩ := List.exists_mem_of_ne_nil l h1
 have := xO h2 a q
 have := (h3 a q).1
 simp only [List.length_nil]; omega
theorem enum_len {lines : List (List Int)} {s : Int} {n : Nat} : ∀ (r : Nat) (pre : List Int), (j8 lines s n r pre).length ≤ n ^ r
 | 0, pre => by simp [j8]
 | r + 1, pre => by
  rw [j8, List.length_flatMap]
  have : ∀ l : List Int, (l.map fun x => (if x ∈ pre then [] else if okAt lines s pre.length (pre ++ [x]) then j8 lines s n r (pre ++ [x]) else []).length).sum ≤ l.length * n ^ r := by
   intro l
   induction l with
   | nil => simp
   | cons a l ih =>
    rw [List.map_cons, List.sum_cons, List.length_cons, Nat.add_mul]
    have h1 : (if a ∈ pre then [] else if okAt lines s pre.length (pre ++ [a]) then j8 lines s n r (pre ++ [a]) else []).length ≤ n ^ r := by
     split
     ·simp
     ·split
      ·exact enum_len r _
      ·simp
    omega
  have h2 := this (upTo n)
  rw [List.length_map, List.length_range] at h2
  rw [Nat.pow_succ, Nat.mul_comm]; exact h2
def kL (n : Nat) (pre : List Int) : List Bool := (List.range (n + 1)).map fun (k : Nat) => decide ((k : Int) ∈ pre)
theorem qZ {n k : Nat} {pre : List Int} (h : k ≤ n) : (kL n pre)[k]? = some (decide ((k : Int) ∈ pre)) := by
 rw [kL, List.getElem?_map, List.getElem?_range (by omega)]; rfl
theorem j2 (n : Nat) (pre : List Int) : (kL n pre).length = n + 1 := by simp [kL]
theorem usedL_on {n x : Nat} {pre : List Int} (h : x ≤ n) : (kL n pre).set x true = kL n (pre ++ [(x : Int)]) := by
 refine List.ext_getElem? fun k => ?_
 rw [List.getElem?_set]
 by_cases hk : k ≤ n
 ·rw [qZ hk, qZ hk, j2]
  by_cases e : x = k
  ·subst e; rw [if_pos rfl, if_pos (by omega)]; simp
  ·have : ¬ (k : Int) = (x : Int) := by omega
   rw [if_neg e]; simp [this]
 ·rw [List.getElem?_eq_none (by rw [j2]; omega), List.getElem?_eq_none (by rw [j2]; omega), if_neg (by omega)]
theorem usedL_off {n x : Nat} {pre : List Int} (h : x ≤ n) (hx : (x : Int) ∉ pre) : (kL n (pre ++ [(x : Int)])).set x false = kL n pre := by
 refine List.ext_getElem? fun k => ?_
 rw [List.getElem?_set]
 by_cases hk : k ≤ n
 ·rw [qZ hk, qZ hk, j2]
  by_cases e : x = k
  ·subst e; rw [if_pos rfl, if_pos (by omega)]; simp [hx]
  ·have : ¬ (k : Int) = (x : Int) := by omega
   rw [if_neg e]; simp [this]
 ·rw [List.getElem?_eq_none (by rw [j2]; omega), List.getElem?_eq_none (by rw [j2]; omega), if_neg (by omega)]
end Go.Ev
namespace Go.Ev
def agF (f : List Int) : List (List Int) → Option Int → Bool
 | [], _ => true
 | l :: ls, o => if (f.length : Int) ≤ l.getLastD 0 then agF f ls o else match o with
  | none => agF f ls (some (yT l f))
  | some s => if yT l f = s then agF f ls (some (yT l f)) else false
def insS (x : Int) : List (Int × Int) → List (Int × Int)
 | [] => [(x, 1)]
 |(y, c) :: q => if y < x then (y, c) :: insS x q else if y = x then (y, IntKind.wrap .i64 (c + 1)) :: q else (x, 1) :: (y, c) :: q
theorem insS_hit {x c : Int} : ∀ {q : List (Int × Int)} {i : Nat}, (∀ j p, j < i → q[j]? = some p → p.1 < x) → q[i]? = some (x, c) → insS x q = q.set i (x, IntKind.wrap .i64 (c + 1))
 | [], i, _, h => by simp at h
 |(y, d) :: q, 0, _, h => by
  simp only [List.getElem?_cons_zero, Option.some.injEq, Prod.mk.injEq] at h
  obtain ⟨rfl, rfl⟩ := h
  rw [insS, if_neg (by omega), if_pos rfl]; rfl
 |(y, d) :: q, i + 1, h1, h => by
  have := h1 0 (y, d) (by omega) rfl
  rw [insS, if_pos this, insS_hit (i := i) (fun j p hj hp => h1 (j + 1) p (by omega) (by simpa using hp)) (by simpa using h)]; rfl
theorem insS_new {x : Int} : ∀ {q : List (Int × Int)} {i : Nat}, i ≤ q.length → (∀ j p, j < i → q[j]? = some p → p.1 < x) → (∀ p, q[i]? = some p → x < p.1) → insS x q = q.take i ++ [(x, 1)] ++ q.drop i
 | [], i, h, _, _ => by
  obtain rfl : i = 0 := by simpa using h
  rfl
 |(y, d) :: q, 0, _, _, h2 => by
  have := h2 (y, d) rfl
  rw [insS, if_neg (by simp at this; omega), if_neg (by simp at this; omega)]; rfl
 |(y, d) :: q, i + 1, h, h1, h2 => by
  have := h1 0 (y, d) (by omega) rfl
  rw [insS, if_pos this, insS_new (i := i) (by simpa using h) (fun j p hj hp => h1 (j + 1) p (by omega) (by simpa using hp)) (fun p hp => h2 p (by simpa using hp))]; rfl
def jE (lines : List (List Int)) (D : List (List Int)) : List (Int × Int) := match lines with
 | [] => []
 | l :: _ => D.foldl (fun q f => insS (yT l f) q) []
theorem specF_snoc (lines : List (List Int)) (D : List (List Int)) (f : List Int) : jE lines (D ++ [f]) = match lines with | [] => [] | l :: _ => insS (yT l f) (jE lines D) := by
 cases lines with
 | nil => rfl
 | cons l ls => simp [jE]
def jL (ag : List Int → Bool) (n : Nat) : Nat → List Int → List (List Int)
 | 0, pre => if ag pre then [pre] else []
 | r + 1, pre => if ag pre then (upTo n).flatMap fun x => if x ∈ pre then [] else jL ag n r (pre ++ [x]) else []
theorem enumG_mem {ag : List Int → Bool} {n : Nat} : ∀ {r : Nat} {pre f : List Int}, f ∈ jL ag n r pre → (∀ x ∈ pre, 1 ≤ x ∧ x ≤ (n : Int)) → f.length = pre.length + r ∧ ∀ x ∈ f, 1 ≤ x ∧ x ≤ (n : Int)
 | 0, pre, f, h, hp => by
  rw [jL] at h
  split at h
  ·simp at h; subst h; exact ⟨rfl, hp⟩
  ·simp at h
 | r + 1, pre, f, h, hp => by
  rw [jL] at h
  split at h
  ·obtain ⟨x, hx, hx2⟩ := List.mem_flatMap.1 h
   split at hx2
   ·simp at hx2
   ·obtain ⟨i, hi, rfl⟩ := List.mem_map.1 hx
    have := List.mem_range.1 hi
    have := enumG_mem hx2 fun y hy => by
     rcases List.mem_append.1 hy with q | q
     ·exact hp y q
     ·simp at q; omega
    refine ⟨by have := this.1; simp at this; omega, this.2⟩
  ·simp at h
def SpOK (M : Int) (q : List (Int × Int)) : Prop := q.Pairwise (fun a b => a.1 < b.1) ∧ ∀ p ∈ q, 0 ≤ p.1 ∧ p.1 ≤ M
theorem mJ {x : Int} : ∀ {q : List (Int × Int)} {p : Int × Int}, p ∈ insS x q → p.1 = x ∨ ∃ p' ∈ q, p'.1 = p.1
 | [], p, h => by simp [insS] at h; subst h; exact .inl rfl
 |(y, c) :: q, p, h => by
  rw [insS] at h
  split at h
  ·rcases List.mem_cons.1 h with rfl | h
   ·exact .inr ⟨_, List.mem_cons_self .., rfl⟩
   ·rcases mJ h with q1 | ⟨p', q1, q2⟩
    ·exact .inl q1
    ·exact .inr ⟨p', List.mem_cons_of_mem _ q1, q2⟩
  ·split at h
   ·rcases List.mem_cons.1 h with rfl | h
    ·exact .inr ⟨_, List.mem_cons_self .., rfl⟩
    ·exact .inr ⟨p, List.mem_cons_of_mem _ h, rfl⟩
   ·rcases List.mem_cons.1 h with rfl | h
    ·exact .inl rfl
    ·exact .inr ⟨p, h, rfl⟩
theorem insS_asc {x : Int} : ∀ {q : List (Int × Int)}, q.Pairwise (fun a b => a.1 < b.1) → (insS x q).Pairwise (fun a b => a.1 < b.1)
 | [], _ => by simp [insS]
 |(y, c) :: q, h => by
  obtain ⟨h1, h2⟩ := List.pairwise_cons.1 h
  rw [insS]
  split
  ·rename_i hlt
   refine List.pairwise_cons.2 ⟨fun p hp => ?_, insS_asc h2⟩
   rcases mJ hp with q1 | ⟨p', q1, q2⟩
   ·show y < p.1; omega
   ·have := h1 p' q1; show y < p.1; simp at this; omega
  ·split
   ·exact List.pairwise_cons.2 ⟨fun p hp => h1 p hp, h2⟩
   ·refine List.pairwise_cons.2 ⟨fun p hp => ?_, h⟩
    rcases List.mem_cons.1 hp with rfl | hp
    ·show x < y; omega
    ·have := h1 p hp; show x < p.1; simp at this; omega
theorem specF_ok {n : Nat} {lines D : List (List Int)} (hl : ∀ l ∈ lines, l.length ≤ 1000) (hD : ∀ f ∈ D, ∀ x ∈ f, 1 ≤ x ∧ x ≤ (n : Int)) (hn : n ≤ 9) : SpOK 9000 (jE lines D) := by
 cases lines with
 | nil => exact ⟨List.Pairwise.nil, by simp [jE]⟩
 | cons l ls =>
  have : ∀ (D : List (List Int)) (q : List (Int × Int)), (∀ f ∈ D, ∀ x ∈ f, 1 ≤ x ∧ x ≤ (n : Int)) → SpOK 9000 q → SpOK 9000 (D.foldl (fun q f => insS (yT l f) q) q) := by
   intro D
   induction D with
   | nil => intro q _ h; exact h
   | cons f D ih =>
    intro q hD h
    rw [List.foldl_cons]
    refine ih _ (fun f hf => hD f (List.mem_cons_of_mem _ hf)) ⟨insS_asc h.1, fun p hp => ?_⟩
    have hb := bM (M := 9) (f := f) (fun v hv => by have := hD f (List.mem_cons_self ..) v hv; omega) l
    have hll := hl l (List.mem_cons_self ..)
    rcases mJ hp with q1 | ⟨p', q1, q2⟩
    ·omega
    ·have := h.2 p' q1; omega
  exact this D [] hD ⟨List.Pairwise.nil, by simp⟩
theorem SpOK.len {q : List (Int × Int)} (h : SpOK 9000 q) : q.length ≤ 9001 := by
 obtain ⟨t, ht⟩ := xI (q.map (·.1)) ((List.range 9001).map fun (i : Nat) => (i : Int)) (by
  rw [List.nodup_iff_pairwise_ne, List.pairwise_map]
  exact h.1.imp fun {a b} q e => by omega) fun x hx => by
  obtain ⟨p, hp, rfl⟩ := List.mem_map.1 hx
  have := h.2 p hp
  exact List.mem_map.2 ⟨p.1.toNat, List.mem_range.2 (by omega), by omega⟩
 have := ht.length_eq
 rw [List.length_map, List.length_range, List.length_append, List.length_map] at this
 omega
abbrev cntS (lines : List (List Int)) (n : Nat) (s : Int) : Nat := (j8 lines s n n []).length
def spF (lines : List (List Int)) (n : Nat) (s : Int) : Option (Int × Int) := if 0 < cntS lines n s then some (s, (cntS lines n s : Int)) else none
def spV (lines : List (List Int)) (n : Nat) (lo : Int) (m : Nat) : List (Int × Int) := ((List.range m).map fun (i : Nat) => lo + (i : Int)).filterMap (spF lines n)
theorem spV_succ (lines : List (List Int)) (n : Nat) (lo : Int) (m : Nat) : spV lines n lo (m + 1) = spV lines n lo m ++ (spF lines n (lo + (m : Int))).toList := by
 rw [spV, List.range_succ, List.map_append, List.filterMap_append]
 congr 1
theorem spV_len (lines : List (List Int)) (n : Nat) (lo : Int) (m : Nat) : (spV lines n lo m).length ≤ m := by
 refine Nat.le_trans (List.length_filterMap_le _ _) (by simp)
def factF : Nat → Nat
 | 0 => 1
 | n + 1 => (n + 1) * factF n
theorem agF_some (f : List Int) (s : Int) : ∀ lines : List (List Int), agF f lines (some s) = agrZ lines s f
 | [] => rfl
 | l :: ls => by
  have ih := agF_some f s ls
  rw [agF, agrZ, List.all_cons]
  by_cases c : (f.length : Int) ≤ l.getLastD 0
  ·simp only [c, if_true, decide_true, Bool.true_or, Bool.true_and]; rw [ih]; rfl
  ·simp only [c, if_false, decide_false, Bool.false_or]
   by_cases c2 : yT l f = s
   ·simp only [c2, if_true, decide_true, Bool.true_and]; rw [ih]; rfl
   ·simp only [c2, if_false, decide_false, Bool.false_and]
theorem agF_none (f : List Int) : ∀ lines : List (List Int), agF f lines none = true ↔ ∃ s, agrZ lines s f = true
 | [] => by simp [agF, agrZ]
 | l :: ls => by
  have ih := agF_none f ls
  rw [agF]
  by_cases c : (f.length : Int) ≤ l.getLastD 0
  ·rw [if_pos c, ih]
   have e : ∀ s, agrZ (l :: ls) s f = agrZ ls s f := fun s => by rw [agrZ, List.all_cons, decide_eq_true c, Bool.true_or, Bool.true_and]; rfl
   simp only [e]
  ·rw [if_neg c, agF_some]
   have e : ∀ s, agrZ (l :: ls) s f = (decide (yT l f = s) && agrZ ls s f) := fun s => by rw [agrZ, List.all_cons, decide_eq_false c, Bool.false_or]; rfl
   simp only [e, Bool.and_eq_true, decide_eq_true_eq]
   constructor
   ·intro h; exact ⟨_, rfl, h⟩
   ·rintro ⟨s, rfl, h⟩; exact h
def Here (ag : List Int → Bool) : Prop := ∀ pre x, ag (pre ++ [x]) = true → ag pre = true
theorem Here.down {ag q : List Int → Bool} {n : Nat} (hh : Here ag) : ∀ {r : Nat} {pre f : List Int}, f ∈ jL q n r pre → ag f = true → ag pre = true
 | 0, pre, f, h, ha => by
  rw [jL] at h
  split at h
  ·simp at h; subst h; exact ha
  ·simp at h
 | r + 1, pre, f, h, ha => by
  rw [jL] at h
  split at h
  ·obtain ⟨x, _, hx⟩ := List.mem_flatMap.1 h
   split at hx
   ·simp at hx
   ·exact hh _ _ (Here.down hh hx ha)
  ·simp at h
abbrev xF (n r : Nat) (pre : List Int) : List (List Int) := jL (fun _ => true) n r pre
theorem wP (n r : Nat) (pre : List Int) : xF n (r + 1) pre = (upTo n).flatMap fun x => if x ∈ pre then [] else xF n r (pre ++ [x]) := by rw [xF, jL, if_pos rfl]
theorem wV {ag : List Int → Bool} {n : Nat} (hh : Here ag) : ∀ (r : Nat) (pre : List Int), jL ag n r pre = (xF n r pre).filter ag
 | 0, pre => by
  cases c : ag pre <;> simp [jL, c]
 | r + 1, pre => by
  cases c : ag pre with
  | false =>
   rw [jL, c]
   refine (List.filter_eq_nil_iff.2 fun f hf ha => ?_).symm
   rw [hh.down hf ha] at c; cases c
  | true =>
   rw [jL, c, if_pos rfl]
   rw [wP, List.filter_flatMap]
   refine kO fun x _ => ?_
   by_cases h : x ∈ pre
   ·simp [h]
   ·simp only [h, if_false]
    exact wV hh r _
theorem enumR_G {lines : List (List Int)} {s : Int} {n : Nat} : ∀ (r : Nat) (pre : List Int), enumR lines s n r pre = jL (agrZ lines s) n r pre
 | 0, _ => rfl
 | r + 1, pre => by
  rw [enumR, jL]
  cases agrZ lines s pre with
  | false => rfl
  | true =>
   rw [if_pos rfl, if_pos rfl]
   refine kO fun x _ => ?_
   rw [enumR_G r]
theorem agr_here {n : Nat} {lines : List (List Int)} {s : Int} (hl : ∀ l ∈ lines, AscL n l) : Here (agrZ lines s) := fun pre x h => by
 rw [agr_snoc hl, Bool.and_eq_true] at h; exact h.1
theorem agF_here {n : Nat} {lines : List (List Int)} (hl : ∀ l ∈ lines, AscL n l) : Here fun f => agF f lines none := fun pre x h => by
 obtain ⟨s, hs⟩ := (agF_none _ _).1 h
 exact (agF_none _ _).2 ⟨s, agr_here hl _ _ hs⟩
theorem bB {n : Nat} {lines : List (List Int)} {s : Int} (hl : ∀ l ∈ lines, AscL n l) : j8 lines s n n [] = (xF n n []).filter (agrZ lines s) := by
 have := enum_eq (s := s) hl n []
 rw [agr_nil hl, if_pos rfl, enumR_G, wV (agr_here hl)] at this
 exact this.symm
abbrev enumF (lines : List (List Int)) (n : Nat) : List (List Int) := jL (fun f => agF f lines none) n n []
theorem bC {n : Nat} {lines : List (List Int)} (hl : ∀ l ∈ lines, AscL n l) : enumF lines n = (xF n n []).filter fun f => agF f lines none := wV (agF_here hl) _ _
theorem perms_mem {n : Nat} : ∀ {r : Nat} {pre f : List Int}, f ∈ xF n r pre → pre.Nodup → (∀ x ∈ pre, 1 ≤ x ∧ x ≤ (n : Int)) → f.length = pre.length + r ∧ f.Nodup ∧ ∀ x ∈ f, 1 ≤ x ∧ x ≤ (n : Int)
 | 0, pre, f, h, h1, h2 => by
  simp [jL] at h; subst h; exact ⟨rfl, h1, h2⟩
 | r + 1, pre, f, h, h1, h2 => by
  rw [wP] at h
  obtain ⟨x, hx, hx2⟩ := List.mem_flatMap.1 h
  by_cases c : x ∈ pre
  ·simp [c] at hx2
  ·rw [if_neg c] at hx2
   obtain ⟨i, hi, rfl⟩ := List.mem_map.1 hx
   have := List.mem_range.1 hi
   obtain ⟨q1, q2⟩ := perms_mem hx2 (List.nodup_append.2 ⟨h1, by simp, fun a ha b hb e => by simp at hb; subst hb; subst e; exact c ha⟩) fun y hy => by
    rcases List.mem_append.1 hy with q | q
    ·exact h2 y q
    ·simp at q; omega
   exact ⟨by simp at q1; omega, q2⟩
theorem perms_nrm {n : Nat} {f : List Int} (h : f ∈ xF n n []) : f.length = n ∧ Nrm f := by
 obtain ⟨h1, h2, h3⟩ := perms_mem h (by simp) (by simp)
 simp at h1
 exact ⟨h1, h2, fun x hx => by rw [h1]; exact h3 x hx⟩
theorem last_memZ {l : List Int} (h : l ≠ []) : l.getLastD 0 ∈ l := by
 obtain ⟨a, q, rfl⟩ : ∃ a q, l = q ++ [a] := ⟨l.getLast h, l.dropLast, (List.dropLast_concat_getLast h).symm⟩
 rw [List.getLastD_eq_getLast?, List.getLast?_concat]; simp
theorem agrS_full {n : Nat} {l : List Int} {ls : List (List Int)} {s : Int} {f : List Int} (hl : ∀ q ∈ l :: ls, AscL n q) (hf : f.length = n) : agrZ (l :: ls) s f = (agF f (l :: ls) none && decide (yT l f = s)) := by
 have ha := hl l (by simp)
 have hlast := ha.2.2 _ (last_memZ ha.1)
 have c : ¬ (f.length : Int) ≤ l.getLastD 0 := by omega
 rw [agF, if_neg c, agF_some]
 have e : agrZ (l :: ls) s f = (decide (yT l f = s) && agrZ ls s f) := by rw [agrZ, List.all_cons, decide_eq_false c, Bool.false_or]; rfl
 rw [e]
 by_cases c2 : yT l f = s
 ·subst c2; simp
 ·simp [c2]
theorem enumF_filter {n : Nat} {l : List Int} {ls : List (List Int)} (s : Int) (hl : ∀ q ∈ l :: ls, AscL n q) : (enumF (l :: ls) n).filter (fun f => decide (yT l f = s)) = j8 (l :: ls) s n n [] := by
 rw [bC hl, bB hl, List.filter_filter]
 refine List.filter_congr fun f hf => ?_
 rw [agrS_full hl (perms_nrm hf).1, Bool.and_comm]
theorem perms_len {n : Nat} : ∀ {r : Nat} {pre : List Int}, pre.Nodup → (∀ x ∈ pre, 1 ≤ x ∧ x ≤ (n : Int)) → pre.length + r = n → (xF n r pre).length = factF r
 | 0, pre, _, _, _ => by simp [jL, factF]
 | r + 1, pre, h1, h2, h3 => by
  rw [wP, List.length_flatMap]
  have key : ∀ l : List Int, (∀ x ∈ l, 1 ≤ x ∧ x ≤ (n : Int)) → (l.map fun x => (if x ∈ pre then [] else xF n r (pre ++ [x])).length).sum = (l.filter fun x => decide (x ∉ pre)).length * factF r := by
   intro l
   induction l with
   | nil => intro _; simp
   | cons a l ih =>
    intro hl
    rw [List.map_cons, List.sum_cons, ih fun x hx => hl x (by simp [hx])]
    by_cases c : a ∈ pre
    ·simp [c]
    ·rw [if_neg c, perms_len (List.nodup_append.2 ⟨h1, by simp, fun x hx b hb e => by simp at hb; subst hb; subst e; exact c hx⟩) (fun y hy => by
      rcases List.mem_append.1 hy with q | q
      ·exact h2 y q
      ·simp at q; subst q; exact hl y (by simp)) (by simp; omega)]
     simp only [List.filter_cons, c, not_false_eq_true, decide_true, if_true, List.length_cons, Nat.add_mul]
     omega
  rw [key _ fun x hx => by
   obtain ⟨i, hi, rfl⟩ := List.mem_map.1 hx
   have := List.mem_range.1 hi; omega]
  have hc : ((upTo n).filter fun x => decide (x ∉ pre)).length = r + 1 := by
   obtain ⟨t, ht⟩ := xI pre (upTo n) h1 fun x hx => by
    have := h2 x hx
    exact List.mem_map.2 ⟨(x - 1).toNat, List.mem_range.2 (by omega), by omega⟩
   have hn := ht.nodup_iff.1 (upTo_nodup n)
   have hp := ht.filter fun x => decide (x ∉ pre)
   rw [hp.length_eq, List.filter_append]
   have e1 : pre.filter (fun x => decide (x ∉ pre)) = [] := List.filter_eq_nil_iff.2 fun x hx => by simp [hx]
   have e2 : t.filter (fun x => decide (x ∉ pre)) = t := List.filter_eq_self.2 fun x hx => by
    simp only [decide_eq_true_eq]
    intro q
    exact (List.nodup_append.1 hn).2.2 x q x hx rfl
   rw [e1, e2, List.nil_append]
   have := ht.length_eq
   simp at this; omega
  rw [hc, factF]
def lkS : List (Int × Int) → Int → Int
 | [], _ => 0
 |(y, c) :: q, s => if y = s then c else lkS q s
abbrev AscP (q : List (Int × Int)) : Prop := q.Pairwise (fun a b => a.1 < b.1)
theorem wS : ∀ {q : List (Int × Int)} {s : Int}, (∀ p ∈ q, p.1 ≠ s) → lkS q s = 0
 | [], _, _ => rfl
 |(y, c) :: q, s, h => by
  rw [lkS, if_neg (h (y, c) (by simp)), wS fun p hp => h p (by simp [hp])]
theorem lkS_mem : ∀ {q : List (Int × Int)} {p : Int × Int}, AscP q → p ∈ q → lkS q p.1 = p.2
 | [], _, _, h => by simp at h
 |(y, c) :: q, p, ha, h => by
  obtain ⟨h1, h2⟩ := List.pairwise_cons.1 ha
  rw [lkS]
  rcases List.mem_cons.1 h with rfl | h
  ·simp
  ·have := h1 p h
   rw [if_neg (by simp at this; omega), lkS_mem h2 h]
theorem lkS_uniq : ∀ {q r : List (Int × Int)}, AscP q → AscP r → (∀ p ∈ q, 0 < p.2) → (∀ p ∈ r, 0 < p.2) → (∀ s, lkS q s = lkS r s) → q = r
 | [], [], _, _, _, _, _ => rfl
 | [], (y, c) :: r, _, _, _, hp, h => by
  have := h y
  rw [lkS, lkS, if_pos rfl] at this
  have := hp (y, c) (by simp)
  simp at this; omega
 |(y, c) :: q, [], _, _, hp, _, h => by
  have := h y
  rw [lkS, lkS, if_pos rfl] at this
  have := hp (y, c) (by simp)
  simp at this; omega
 |(y, c) :: q, (z, d) :: r, hq, hr, hp, hp', h => by
  obtain ⟨q1, q2⟩ := List.pairwise_cons.1 hq
  obtain ⟨r1, r2⟩ := List.pairwise_cons.1 hr
  have c1 := hp (y, c) (by simp)
  have d1 := hp' (z, d) (by simp)
  simp only at c1 d1
  have hy := h y
  have hz := h z
  have a1 : y < z → False := fun hlt => by
   rw [lkS, if_pos rfl, wS] at hy
   ·omega
   ·intro p hp
    rcases List.mem_cons.1 hp with rfl | hp
    ·simp; omega
    ·have := r1 p hp; simp at this; omega
  have a2 : z < y → False := fun hlt => by
   rw [wS, lkS, if_pos rfl] at hz
   ·omega
   ·intro p hp
    rcases List.mem_cons.1 hp with rfl | hp
    ·simp; omega
    ·have := q1 p hp; simp at this; omega
  obtain rfl : y = z := by
   rcases Int.lt_trichotomy y z with q | q | q
   ·exact (a1 q).elim
   ·exact q
   ·exact (a2 q).elim
  rw [lkS, lkS, if_pos rfl, if_pos rfl] at hy
  subst hy
  congr 1
  refine lkS_uniq q2 r2 (fun p hq => hp p (by simp [hq])) (fun p hq => hp' p (by simp [hq])) fun s => ?_
  by_cases e : y = s
  ·subst e
   rw [wS fun p hp => by have := q1 p hp; simp at this; omega, wS fun p hp => by have := r1 p hp; simp at this; omega]
  ·have := h s
   rw [lkS, lkS, if_neg e, if_neg e] at this
   exact this
theorem wrapZs {k : Int} (h : 0 ≤ k) (h2 : k ≤ 2000000000) : IntKind.wrap .i64 k = k := Go.IntWalk.i64_in _ (by omega)
theorem lkS_ins {x s : Int} : ∀ {q : List (Int × Int)}, AscP q → lkS (insS x q) s = if x = s then IntKind.wrap .i64 (lkS q x + 1) else lkS q s
 | [], _ => by
  rw [insS, lkS]
  by_cases c : x = s
  ·subst c; simp only [lkS, if_true]; exact (wrapZs (k := 0 + 1) (by omega) (by omega)).symm
  ·simp [c, lkS]
 |(y, c) :: q, h => by
  obtain ⟨h1, h2⟩ := List.pairwise_cons.1 h
  have ih := lkS_ins (x := x) (s := s) h2
  rw [insS]
  by_cases c1 : y < x
  ·rw [if_pos c1, lkS, ih]
   by_cases e : x = s
   ·subst e
    rw [if_pos rfl, if_pos rfl, if_neg (by omega)]
    show _ = IntKind.wrap .i64 ((if y = x then c else lkS q x) + 1)
    rw [if_neg (by omega)]
   ·rw [if_neg e, if_neg e]; rfl
  ·rw [if_neg c1]
   by_cases c2 : y = x
   ·subst c2
    rw [if_pos rfl, lkS]
    by_cases e : y = s
    ·subst e
     rw [if_pos rfl, if_pos rfl]
     show _ = IntKind.wrap .i64 ((if y = y then c else lkS q y) + 1)
     rw [if_pos rfl]
    ·rw [if_neg e, if_neg e]; show _ = if y = s then c else lkS q s; rw [if_neg e]
   ·rw [if_neg c2, lkS]
    by_cases e : x = s
    ·subst e
     rw [if_pos rfl, if_pos rfl, wS fun p hp => by
      rcases List.mem_cons.1 hp with rfl | hp
      ·exact c2
      ·have := h1 p hp; simp at this; omega]
     exact (wrapZs (k := 0 + 1) (by omega) (by omega)).symm
    ·rw [if_neg e, if_neg e]
theorem insS_pos {x : Int} : ∀ {q : List (Int × Int)}, (∀ p ∈ q, 0 < p.2 ∧ p.2 ≤ 1000000000) → ∀ p ∈ insS x q, 0 < p.2
 | [], _, p, h => by simp [insS] at h; subst h; simp
 |(y, c) :: q, hq, p, h => by
  have hc := hq (y, c) (by simp)
  simp only at hc
  rw [insS] at h
  split at h
  ·rcases List.mem_cons.1 h with rfl | h
   ·exact hc.1
   ·exact insS_pos (fun p hp => hq p (by simp [hp])) p h
  ·split at h
   ·rcases List.mem_cons.1 h with rfl | h
    ·show 0 < IntKind.wrap .i64 (c + 1)
     rw [wrapZs (by omega) (by omega)]; omega
    ·exact (hq p (by simp [h])).1
   ·rcases List.mem_cons.1 h with rfl | h
    ·simp
    ·exact (hq p h).1
theorem specF_fold (g : List Int → Int) : ∀ (D : List (List Int)) (q : List (Int × Int)) (N : Nat), AscP q → (∀ p ∈ q, 0 < p.2) → (∀ s, 0 ≤ lkS q s ∧ lkS q s ≤ N) → N + D.length ≤ 1000000000 →
  AscP (D.foldl (fun q f => insS (g f) q) q) ∧ (∀ p ∈ D.foldl (fun q f => insS (g f) q) q, 0 < p.2) ∧ ∀ s, lkS (D.foldl (fun q f => insS (g f) q) q) s = lkS q s + ((D.filter fun f => decide (g f = s)).length : Int)
 | [], q, N, h1, h2, _, _ => ⟨h1, h2, fun s => by simp⟩
 | f :: D, q, N, h1, h2, h3, h4 => by
  rw [List.length_cons] at h4
  have hs : ∀ s, lkS (insS (g f) q) s = if g f = s then lkS q (g f) + 1 else lkS q s := fun s => by
   rw [lkS_ins h1]
   have := h3 (g f)
   rw [wrapZs (by omega) (by omega)]
  obtain ⟨r1, r2, r3⟩ := specF_fold g D (insS (g f) q) (N + 1) (insS_asc h1) (insS_pos fun p hp => by
   have := lkS_mem h1 hp
   have := h3 p.1
   have := h2 p hp
   omega) (fun s => by
   rw [hs]
   have := h3 s
   have := h3 (g f)
   split <;> omega) (by omega)
  refine ⟨r1, r2, fun s => ?_⟩
  rw [List.foldl_cons, r3, hs, List.filter_cons]
  by_cases c : g f = s
  ·subst c; simp; omega
  ·simp [c]
theorem specF_lk {l : List Int} {ls : List (List Int)} {D : List (List Int)} (hD : D.length ≤ 1000000000) : AscP (jE (l :: ls) D) ∧ (∀ p ∈ jE (l :: ls) D, 0 < p.2) ∧ ∀ s, lkS (jE (l :: ls) D) s = ((D.filter fun f => decide (yT l f = s)).length : Int) := by
 obtain ⟨h1, h2, h3⟩ := specF_fold (fun f => yT l f) D [] 0 .nil (by simp) (by simp [lkS]) (by omega)
 exact ⟨h1, h2, fun s => by rw [jE, h3]; simp [lkS]⟩
theorem spV_mem {lines : List (List Int)} {n : Nat} {lo : Int} {m : Nat} {p : Int × Int} : p ∈ spV lines n lo m ↔ (lo ≤ p.1 ∧ p.1 < lo + m) ∧ 0 < cntS lines n p.1 ∧ p.2 = (cntS lines n p.1 : Int) := by
 rw [spV, List.mem_filterMap]
 constructor
 ·rintro ⟨a, ha, h⟩
  obtain ⟨i, hi, rfl⟩ := List.mem_map.1 ha
  have := List.mem_range.1 hi
  rw [spF] at h
  split at h
  ·rename_i c
   have := Option.some.inj h
   subst this
   exact ⟨by simp; omega, c, rfl⟩
  ·cases h
 ·rintro ⟨h1, h2, h3⟩
  refine ⟨p.1, List.mem_map.2 ⟨(p.1 - lo).toNat, List.mem_range.2 (by omega), by omega⟩, ?_⟩
  rw [spF, if_pos h2, ← h3]
theorem spV_asc (lines : List (List Int)) (n : Nat) (lo : Int) : ∀ m, AscP (spV lines n lo m)
 | 0 => .nil
 | m + 1 => by
  rw [spV_succ]
  refine List.pairwise_append.2 ⟨spV_asc lines n lo m, ?_, fun a ha b hb => ?_⟩
  ·unfold spF; split <;> simp
  ·have h1 := (spV_mem.1 ha).1
   have h2 : b.1 = lo + m := by
    unfold spF at hb
    split at hb
    ·simp at hb; subst hb; rfl
    ·simp at hb
   omega
theorem spec_eq {n : Nat} {l : List Int} {ls : List (List Int)} {lo : Int} {m : Nat} (hl : ∀ q ∈ l :: ls, AscL n q) (hE : (enumF (l :: ls) n).length ≤ 1000000000) (hb : ∀ s, 0 < cntS (l :: ls) n s → lo ≤ s ∧ s < lo + m) : jE (l :: ls) (enumF (l :: ls) n) = spV (l :: ls) n lo m := by
 obtain ⟨h1, h2, h3⟩ := specF_lk (l := l) (ls := ls) hE
 refine lkS_uniq h1 (spV_asc _ _ _ _) h2 (fun p hp => by have := spV_mem.1 hp; omega) fun s => ?_
 rw [h3, enumF_filter s hl]
 by_cases c : 0 < cntS (l :: ls) n s
 ·have : (s, (cntS (l :: ls) n s : Int)) ∈ spV (l :: ls) n lo m := spV_mem.2 ⟨hb s c, c, rfl⟩
  exact (lkS_mem (spV_asc _ _ _ _) this).symm
 ·rw [wS fun p hp q => by
   have := (spV_mem.1 hp).2.1
   rw [q] at this; exact c this]
  have : cntS (l :: ls) n s = 0 := by omega
  unfold cntS at this
  rw [this]; rfl
theorem factF_le {n : Nat} (h : n ≤ 9) : factF n ≤ 362880 := by
 have : n = 0 ∨ n = 1 ∨ n = 2 ∨ n = 3 ∨ n = 4 ∨ n = 5 ∨ n = 6 ∨ n = 7 ∨ n = 8 ∨ n = 9 := by omega
 rcases this with rfl | rfl | rfl | rfl | rfl | rfl | rfl | rfl | rfl | rfl <;> decide
end Go.Ev
namespace Go.Ev
theorem perms_full {n : Nat} : ∀ {t pre : List Int}, (pre ++ t).Nodup → (∀ x ∈ t, 1 ≤ x ∧ x ≤ (n : Int)) → pre ++ t ∈ xF n t.length pre
 | [], pre, _, _ => by simp [jL]
 | x :: t, pre, h, hb => by
  rw [List.length_cons, wP]
  have hx := hb x (by simp)
  refine List.mem_flatMap.2 ⟨x, List.mem_map.2 ⟨(x - 1).toNat, List.mem_range.2 (by omega), by omega⟩, ?_⟩
  have hx2 : x ∉ pre := fun q => (List.nodup_append.1 h).2.2 x q x (by simp) rfl
  rw [if_neg hx2]
  have e : pre ++ x :: t = (pre ++ [x]) ++ t := by simp
  rw [e] at h ⊢
  exact perms_full h fun y hy => hb y (by simp [hy])
theorem perms_iff {n : Nat} {f : List Int} : f ∈ xF n n [] ↔ f.length = n ∧ Nrm f := by
 constructor
 ·exact perms_nrm
 ·rintro ⟨rfl, h1, h2⟩
  have := perms_full (n := f.length) (t := f) (pre := []) (by simpa using h1) h2
  simpa using this
theorem agrZ_full {n : Nat} {lines : List (List Int)} {s : Int} {f : List Int} (hl : ∀ l ∈ lines, AscL n l) (hf : f.length = n) : agrZ lines s f = true ↔ ∀ l ∈ lines, yT l f = s := by
 simp only [agrZ, List.all_eq_true, Bool.or_eq_true, decide_eq_true_eq]
 constructor
 ·intro h l hm
  rcases h l hm with q | q
  ·have := (hl l hm).2.2 _ (last_memZ (hl l hm).1)
   omega
  ·exact q
 ·intro h l hm; exact .inr (h l hm)
theorem enumN_iff {n : Nat} {lines : List (List Int)} {s : Int} {f : List Int} (hl : ∀ l ∈ lines, AscL n l) : f ∈ j8 lines s n n [] ↔ (f.length = n ∧ Nrm f) ∧ ∀ l ∈ lines, yT l f = s := by
 rw [bB hl, List.mem_filter, perms_iff]
 constructor
 ·rintro ⟨h1, h2⟩; exact ⟨h1, (agrZ_full hl h1.1).1 h2⟩
 ·rintro ⟨h1, h2⟩; exact ⟨h1, (agrZ_full hl h1.1).2 h2⟩
end Go.Ev
namespace Go.Ev
def incZ (v : Int) : Int := IntKind.wrap .i64 (v + 1)
def incT (A : List (List Int)) (c : Nat) (x : Int) : List (List Int) := A.set c ((A.getD c []).set (x - 1).toNat (incZ ((A.getD c []).getD (x - 1).toNat 0)))
def addFi (A : List (List Int)) (fl : List Int) : Nat → List (List Int)
 | 0 => A
 | i + 1 => incT (addFi A fl i) i (fl.getD i 0)
def addF (A : List (List Int)) (fl : List Int) : List (List Int) := addFi A fl fl.length
def zeroT (n : Nat) : List (List Int) := List.replicate n (List.replicate n 0)
def xU (n : Nat) (fs : List (List Int)) : List (List Int) := fs.foldl addF (zeroT n)
def Sq (n : Nat) (A : List (List Int)) : Prop := A.length = n ∧ ∀ r ∈ A, r.length = n
theorem Sq.get {n c : Nat} {A : List (List Int)} (h : Sq n A) (hc : c < n) : A[c]? = some (A.getD c []) ∧ (A.getD c []).length = n := by
 have h1 := h.1
 rw [List.getD_eq_getElem?_getD, List.getElem?_eq_getElem (by omega)]
 exact ⟨rfl, h.2 _ (List.getElem_mem _)⟩
theorem Sq.inc {n c : Nat} {A : List (List Int)} {x : Int} (h : Sq n A) (hc : c < n) : Sq n (incT A c x) := by
 refine ⟨by simp [incT, h.1], fun r hr => ?_⟩
 rcases List.mem_or_eq_of_mem_set hr with q | rfl
 ·exact h.2 r q
 ·rw [List.length_set]; exact (h.get hc).2
theorem Sq.fi {n : Nat} {A : List (List Int)} {fl : List Int} (h : Sq n A) : ∀ i, i ≤ n → Sq n (addFi A fl i)
 | 0, _ => h
 | i + 1, hi => (Sq.fi h i (by omega)).inc (by omega)
theorem Sq.zero (n : Nat) : Sq n (zeroT n) := ⟨by simp [zeroT], fun r hr => by simp [zeroT] at hr; rw [hr.2]; simp⟩
end Go.Ev
namespace Go.Ev
open Go Go.Proofs
variable {B : Nat}
abbrev tI (A : List (List Int)) : List (List AV) := A.map fun r => r.map I
end Go.Ev
namespace Go.Ev
open Go Go.Proofs
variable {B : Nat}
def uT (k : Nat) : Int := IntKind.wrap .i64 (k : Int)
theorem wrapN_succ (k : Nat) : IntKind.wrap .i64 (uT k + 1) = uT (k + 1) := by
 have := wrap_sub (k : Int) (-1)
 rw [show (IntKind.wrap .i64 (k : Int) - -1) = uT k + 1 by rw [uT]; omega, show ((k : Int) - -1) = ((k + 1 : Nat) : Int) by omega] at this
 exact this
abbrev mZ (n : Nat) (rows : List (Pa × Option Nat)) : List AV := rows.map fun r => .sl r.1 0 n r.2 1
abbrev rowsO (rows : List (Pa × Option Nat)) (D : List (List Int)) : List Ob := List.zipWith (fun r fl => Ob.arr r.1 (fl.map I)) rows D
structure TL (n : Nat) (lines : List (List Int)) (s : Int) (most : Nat) (tb : Pa) (D : List (List Int)) (t : AV) (L : List Ob) : Prop where
 ex : ∃ (o : Option Pa) (rs : List (Option Pa)) (rows : List (Pa × Option Nat)) (sv : AV) (S : List Ob), t = .agg [I s, .bool false, I most, I (uT D.length), sv, rowV o 1 rows.length, .sl tb 0 n (some n) 1] ∧
  L = .gro o 1 rows.length (mZ n rows) :: .tab tb rs (tI (xU n D)) :: (S ++ rowsO rows (D.take most)) ∧ rows.length = (D.take most).length ∧ (∀ r ∈ rows, bG n r.2) ∧ (∀ c, c < n → ∃ r, rs[c]? = some (some r)) ∧
  ((sv = .nils ∧ S = [] ∧ (lines = [] ∨ D = [])) ∨ ∃ id c, sv = .sl id 0 1 none 2 ∧ S = [.arr id [I s, I c]] ∧ lines ≠ [])
theorem Sq.fold {n : Nat} : ∀ (l A : List (List Int)), Sq n A → (∀ f ∈ l, f.length = n) → Sq n (l.foldl addF A)
 | [], A, h, _ => h
 | f :: l, A, h, hl => by
  rw [List.foldl_cons]
  refine Sq.fold l _ ?_ fun x hx => hl x (by simp [hx])
  rw [addF, hl f (by simp)]
  exact h.fi n (Nat.le_refl _)
theorem Sq.dist {n : Nat} {D : List (List Int)} (h : ∀ f ∈ D, f.length = n) : Sq n (xU n D) := Sq.fold D _ (.zero n) h
end Go.Ev
namespace Go.Ev
open Go Go.Proofs
variable {B : Nat}
theorem m5 {l f : List Int} (hl : l.length ≤ 1000000) (hc : ∀ c ∈ l, 0 ≤ c ∧ c < (f.length : Int)) (hf9 : ∀ v ∈ f, 0 ≤ v ∧ v ≤ 9) : Pure Tryz.prog B 127 [encI l, encI f] (· = I (yT l f)) := by
 intro p h nx K hK
 refine zP zT dreg 10000000 fun hf => ?_
 rw [F127.go]
 refine F127.L1 (fun m z3 z4 h' nx' => ∃ i : Nat, z4 = I i ∧ z3 = I (yT (l.take i) f) ∧ l.length - i = m ∧ i ≤ l.length ∧ h' = h ∧ nx' = nx) (m := l.length) (by omega) ⟨0, rfl, rfl, rfl, by omega, rfl, rfl⟩ ?_
 rintro m z3 z4 z5 _ _ R ⟨i, rfl, rfl, rfl, hi, rfl, rfl⟩ hR
 simp (disch := omega) only [sAdd, sSub, sMul, sEql, sNeq, sLss, sLeq, sGtr, sGeq, zI, zK, zC, zA, yJ, yN, yO, yP, zV, yE, yB, yU, yI, yH, yG, zF, zS, zJ, zB, decide_true, decide_false, Bool.not_true, Bool.not_false, yA]
 by_cases hlt : i < l.length
 ·simp only [show (i : Int) < (l.length : Int) by omega, decide_true, zC]
  have hx : l[i]? = some l[i] := List.getElem?_eq_getElem hlt
  obtain ⟨c0, c1⟩ := hc _ (List.getElem_mem hlt)
  have hv : f[(l[i]).toNat]? = some (f.getD (l[i]).toNat 0) := by rw [List.getD_eq_getElem?_getD, List.getElem?_eq_getElem (by omega)]; rfl
  rw [sIxL rfl hlt, ldL (getI hx), sIxL (i := (l[i]).toNat) (by omega) (by omega), ldL (getI hv)]
  have hs : yT (l.take (i + 1)) f = yT (l.take i) f + f.getD (l[i]).toNat 0 := by
   rw [List.take_add_one, hx, Option.toList_some, lsum_snoc]
  have hb := bM (M := 9) (fun v hv => by have := hf9 v hv; omega) (l.take (i + 1))
  rw [List.length_take] at hb
  rw [sAdd (by omega)]
  try rw [sAdd (by omega)]
  exact hR _ _ _ _ _ _ (by omega) ⟨i + 1, rfl, by rw [hs], rfl, by omega, rfl, rfl⟩
 ·simp only [show ¬ (i : Int) < (l.length : Int) by omega, decide_false, zA]
  rw [F127.k8]
  refine hK _ ?_ hf
  rw [List.take_of_length_le (by omega)]
end Go.Ev
namespace Go.Ev
open Go Go.Proofs
variable {B : Nat}
theorem frz_aggS {N : Pa → Prop} {O : AV → Prop} {hh : T Blk} {l : List AV} (hs : l.all scal = true) (h : ∀ v ∈ l, Frz True N O hh v v) : Frz True N O hh (.agg l) (.agg l) :=
 .agg _ _ rfl hs fun i v v' h1 h2 => by rw [h1] at h2; cases h2; exact h v (List.mem_of_getElem? h1)
theorem fixd_sys' {cells : Int} {lines : List (List Int)} : ∀ v ∈ [I cells, encT lines], fixd v = true := fun v hv => by
 simp only [List.mem_cons, List.not_mem_nil, or_false] at hv
 rcases hv with rfl | rfl
 ·rfl
 ·exact vO lines
theorem pK {h' h : T Blk} {id : Pa} {off ln esz : Nat} {cap : Option Nat} (hl : T.get .no id h' ≠ .no) : FrzN h' h (.sl id off ln cap esz) (.sl id off ln cap esz) := .old _ (.inr (.inr (.inr ⟨id, off, ln, cap, esz, rfl, hl⟩)))
variable {n most : Nat} {lines : List (List Int)} {s : Int} {tb us : Pa} {h0 : T Blk} {M : List Ob}
theorem TL.cells {D : List (List Int)} {t : AV} {L : List Ob} (h : TL n lines s most tb D t L) : ∃ a b c d e, t = .agg [I s, .bool false, a, b, c, d, e] ∧ t.cells = some [I s, .bool false, a, b, c, d, e] := by
 obtain ⟨o, rs, rows, sv, S, rfl, rfl, hrl, hcap, hrs, hsp⟩ := h.ex
 refine ⟨_, _, _, _, _, rfl, ?_⟩
 rcases hsp with ⟨rfl, _⟩ | ⟨id, c, rfl, _⟩ <;> cases o <;> rfl
theorem TL.frz {D : List (List Int)} {t : AV} {L A C : List Ob} {h' h : T Blk} {nx : Pa} (hT : TL n lines s most tb D t L) (H : Hp h0 h' nx (A ++ (L ++ C))) : FrzN h' h t t := by
 obtain ⟨o, rs, rows, sv, S, rfl, rfl, hrl, hcap, hrs, hsp⟩ := hT.ex
 have live : ∀ x : Ob, x ∈ (A ++ ((.gro o 1 rows.length (mZ n rows) :: .tab tb rs (tI (xU n D)) :: (S ++ rowsO rows (D.take most))) ++ C)) → ∀ id ∈ x.names, T.get .no id h' ≠ .no := fun x hx id hid => (H.own x hx).live id hid
 have hrow : FrzN h' h (rowV o 1 rows.length) (rowV o 1 rows.length) := by
  cases o with
  | none => exact .nils
  | some id => exact pK (live (.gro (some id) 1 rows.length (mZ n rows)) (by simp) id (by simp [Ob.names]))
 have htb : FrzN h' h (.sl tb 0 n (some n) 1) (.sl tb 0 n (some n) 1) := pK (live (.tab tb rs (tI (xU n D))) (by simp) tb (by simp [Ob.names]))
 have hsv : FrzN h' h sv sv ∧ scal sv = true := by
  rcases hsp with ⟨rfl, _⟩ | ⟨id, c, rfl, rfl, _⟩
  ·exact ⟨.nils, rfl⟩
  ·exact ⟨pK (live (.arr id [I s, I c]) (by simp) id (by simp [Ob.names])), rfl⟩
 have hrs' : scal (rowV o 1 rows.length) = true := by cases o <;> rfl
 refine frz_aggS (by simp only [List.all_cons, List.all_nil, hsv.2, hrs', Bool.and_true]; rfl) fun v hv => ?_
 simp only [List.mem_cons, List.not_mem_nil, or_false] at hv
 rcases hv with rfl | rfl | rfl | rfl | rfl | rfl | rfl
 ·exact .int _ _
 ·exact .bool _
 ·exact .int _ _
 ·exact .int _ _
 ·exact hsv.1
 ·exact hrow
 ·exact htb
abbrev usO (n : Nat) (us : Pa) (pre : List Int) : Ob := .arr us ((kL n pre).map AV.bool)
end Go.Ev
namespace Go.Ev
open Go Go.Proofs
variable {B : Nat}
theorem fixdI2 {l : List Int} : ∀ v ∈ l.map I, fixd v = true := fun v hv => by obtain ⟨x, _, rfl⟩ := List.mem_map.1 hv; rfl
theorem TL.fix {n most : Nat} {lines : List (List Int)} {s : Int} {tb : Pa} {D : List (List Int)} {t : AV} {L A C : List Ob} {h0 h : T Blk} {nx : Pa} (hT : TL n lines s most tb D t L) (hD : ∀ f ∈ D, f.length = n) (H : Hp h0 h nx (A ++ (L ++ C))) :
  ∃ sv, FrzN h0 h t (.agg [I s, .bool false, I most, I (uT D.length), sv, encT (D.take most), encT (xU n D)]) ∧ (sv = .nils ∨ ∃ c, sv = .lst 2 1 [I s, I c]) := by
 obtain ⟨o, rs, rows, sv, S, rfl, rfl, hrl, hcap, hrs, hsp⟩ := hT.ex
 have idx : ∀ x : Ob, x ∈ (A ++ ((.gro o 1 rows.length (mZ n rows) :: .tab tb rs (tI (xU n D)) :: (S ++ rowsO rows (D.take most))) ++ C)) → ∃ k : Nat, (A ++ ((.gro o 1 rows.length (mZ n rows) :: .tab tb rs (tI (xU n D)) :: (S ++ rowsO rows (D.take most))) ++ C))[k]? = some x := fun x hx => List.mem_iff_getElem?.1 hx
 have hSq := Sq.dist (n := n) hD
 have hrow : ∀ (i : Nat) v v', (mZ n rows)[i]? = some v → ((D.take most).map encI)[i]? = some v' → FrzN h0 h v v' := by
  intro i v v' q1 q2
  rw [List.getElem?_map] at q1 q2
  cases e1 : rows[i]? with
  | none => rw [e1] at q1; cases q1
  | some r =>
   cases e2 : (D.take most)[i]? with
   | none => rw [e2] at q2; cases q2
   | some fl =>
    rw [e1] at q1; rw [e2] at q2
    have q1 := Option.some.inj q1
    have q2 := Option.some.inj q2
    subst q1 q2
    have hfl : fl.length = n := hD fl (List.mem_of_mem_take (List.mem_of_getElem? e2))
    have hm : Ob.arr r.1 (fl.map I) ∈ rowsO rows (D.take most) := List.mem_iff_getElem?.2 ⟨i, by rw [rowsO, List.getElem?_zipWith, e1, e2]⟩
    obtain ⟨k, hk⟩ := idx (.arr r.1 (fl.map I)) (by simp only [List.mem_append, List.mem_cons]; exact .inr (.inl (.inr (.inr (.inr hm)))))
    have := H.frzArr hk (hcap r (List.mem_of_getElem? e1)) (e := 1) (by simp [hfl]) fixdI2
    have e3 : AV.lst 1 n (fl.map I) = encI fl := by rw [← hfl]
    rw [e3] at this; exact this
 have hlist : FrzN h0 h (rowV o 1 rows.length) (encT (D.take most)) := by
  obtain ⟨k, hk⟩ := idx (.gro o 1 rows.length (mZ n rows)) (by simp)
  have own := H.own _ (List.mem_of_getElem? hk)
  cases o with
  | none =>
   obtain ⟨_, q⟩ := own
   have : D.take most = [] := List.eq_nil_of_length_eq_zero (by omega)
   rw [this]; exact .lnils 1
  | some id =>
   obtain ⟨t, g1, g2, g3⟩ := own
   have harr : HasArr h id (mZ n rows) := ⟨true, t, by rw [g1, g2], by rw [g2]; exact g3⟩
   have hoff := H.off id (List.mem_flatMap.2 ⟨_, List.mem_of_getElem? hk, by simp [Ob.names]⟩)
   have := HasArr.frzE (N := fun id => T.get Blk.no id h0 = .no) (O := fun v => (∃ id off, v = .ptr id off ∧ T.get Blk.no id h0 ≠ .no) ∨ (∃ id, v = .yld id ∧ T.get Blk.no id h0 ≠ .no) ∨ (∃ id, v = .map id ∧ T.get Blk.no id h0 ≠ .no) ∨ (∃ id off ln cap esz, v = .sl id off ln cap esz ∧ T.get Blk.no id h0 ≠ .no)) (cap := none) (e := 1) (n := rows.length) (l' := (D.take most).map encI) harr hoff trivial (by simp) (by rw [List.length_map, List.length_map, hrl]) (List.all_eq_true.2 fun v hv => by obtain ⟨x, _, rfl⟩ := List.mem_map.1 hv; rfl) hrow
   rw [hrl] at this ⊢
   exact this
 have htab : FrzN h0 h (.sl tb 0 n (some n) 1) (encT (xU n D)) := by
  obtain ⟨k, hk⟩ := idx (.tab tb rs (tI (xU n D))) (by simp)
  have := H.frzTab hk (cap := some n) (n := n) (Nat.le_refl _) (by simp [hSq.1]) (fun l hl v hv => by
   obtain ⟨r, _, rfl⟩ := List.mem_map.1 hl
   obtain ⟨x, _, rfl⟩ := List.mem_map.1 hv
   rfl)
  have e : AV.lst 1 n ((tI (xU n D)).map fun l => AV.lst 1 l.length l) = encT (xU n D) := by
   show _ = AV.lst 1 _ _
   rw [hSq.1]
   simp [tI, Function.comp_def]
  rw [e] at this; exact this
 have hsv : ∃ sv', FrzN h0 h sv sv' ∧ (sv' = .nils ∨ ∃ c, sv' = .lst 2 1 [I s, I c]) := by
  rcases hsp with ⟨rfl, _⟩ | ⟨id, c, rfl, rfl, _⟩
  ·exact ⟨.nils, .nils, .inl rfl⟩
  ·obtain ⟨k, hk⟩ := idx (.arr id [I s, I c]) (by simp)
   exact ⟨_, H.frzArr hk (cap := none) (n := 1) (e := 2) trivial rfl (fun v hv => by simp only [List.mem_cons, List.not_mem_nil, or_false] at hv; rcases hv with rfl | rfl <;> rfl), .inr ⟨c, rfl⟩⟩
 obtain ⟨sv', hs1, hs2⟩ := hsv
 refine ⟨sv', .agg _ _ rfl (by rcases hs2 with rfl | ⟨c, rfl⟩ <;> rfl) fun i v v' q1 q2 => ?_, hs2⟩
 match i with
 | 0 => simp only [List.getElem?_cons_zero, Option.some.injEq] at q1 q2; subst q1 q2; exact .int _ _
 | 1 => simp only [List.getElem?_cons_succ, List.getElem?_cons_zero, Option.some.injEq] at q1 q2; subst q1 q2; exact .bool _
 | 2 => simp only [List.getElem?_cons_succ, List.getElem?_cons_zero, Option.some.injEq] at q1 q2; subst q1 q2; exact .int _ _
 | 3 => simp only [List.getElem?_cons_succ, List.getElem?_cons_zero, Option.some.injEq] at q1 q2; subst q1 q2; exact .int _ _
 | 4 => simp only [List.getElem?_cons_succ, List.getElem?_cons_zero, Option.some.injEq] at q1 q2; subst q1 q2; exact hs1
 | 5 => simp only [List.getElem?_cons_succ, List.getElem?_cons_zero, Option.some.injEq] at q1 q2; subst q1 q2; exact hlist
 | 6 => simp only [List.getElem?_cons_succ, List.getElem?_cons_zero, Option.some.injEq] at q1 q2; subst q1 q2; exact htab
 | i + 7 => simp at q1
end Go.Ev
namespace Go.Ev
open Go Go.Proofs
variable {B : Nat}
end Go.Ev
namespace Go.Ev
open Go Go.Proofs
variable {B : Nat}
theorem samePairs66 {a b : List (Int × Int)} (ha : a.length ≤ 1000000) : Pure Tryz.prog B 66 [encP a, encP b] (· = .bool (decide (a = b))) := by
 intro p h nx K hK
 refine zP zT dreg 10000000 fun hf => ?_
 rw [F66.go]
 simp only [zF, sNeq]
 by_cases hl : a.length = b.length
 case neg =>
  have h1 : ¬ (a.length : Int) = (b.length : Int) := by omega
  simp only [h1, decide_false, Bool.not_false, zC]
  refine hK _ ?_ hf
  rw [decide_eq_false fun q => hl (by rw [q])]
 simp only [show (a.length : Int) = (b.length : Int) by omega, decide_true, Bool.not_true, zA]
 refine F66.L2 (fun m z3 h' nx' => ∃ i : Nat, z3 = I i ∧ m = a.length - i ∧ i ≤ a.length ∧ h' = h ∧ nx' = nx ∧ a.take i = b.take i) (m := a.length) (by omega) ⟨0, rfl, by simp, by omega, rfl, rfl, by simp⟩ ?_
 rintro m z2 z3 z5 z6 h nx R ⟨i, rfl, rfl, hi, rfl, rfl, htk⟩ hR
 simp only [zF, sLss]
 by_cases hlt : i < a.length
 case neg =>
  simp only [show ¬ (i : Int) < (a.length : Int) by omega, decide_false, zA]
  rw [F66.k9]
  refine hK _ ?_ hf
  rw [List.take_of_length_le (by omega), List.take_of_length_le (by omega)] at htk
  rw [decide_eq_true htk]
 simp only [show (i : Int) < (a.length : Int) by omega, decide_true, zC]
 have hx : a[i]? = some a[i] := List.getElem?_eq_getElem hlt
 have hy : b[i]? = some b[i] := List.getElem?_eq_getElem (by omega)
 rw [sIxL rfl hlt, jN hlt, dL, sIxL rfl (by omega), jN (by omega), dL, sNeqP]
 by_cases c : a[i] = b[i]
 ·rw [c]
  simp only [decide_true, Bool.and_self, Bool.not_true, zA]
  rw [sAdd (by omega)]
  exact hR _ _ _ _ _ _ _ (by omega) ⟨i + 1, rfl, rfl, by omega, rfl, rfl, by rw [List.take_add_one, List.take_add_one, htk, hx, hy, c]⟩
 ·have hne : (decide (a[i].1 = b[i].1) && decide (a[i].2 = b[i].2)) = false := by
   rw [Bool.eq_false_iff]
   intro q
   simp only [Bool.and_eq_true, decide_eq_true_eq] at q
   exact c (Prod.ext q.1 q.2)
  rw [hne]
  simp only [Bool.not_false, zC]
  refine hK _ ?_ hf
  rw [decide_eq_false]
  intro q
  subst q
  exact c rfl
def loB (n : Nat) (lines : List (List Int)) : Int := (loS (srt (degS n lines)) + lines.length - 1).tdiv lines.length
def hiB (n : Nat) (lines : List (List Int)) : Int := (hiS (srt (degS n lines))).tdiv lines.length
theorem AscL.len {n : Nat} {l : List Int} (h : AscL n l) : l.length ≤ n := by
 obtain ⟨t, ht⟩ := xI l ((List.range n).map fun (i : Nat) => (i : Int)) (h.2.1.imp fun {x y} q e => by omega) fun x hx => by
  have := h.2.2 x hx
  exact List.mem_map.2 ⟨x.toNat, List.mem_range.2 (by omega), by omega⟩
 have := ht.length_eq
 simp at this
 omega
theorem bnd_bd {n : Nat} {lines : List (List Int)} (h0 : 0 < lines.length) (hn : n ≤ 9) (hm : lines.length ≤ 128) (hl : ∀ l ∈ lines, AscL n l) : 0 ≤ loB n lines ∧ loB n lines ≤ 200000 ∧ 0 ≤ hiB n lines ∧ hiB n lines ≤ 200000 := by
 have hM : Bd (srt (degS n lines)) 1152 := (bN (W := 9) fun l hm => ⟨Nat.le_trans (hl l hm).len hn, fun c hc => by have := (hl l hm).2.2 c hc; omega⟩).srt.mono (by omega)
 have hlen : (srt (degS n lines)).length = n := by rw [kW, j4]
 unfold loB hiB loS hiS
 generalize srt (degS n lines) = d at *
 have hf1 : ∀ j, j < d.length → 0 ≤ (j : Int) + 1 ∧ (j : Int) + 1 ≤ ((9 : Nat) : Int) := fun j hj => by omega
 have hf2 : ∀ j, j < d.length → 0 ≤ (d.length : Int) - j ∧ (d.length : Int) - j ≤ ((9 : Nat) : Int) := fun j hj => by omega
 obtain ⟨w1, w2⟩ := wK hM hf1 d.length (Nat.le_refl _)
 obtain ⟨w3, w4⟩ := wK hM hf2 d.length (Nat.le_refl _)
 obtain ⟨q1, q2⟩ := quo_bd (a := wsum (fun i => (d.length : Int) - i) d d.length + lines.length - 1) (by omega) h0
 obtain ⟨q3, q4⟩ := quo_bd (a := wsum (fun i => (i : Int) + 1) d d.length) (by omega) h0
 refine ⟨q1, ?_, q3, ?_⟩ <;> (have : d.length ≤ 9 := by omega) <;> omega
def stpC (k : Nat) (_ : List Int) : Nat × Bool := (k + 1, true)
theorem foldC : ∀ (l : List (List Int)) (k : Nat), uA stpC k l = (k + l.length, true)
 | [], k => rfl
 | x :: l, k => by
  show uA stpC (k + 1) l = _
  rw [foldC l, List.length_cons]
  congr 1; omega
def F113.LC (tm : T AV) (b7 id : Pa) (X : List Ob) (_ : Bool) (k : Nat) (L : List Ob) : Prop := L = .raw id (.loop .ready .none tm [.of 10] F113.b9 F113.b10) :: .arr b7 [I (uT k)] :: X
theorem F113.yc {h0 : T Blk} {n : Nat} {lines : List (List Int)} {s : Int} {b7 id : Pa} {X : List Ob} {x0 x1 x2 x3 x4 x5 x6 x8 x9 x10 x11 : AV} (f bu bf be bp bg : Pa) : YC B h0 n lines s f bu bf be bp bg id (F113.LC (F113.fr x0 x1 x2 x3 x4 x5 x6 (.ptr b7 0) x8 x9 x10 x11) b7 id X) stpC := by
 rintro k fl m h nx K L hfl hrg rfl H hK
 refine by_round (fns := tbl) dreg 100 fun hf => ?_
 rw [F113.y10 (getLoop H (k := 6) rfl) rfl]
 have H1 := H.setRaw (k := 6) rfl (b' := .loop .busy .none (F113.fr x0 x1 x2 x3 x4 x5 x6 (.ptr b7 0) x8 x9 x10 x11) [.of 10] F113.b9 F113.b10) (by intro e; cases e)
 rw [H1.load (k := 7) (i := 0) rfl rfl, sAddW, wrapN_succ]
 refine H1.store (k := 7) rfl (by simp) rfl fun h2 H2 => ?_
 refine H2.rend (k := 6) rfl fun h3 H3 => ?_
 exact hK _ _ _ rfl H3
theorem spectrum113 {n : Nat} {lines : List (List Int)} (hj : ∀ B, JOk Tryz.prog B kE) (h0 : 0 < lines.length) (hn9 : n ≤ 9) (hm : lines.length ≤ 128) (hl : ∀ l ∈ lines, AscL n l ∧ l.length ≤ 1000) : Pure Tryz.prog B 113 [.agg [I n, encT lines]] (· = encP (spV lines n (loB n lines) (hiB n lines + 1 - loB n lines).toNat)) := by
 refine yX fun h nx K H0 hK => zP zT dreg 100000000 fun hf => ?_
 obtain ⟨d1, d2, d3, d4⟩ := bnd_bd h0 hn9 hm fun l h => (hl l h).1
 rw [F113.go]
 refine H0.box (l := [I n, encT lines]) rfl fun bx h1 nx1 H1 => ?_
 rw [H1.loadN (k := 0) (n := 2) rfl rfl]
 refine bounds83 hj h0 (by omega) hm (fun l h => ⟨(hl l h).2, (hl l h).1.2.2⟩) _ _ _ _ ?_
 rintro _ rfl _
 unfold bndV
 simp only [yE, yB]
 rw [show (loS (srt (degS n lines)) + lines.length - 1).tdiv lines.length = loB n lines from rfl, show (hiS (srt (degS n lines))).tdiv lines.length = hiB n lines from rfl]
 generalize loB n lines = lo at *
 generalize hiB n lines = hi at *
 have hcnt : ∀ s, cntS lines n s ≤ 1000000000 := fun s => Nat.le_trans (enum_len n []) (Nat.le_trans (Nat.pow_le_pow_left hn9 n) (Nat.le_trans (Nat.pow_le_pow_right (by omega) hn9) (by decide)))
 refine F113.L1 (fun m x3 x6 x10 x11 h' nx' => ∃ (i : Nat) (o : Option Pa) (X : List Ob), x6 = I (lo + i) ∧ m = (hi + 1 - lo).toNat - i ∧ i ≤ (hi + 1 - lo).toNat ∧ x3 = rowV o 2 (spV lines n lo i).length ∧ Hp h h' nx' (.gro o 2 (spV lines n lo i).length (yV (spV lines n lo i)) :: .arr bx [I n, encT lines] :: X)) (m := (hi + 1 - lo).toNat) (by omega)
  ⟨0, none, [], by simp, by omega, by omega, rfl, H1.addGro 2⟩ ?_
 rintro m x3 x6 x7 x8 x9 x10 x11 h2 nx2 R ⟨i, o, X, rfl, rfl, hi', rfl, H2⟩ hR
 simp only [sLeq]
 have hsl := spV_len lines n lo i
 by_cases hlt : lo + i ≤ hi
 case neg =>
  simp only [hlt, decide_false, zA]
  rw [F113.k14]
  obtain rfl : i = (hi + 1 - lo).toNat := by omega
  exact hK _ _ _ _ _ H2 (H2.frzGro (k := 0) rfl dR) rfl
 simp only [hlt, decide_true, zC]
 refine H2.alloc fun b7 h3 nx3 H3 => ?_
 refine H3.store (k := 0) rfl (by simp) rfl fun h4 H4 => ?_
 rw [H4.loadN (k := 2) (n := 2) rfl rfl]
 refine normal107 _ _ _ _ ?_
 rintro _ rfl _
 have H4' : Hp h h4 nx3 (.arr b7 [I (uT 0)] :: .gro o 2 (spV lines n lo i).length (yV (spV lines n lo i)) :: .arr bx [I n, encT lines] :: X) := H4
 refine H4'.rf (g := 136) (p := .of 136) (cap := [.fp [I n, encT lines], .fp [I (lo + i)]]) rfl fun id h5 nx5 H5 => ?_
 refine normal136 (LC := F113.LC _ b7 id (.gro o 2 (spV lines n lo i).length (yV (spV lines n lo i)) :: .arr bx [I n, encT lines] :: X)) (stp := stpC) (st := 0) hn9 (by omega) hl (by omega) (fun f bu bf be bp bg => F113.yc f bu bf be bp bg) rfl H5 fun h6 nx6 L' hL' H6 => ?_
 rw [foldC] at hL'
 simp only [Nat.zero_add] at hL'
 unfold F113.LC at hL'
 subst hL'
 refine H6.rfEnd fun h7 H7 => ?_
 show Ev.rfEnd _ _ .ready .none _ h7 nx6 = _
 rw [rfEnd_on, F113.k12, H7.load (k := 0) (i := 0) rfl rfl]
 have hwc : uT (j8 lines (lo + (i : Int)) n n []).length = ((cntS lines n (lo + i) : Nat) : Int) := uU (by have : (j8 lines (lo + (i : Int)) n n []).length ≤ 1000000000 := hcnt (lo + i); omega)
 rw [hwc]
 have hC := hcnt (lo + i)
 simp only [sGtr]
 have e1 : lo + (i : Int) + 1 = lo + ((i + 1 : Nat) : Int) := by omega
 by_cases c : 0 < cntS lines n (lo + i)
 ·simp only [show (0 : Int) < ((cntS lines n (lo + i) : Nat) : Int) by omega, decide_true, zC]
  rw [H7.load (k := 0) (i := 0) rfl rfl, hwc]
  have eb : ∀ (x y : Int) (K' : AV → OP), gB [(I 0), (I 0)] [(0, 1, I x), (1, 1, I y)] K' = K' (.agg [I x, I y]) := fun x y K' => nr rfl
  rw [eb]
  refine H7.bslice (l := [I (lo + i), I (cntS lines n (lo + i))]) rfl fun b8 h8 nx8 H8 => ?_
  refine H8.appN (k := 2) (o := o) (c := 1) (new := [I (lo + i), I (cntS lines n (lo + i))]) rfl (HasArr.rd (l := [I (lo + i), I (cntS lines n (lo + i))]) (n := 1) (e := 2) (H8.own _ (List.mem_cons_self ..)) rfl) rfl rfl (by decide) (by decide) (by omega) fun o' h9 nx9 _ H9 => ?_
  rw [F113.k13, sAdd (by omega), e1]
  have es : spV lines n lo (i + 1) = spV lines n lo i ++ [(lo + (i : Int), ((cntS lines n (lo + i) : Nat) : Int))] := by
   rw [spV_succ, spF, if_pos c]; rfl
  have H10 := H9.drop.drop
  refine hR _ _ _ _ _ _ _ _ _ _ (by omega) ⟨i + 1, o', X, rfl, rfl, by omega, by rw [es]; simp, H10.cast ?_⟩
  rw [es, mN]
  simp [yV]
 ·simp only [show ¬ (0 : Int) < ((cntS lines n (lo + i) : Nat) : Int) by omega, decide_false, zA]
  rw [F113.k13, sAdd (by omega), e1]
  have es : spV lines n lo (i + 1) = spV lines n lo i := by
   rw [spV_succ, spF, if_neg c]; simp
  refine hR _ _ _ _ _ _ _ _ _ _ (by omega) ⟨i + 1, o, X, rfl, rfl, by omega, by rw [es], ?_⟩
  rw [es]
  exact H7.drop
end Go.Ev
namespace Go.Ev
open Go Go.Proofs
variable {B : Nat}
theorem agreesF90 {n : Nat} {lines : List (List Int)} {b : AV} {f : List Int} {rest : List AV} {p : Pa} {h0 h : T Blk} {nx : Pa} {L : List Ob} {K : Kw Prop} (hn : lines.length ≤ 1000000) (hl : ∀ l ∈ lines, AscL n l ∧ l.length ≤ 1000000) (hb : LI b f) (hf9 : ∀ v ∈ f, 0 ≤ v ∧ v ≤ 9)
  (hcells : (AV.agg (I 0 :: .bool true :: rest)).cells = some (I 0 :: .bool true :: rest)) (H : Hp h0 h nx L) (hK : ∀ h' nx', Hp h0 h' nx' L → K (.bool (agF f lines none)) h' nx' = .ok True) :
  (CS Tryz.prog B).fn 90 p [.agg [I n, encT lines], b, .agg (I 0 :: .bool true :: rest)] h nx K = .ok True := by
 refine yS (p := .of 90) (K := K) (zP zT dreg 10000000 fun hf => ?_) fun _ _ _ _ q => q
 rw [F90.go]
 refine H.box (l := [I n, encT lines]) rfl fun bx h1 nx1 H1 => ?_
 refine H1.box hcells fun b2 h2 nx2 H2 => ?_
 rw [sFx, H2.load (k := 0) (i := 0) rfl rfl, sFx, H2.load (k := 0) (i := 0 + 1) rfl rfl]
 simp only [zV, Bool.not_true]
 refine F90.L1 (fun m z6 z7 z8 h' nx' => ∃ (i : Nat) (o : Option Int), z8 = I i ∧ z6 = I (o.getD 0) ∧ z7 = .bool o.isSome ∧ lines.length - i = m ∧ i ≤ lines.length ∧ h' = h2 ∧ nx' = nx2 ∧ agF f lines none = agF f (lines.drop i) o) (m := lines.length) (by omega) ⟨0, none, rfl, rfl, rfl, rfl, by omega, rfl, rfl, rfl⟩ ?_
 rintro m z5 z6 z7 z8 z9 z10 z11 z12 z13 h2 nx2 R ⟨i, o, rfl, rfl, rfl, rfl, hi, rfl, rfl, hag⟩ hR
 have hlenb : sLen b = fun op : AV → Out Prop => op (I f.length) := by
  funext op
  rcases hb with ⟨rfl, rfl⟩ | rfl <;> rfl
 rw [sFx, H2.load (k := 1) (i := 0 + 1) rfl rfl]
 simp only [zF, sLss]
 have ret : ∀ v : Bool, v = agF f lines none → K (.bool v) h2 nx2 = .ok True := fun v hv => by rw [hv]; exact hK _ _ H2.drop.drop
 by_cases hlt : i < lines.length
 case neg =>
  simp only [show ¬ (i : Int) < (lines.length : Int) by omega, decide_false, zA]
  rw [F90.k10]
  rw [List.drop_of_length_le (by omega)] at hag
  exact ret true (hag.trans (by cases o <;> rfl)).symm
 simp only [show (i : Int) < (lines.length : Int) by omega, decide_true, zC]
 have hx : lines[i]? = some lines[i] := List.getElem?_eq_getElem hlt
 obtain ⟨ha, hl6⟩ := hl _ (List.getElem_mem hlt)
 have hpos : 0 < lines[i].length := List.length_pos_iff.2 ha.1
 rw [List.drop_eq_getElem_cons hlt] at hag
 simp only [agF] at hag
 rw [sFx, H2.load (k := 1) (i := 0 + 1) rfl rfl, sIxL rfl hlt, ldL (getT hx)]
 simp only [zF]
 rw [sSub (by omega), sIxL (i := lines[i].length - 1) (by omega) (by omega), ldL (getI (m7 hpos)), hlenb]
 simp only [sGeq]
 by_cases c : (f.length : Int) ≤ lines[i].getLastD 0
 ·simp only [c, decide_true, zC]
  rw [if_pos c] at hag
  rw [sAdd (by omega)]
  exact hR _ _ _ _ _ _ _ _ _ _ _ _ (by omega) ⟨i + 1, o, rfl, rfl, rfl, rfl, by omega, rfl, rfl, hag⟩
 simp only [c, decide_false, zA]
 rw [if_neg c] at hag
 have hbe : b = encI f := by
  rcases hb with ⟨_, q⟩ | q
  ·subst q
   have := (ha.2.2 _ (last_mem' ha.1)).1
   simp only [List.length_nil] at c; omega
  ·exact q
 subst hbe
 refine m5 hl6 (fun x hx' => ⟨(ha.2.2 x hx').1, by have := xO ha.2.1 x hx'; omega⟩) hf9 _ _ _ _ ?_
 rintro _ rfl _
 cases o with
 | none =>
  simp only [Option.isSome_none, yP, zK, zA]
  rw [sAdd (by omega)]
  exact hR _ _ _ _ _ _ _ _ _ _ _ _ (by omega) ⟨i + 1, some (yT lines[i] f), rfl, rfl, rfl, rfl, by omega, rfl, rfl, hag⟩
 | some s =>
  simp only [Option.isSome_some, Option.getD_some, yJ, sNeq, zI]
  by_cases c2 : yT lines[i] f = s
  ·simp only [c2, decide_true, Bool.not_true, zA]
   simp only [c2, if_true] at hag
   rw [sAdd (by omega)]
   exact hR _ _ _ _ _ _ _ _ _ _ _ _ (by omega) ⟨i + 1, some s, rfl, rfl, rfl, rfl, by omega, rfl, rfl, hag⟩
  ·simp only [c2, decide_false, Bool.not_false, zC]
   simp only [c2, if_false] at hag
   exact ret false hag.symm
noncomputable def tlA (D : List (List Int)) (o : Option Pa) (m : Nat) : AV := .agg [I 0, .bool true, I 0, I (uT D.length), rowV o 2 m, .nils, .nils]
theorem p7 (D : List (List Int)) (o : Option Pa) (m : Nat) : (tlA D o m).cells = some [I 0, .bool true, I 0, I (uT D.length), rowV o 2 m, .nils, .nils] := by cases o <;> rfl
noncomputable abbrev TA (lines : List (List Int)) (D : List (List Int)) (o : Option Pa) : Ob := .gro o 2 (jE lines D).length (yV (jE lines D))
theorem flat2_get {q : List (Int × Int)} {i : Nat} {p : Int × Int} (h : q[i]? = some p) : (yV q)[i * 2]? = some (I p.1) ∧ (yV q)[i * 2 + 1]? = some (I p.2) := by
 have hi := (List.getElem?_eq_some_iff.1 h).1
 have e := jN hi
 have h2 := (List.getElem?_eq_some_iff.1 h).2
 rw [h2] at e
 constructor
 ·have := congrArg (fun l : List AV => l[0]?) e
  simpa using this
 ·have := congrArg (fun l : List AV => l[1]?) e
  simpa using this
theorem flat2_set : ∀ {q : List (Int × Int)} {i : Nat} {x c d : Int}, q[i]? = some (x, c) → yV (q.set i (x, d)) = (yV q).set (i * 2 + 1) (I d)
 | [], i, _, _, _, h => by simp at h
 | p :: q, 0, x, c, d, h => by
  simp only [List.getElem?_cons_zero, Option.some.injEq] at h
  subst h; rfl
 | p :: q, i + 1, x, c, d, h => by
  rw [List.set_cons_succ]
  show I p.1 :: I p.2 :: yV (q.set i (x, d)) = _
  rw [flat2_set (c := c) (by simpa using h), show (i + 1) * 2 + 1 = (i * 2 + 1) + 1 + 1 by omega]
  rfl
end Go.Ev
namespace Go.Ev
open Go Go.Proofs
variable {B : Nat}
theorem sNeqNil0 {K : AV → OP} : sBin .neq (.nil .sl) .nils .nils K = K (.bool false) := nr rfl
theorem sBuildP {x y : Int} {K : AV → OP} : gB [(I 0), (I 0)] [(0, 1, I x), (1, 1, I y)] K = K (.agg [I x, I y]) := nr rfl
theorem gro_some {h0 h : T Blk} {nx : Pa} {L : List Ob} {k n e : Nat} {o : Option Pa} {l : List AV} (H : Hp h0 h nx L) (hk : L[k]? = some (.gro o e n l)) (hn : 0 < n) : ∃ id, o = some id := by
 cases o with
 | none =>
  obtain ⟨_, rfl⟩ := H.own _ (List.mem_of_getElem? hk)
  omega
 | some id => exact ⟨id, rfl⟩
theorem sIxG {id : Pa} {m j : Nat} {op : AV → OP} (hj : j < m) : zQ 2 (rowV (some id) 2 m) (I (j : Int)) op = op (.ptr id (j * 2)) := by
 show zQ 2 (.sl id 0 m none 2) (I (j : Int)) op = _
 rw [mA hj, Nat.zero_add]
theorem notedA139 {n : Nat} {lines : List (List Int)} {D : List (List Int)} {o : Option Pa} {M : List Ob} {fl : List Int} {p : Pa} {h0 h : T Blk} {nx : Pa} {K : Kw Prop} (hn9 : n ≤ 9) (hl : ∀ l ∈ lines, AscL n l ∧ l.length ≤ 1000) (hD : (jE lines D).length ≤ 999000) (hfl : fl.length = n) (hrg : ∀ x ∈ fl, 1 ≤ x ∧ x ≤ (n : Int))
  (H : Hp h0 h nx (TA lines D o :: M)) (hK : ∀ o' h' nx', Hp h0 h' nx' (TA lines (D ++ [fl]) o' :: M) → K (tlA (D ++ [fl]) o' (jE lines (D ++ [fl])).length) h' nx' = .ok True) :
  (CS Tryz.prog B).fn 139 p [.agg [I n, encT lines], encI fl, tlA D o (jE lines D).length] h nx K = .ok True := by
 refine yS (p := .of 139) (K := K) (zP zT dreg 1000000 fun hf => ?_) fun _ _ _ _ q => q
 rw [F139.go]
 refine H.box (l := [I n, encT lines]) rfl fun b1 h1 nx1 H1 => ?_
 refine H1.box (p7 D o _) fun b2 h2 nx2 H2 => ?_
 refine H2.alloc fun b7 h3 nx3 H3 => ?_
 rw [sFx, H3.load (k := 1) (i := 0 + 3) rfl rfl, sAddW, wrapN_succ, sFx]
 refine H3.store (k := 1) rfl (by simp) rfl fun h4 H4 => ?_
 have hd1 : (D ++ [fl]).length = D.length + 1 := by simp
 rw [← hd1] at H4
 have H5 : Hp h0 h4 nx3 (.arr b7 [I 0, .bool false, I 0, I 0, .nils, .nils, .nils] :: .arr b2 [I 0, .bool true, I 0, I (uT (D ++ [fl]).length), rowV o 2 (jE lines D).length, .nils, .nils] :: .arr b1 [I n, encT lines] :: TA lines D o :: M) := H4
 clear H4
 rw [sFx, H5.load (k := 1) (i := 0 + 6) rfl rfl, sNeqNil0]
 simp only [zA]
 have fin : ∀ (o' : Option Pa) (h7 : T Blk) (nx7 : Pa), Hp h0 h7 nx7 (.arr b7 [I 0, .bool false, I 0, I 0, .nils, .nils, .nils] :: .arr b2 [I 0, .bool true, I 0, I (uT (D ++ [fl]).length), rowV o' 2 (jE lines (D ++ [fl])).length, .nils, .nils] :: .arr b1 [I n, encT lines] :: TA lines (D ++ [fl]) o' :: M) →
   (zL 7 (.ptr b2 0) h7 fun v5 => zZ 7 (.ptr b7 0) v5 h7 nx7 fun v6 h7 n8 => zL 7 (.ptr b7 0) h7 fun v9 => K v9 h7 n8) = .ok True := by
  intro o' h7 nx7 H7
  rw [H7.loadN (k := 1) (n := 7) rfl rfl]
  refine H7.storeN (k := 0) (n := 7) rfl rfl rfl fun h8 H8 => ?_
  rw [H8.loadN (k := 0) (n := 7) rfl rfl]
  exact hK _ _ _ H8.drop.drop.drop
 rw [F139.k8, sFx, H5.load (k := 1) (i := 0 + 5) rfl rfl]
 simp only [zJ]
 rw [sFx, H5.load (k := 1) (i := 0 + 2) rfl rfl]
 simp only [sLss, show ¬ (0 : Int) < 0 by omega, decide_false, zA]
 rw [F139.k9, sFx, H5.load (k := 2) (i := 0 + 1) rfl rfl]
 simp only [zF, sEql]
 cases lines with
 | nil =>
  simp only [List.length_nil, show ((0 : Nat) : Int) = 0 from rfl, decide_true, zC]
  exact fin o _ _ H5
 | cons l ls =>
 simp only [List.length_cons, show ¬ ((ls.length + 1 : Nat) : Int) = 0 by omega, decide_false, zA]
 have hx : (l :: ls)[0]? = some l := rfl
 obtain ⟨ha, hlw⟩ := hl l (List.mem_cons_self ..)
 rw [sFx, H5.load (k := 2) (i := 0 + 1) rfl rfl, sIxL (i := 0) (j := 0) (by rfl) (by simp), ldL (getT hx)]
 refine m5 (by omega) (fun c hc => by rw [hfl]; exact ha.2.2 c hc) (fun v hv => by have := hrg v hv; omega) _ _ _ _ ?_
 rintro _ rfl _
 have hsn := specF_snoc (l :: ls) D fl
 simp only at hsn
 generalize hq : jE (l :: ls) D = q at *
 generalize hxx : yT l fl = x at *
 refine F139.L11 (fun m z8 h' nx' => ∃ j : Nat, z8 = I j ∧ m = q.length - j ∧ j ≤ q.length ∧ (∀ t p, t < j → q[t]? = some p → p.1 < x) ∧ h' = h4 ∧ nx' = nx3) (m := q.length) (by omega) ⟨0, rfl, by omega, by omega, fun t p h => by omega, rfl, rfl⟩ ?_
 rintro m y8 y13 h4 nx3 R ⟨j, rfl, rfl, hj, hlo, rfl, rfl⟩ hR
 have HG : (Ob.arr b7 [I 0, .bool false, I 0, I 0, .nils, .nils, .nils] :: .arr b2 [I 0, .bool true, I 0, I (uT (D ++ [fl]).length), rowV o 2 q.length, .nils, .nils] :: .arr b1 [I n, encT (l :: ls)] :: Ob.gro o 2 q.length (yV q) :: M)[3]? = some (.gro o 2 q.length (yV q)) := rfl
 have H5 : Hp h0 h4 nx3 (.arr b7 [I 0, .bool false, I 0, I 0, .nils, .nils, .nils] :: .arr b2 [I 0, .bool true, I 0, I (uT (D ++ [fl]).length), rowV o 2 q.length, .nils, .nils] :: .arr b1 [I n, encT (l :: ls)] :: Ob.gro o 2 q.length (yV q) :: M) := by
  have := H5
  unfold TA at this
  rw [hq] at this
  exact this
 have new : (∀ p, q[j]? = some p → x < p.1) → ∀ z13 z14, IR.run F139.b17 (CS Tryz.prog B) 1000000 (fnO F139.res K) (retK F139.res K) (F139.fr (.agg [I n, encT (l :: ls)]) (encI fl) (tlA D o q.length) (.ptr b1 0) (.ptr b2 0) (.ptr b7 0) .undef (I x) (I j) (.bool false) .undef (.bool false) (.bool false) z13 z14) h4 nx3 = .ok True := by
  intro hhi z13 z14
  have eHi : ∀ op : AV → OP, gG 2 (rowV o 2 q.length) none (some (I (j : Int))) none op = op (rowV o 2 j) := fun op => H5.groHi HG hj
  have eLo : ∀ op : AV → OP, gG 2 (rowV o 2 q.length) (some (I (j : Int))) none none op = op (pQ o 2 q.length j) := fun op => H5.groLo HG hj
  have ec : ((jK (repl 1 [(I 0), (I 0)]) [(0, 2, .agg [I x, I 1])]).isSome && true) = true := rfl
  rw [F139.k17]
  simp only [show ((jK (repl 0 [(I 0), (I 0)]) []).isSome && true) = true from rfl, yA, sFx]
  rw [H5.load (k := 1) (i := 0 + 4) rfl rfl]
  simp only [eHi, sBuildP, ec, yA]
  rw [H5.load (k := 1) (i := 0 + 4) rfl rfl]
  simp only [eLo, zB]
  refine H5.bslice (l := []) rfl fun e0 h6 nx6 H6 => ?_
  rw [H6.load (k := 2) (i := 0 + 4) rfl rfl]
  simp only [zB]
  rw [H6.load (k := 2) (i := 0 + 4) rfl rfl]
  simp only [zB]
  refine H6.app0E (by decide) (H6.groRdHi (k := 4) rfl hj) (by rw [List.length_take, vN]; omega) (List.all_eq_true.2 fun v hv => List.all_eq_true.1 dJ v (List.mem_of_mem_take hv)) (by decide) (by omega) fun v X h7 nx7 H7 hp => ?_
  rw [H7.load (k := 2) (i := 0 + 4) rfl rfl]
  simp only [zB]
  rw [H7.load (k := 2) (i := 0 + 4) rfl rfl]
  simp only [zB]
  refine H7.bslice (l := [I x, I 1]) rfl fun b h8 nx8 H8 => ?_
  rw [H8.load (k := 3) (i := 0 + 4) rfl rfl]
  simp only [zB]
  rw [H8.load (k := 3) (i := 0 + 4) rfl rfl]
  simp only [zB]
  refine hp _ _ _ _ [I x, I 1] b _ H8 rfl rfl fun id h9 nx9 H9 => ?_
  rw [H9.load (k := 2) (i := 0 + 4) rfl rfl]
  simp only [zB]
  refine H9.appN (k := 0) (o := some id) (n := j + 1) (c := q.length - j) (new := (yV q).drop (j * 2)) rfl (H9.groRdLo (k := 4) rfl hj) (by rw [List.length_drop, vN, Nat.sub_mul]) (List.all_eq_true.2 fun v hv => List.all_eq_true.1 dJ v (List.mem_of_mem_drop hv)) (by decide) (by decide) (by omega) fun o' h10 nx10 _ H10 => ?_
  have e1 : j + 1 + (q.length - j) = q.length + 1 := by omega
  rw [e1] at H10 ⊢
  refine H10.store (k := 2) rfl (by simp) (gV _ _ _) fun h11 H11 => ?_
  have es : jE (l :: ls) (D ++ [fl]) = q.take j ++ [(x, 1)] ++ q.drop j := by rw [hsn]; exact insS_new hj hlo hhi
  have el : (jE (l :: ls) (D ++ [fl])).length = q.length + 1 := by rw [es]; simp; omega
  refine fin o' _ _ ?_
  rw [el]
  unfold TA
  rw [el, es]
  have ef : (yV q).take (j * 2) ++ [I x, I 1] ++ (yV q).drop (j * 2) = yV (q.take j ++ [(x, 1)] ++ q.drop j) := by
   rw [dQ, wU, mN, mN]; rfl
  rw [← ef]
  have H12 : Hp h0 h11 nx10 (.gro o' 2 (q.length + 1) ((yV q).take (j * 2) ++ [I x, I 1] ++ (yV q).drop (j * 2)) :: .arr b7 [I 0, .bool false, I 0, I 0, .nils, .nils, .nils] :: .arr b2 [I 0, .bool true, I 0, I (uT (D ++ [fl]).length), rowV o' 2 (q.length + 1), .nils, .nils] :: .arr b1 [I n, encT (l :: ls)] :: Ob.gro o 2 q.length (yV q) :: M) := H11
  have H13 := (H12.perm (List.perm_middle (l₁ := [_, _, _, _]))).drop
  exact H13.perm (List.perm_middle (l₁ := [_, _, _]) (a := Ob.gro o' 2 (q.length + 1) ((yV q).take (j * 2) ++ [I x, I 1] ++ (yV q).drop (j * 2)))).symm
 have done : ∀ z13, (j < q.length → ¬ (q.getD j (0, 0)).1 < x) → IR.run F139.b16 (CS Tryz.prog B) 1000000 (fnO F139.res K) (retK F139.res K) (F139.fr (.agg [I n, encT (l :: ls)]) (encI fl) (tlA D o q.length) (.ptr b1 0) (.ptr b2 0) (.ptr b7 0) .undef (I x) (I j) (.bool false) .undef (.bool false) (.bool false) z13 .undef) h4 nx3 = .ok True := by
  intro z13 hge
  rw [F139.k16, sFx, H5.load (k := 1) (i := 0 + 4) rfl rfl, H5.groLen HG]
  simp only [sLss]
  by_cases hjl : j < q.length
  ·have hg : q[j]? = some q[j] := List.getElem?_eq_getElem hjl
   have hgd : q.getD j (0, 0) = q[j] := by rw [List.getD_eq_getElem?_getD, hg]; rfl
   have hge := hge hjl
   rw [hgd] at hge
   obtain ⟨id, rfl⟩ := gro_some H5 HG (by omega)
   obtain ⟨f1, f2⟩ := flat2_get hg
   simp only [show (j : Int) < (q.length : Int) by omega, decide_true, yJ, sFx]
   rw [H5.load (k := 1) (i := 0 + 4) rfl rfl, sIxG hjl, sAx0, H5.loadGro HG f1]
   simp only [sEql, zI]
   by_cases c : q[j].1 = x
   ·simp only [c, decide_true, zC]
    rw [H5.load (k := 1) (i := 0 + 4) rfl rfl, sIxG hjl, sAx1, H5.loadGro HG f2, sAddW, sIxG hjl, sAx1]
    refine H5.storeGro HG (by rw [vN]; omega) rfl fun h6 H6 => ?_
    have hgx : q[j]? = some (x, q[j].2) := by rw [hg, ← c]
    have es : jE (l :: ls) (D ++ [fl]) = q.set j (x, IntKind.wrap .i64 (q[j].2 + 1)) := by rw [hsn]; exact insS_hit hlo hgx
    have el : (jE (l :: ls) (D ++ [fl])).length = q.length := by rw [es]; simp
    refine fin (some id) _ _ ?_
    rw [el]
    unfold TA
    rw [el, es, flat2_set hgx]
    exact H6
   ·simp only [c, decide_false, zA]
    exact new (fun p hp => by rw [hg] at hp; have := Option.some.inj hp; subst this; omega) _ _
  ·simp only [show ¬ (j : Int) < (q.length : Int) by omega, decide_false, yP, zK, zA]
   exact new (fun p hp => by have := (List.getElem?_eq_some_iff.1 hp).1; omega) _ _
 rw [sFx, H5.load (k := 1) (i := 0 + 4) rfl rfl, H5.groLen HG]
 simp only [sLss]
 by_cases hjl : j < q.length
 ·have hg : q[j]? = some q[j] := List.getElem?_eq_getElem hjl
  have hgd : q.getD j (0, 0) = q[j] := by rw [List.getD_eq_getElem?_getD, hg]; rfl
  obtain ⟨id, rfl⟩ := gro_some H5 HG (by omega)
  obtain ⟨f1, f2⟩ := flat2_get hg
  simp only [show (j : Int) < (q.length : Int) by omega, decide_true, yJ, sFx]
  rw [H5.load (k := 1) (i := 0 + 4) rfl rfl, sIxG hjl, sAx0, H5.loadGro HG f1]
  simp only [sLss, zI]
  by_cases c : q[j].1 < x
  ·simp only [c, decide_true, zC]
   rw [F139.k14, sAdd (by omega)]
   refine hR _ _ _ _ _ (by omega) ⟨j + 1, rfl, rfl, by omega, fun t p ht hp => ?_, rfl, rfl⟩
   by_cases e : t = j
   ·subst e; rw [hg] at hp; have := Option.some.inj hp; subst this; exact c
   ·exact hlo t p (by omega) hp
  ·simp only [c, decide_false, zA]
   exact done _ fun _ => by rw [hgd]; exact c
 ·simp only [show ¬ (j : Int) < (q.length : Int) by omega, decide_false, yP, zK, zA]
  exact done _ fun q => absurd q hjl
end Go.Ev
namespace Go.Ev
open Go Go.Proofs
variable {B : Nat}
variable {n : Nat} {lines : List (List Int)} {us : Pa} {h0 : T Blk} {M : List Ob}
theorem tlA_frz {D : List (List Int)} {o : Option Pa} {m : Nat} {h' h : T Blk} {nx : Pa} {L : List Ob} {l : List AV} {e : Nat} (H : Hp h0 h' nx L) (hm : .gro o e m l ∈ L) : FrzN h' h (tlA D o m) (tlA D o m) := by
 have hrow : FrzN h' h (rowV o 2 m) (rowV o 2 m) := by
  cases o with
  | none => exact .nils
  | some id => exact pK ((H.own _ hm).live id (by simp [Ob.names]))
 have hrs' : scal (rowV o 2 m) = true := by cases o <;> rfl
 refine frz_aggS (by simp only [List.all_cons, List.all_nil, hrs', Bool.and_true]; rfl) fun v hv => ?_
 simp only [List.mem_cons, List.not_mem_nil, or_false] at hv
 rcases hv with rfl | rfl | rfl | rfl | rfl | rfl | rfl
 ·exact .int _ _
 ·exact .bool _
 ·exact .int _ _
 ·exact .int _ _
 ·exact hrow
 ·exact .nils
 ·exact .nils
noncomputable abbrev tlL (D : List (List Int)) (o : Option Pa) (m : Nat) : List AV := [I 0, .bool true, I 0, I (uT D.length), rowV o 2 m, .nils, .nils]
theorem walkA108 (hn1 : 1 ≤ n) (hn9 : n ≤ 9) (hm : lines.length ≤ 1000000) (hl : ∀ l ∈ lines, AscL n l ∧ l.length ≤ 1000) :
  ∀ (r : Nat) (b : AV) (pre : List Int) (D : List (List Int)) (o : Option Pa) (M : List Ob) (p : Pa) (h : T Blk) (nx : Pa) (K : Kw Prop), LI b pre → pre.length + r = n → (∀ x ∈ pre, 1 ≤ x ∧ x ≤ (n : Int)) → (∀ f ∈ D, ∀ x ∈ f, 1 ≤ x ∧ x ≤ (n : Int)) → Hp h0 h nx (usO n us pre :: TA lines D o :: M) →
   (∀ o' h' nx', Hp h0 h' nx' (usO n us pre :: TA lines (D ++ jL (fun f => agF f lines none) n r pre) o' :: M) → K (tlA (D ++ jL (fun f => agF f lines none) n r pre) o' (jE lines (D ++ jL (fun f => agF f lines none) n r pre)).length) h' nx' = .ok True) →
   (CS Tryz.prog B).fn 108 p [.agg [I n, encT lines], b, .sl us 0 (n + 1) (some (n + 1)) 1, tlA D o (jE lines D).length] h nx K = .ok True
 | r, b, pre, D, o, M, p, h, nx, K, hb, hr, hpre, hD, H, hK => by
  refine yS (p := .of 108) (K := K) (zP zT dreg 1000 fun hf => ?_) fun _ _ _ _ q => q
  rw [F108.go]
  have hf9 : ∀ v ∈ pre, 0 ≤ v ∧ v ≤ 9 := fun v hv => by have := hpre v hv; omega
  refine H.box (l := [I n, encT lines]) rfl fun b1 h1 nx1 H1 => ?_
  refine H1.box (p7 D o _) fun bt h2 nx2 H2 => ?_
  refine H2.alloc fun b7 h3 nx3 H3 => ?_
  rw [H3.loadN (k := 2) (n := 2) rfl rfl, H3.loadN (k := 1) (n := 7) rfl rfl]
  refine agreesF90 hm (fun l h => ⟨(hl l h).1, by have := (hl l h).2; omega⟩) hb hf9 (p7 D o _) H3 fun h4 nx4 H4 => ?_
  simp only [zV]
  have ret : ∀ (D' : List (List Int)) (o' : Option Pa) h' nx', D' = D ++ jL (fun f => agF f lines none) n r pre → Hp h0 h' nx' (.arr b7 [I 0, .bool false, I 0, I 0, .nils, .nils, .nils] :: .arr bt (tlL D' o' (jE lines D').length) :: .arr b1 [I n, encT lines] :: usO n us pre :: TA lines D' o' :: M) →
    (zL 7 (.ptr bt 0) h' fun v16 => zZ 7 (.ptr b7 0) v16 h' nx' fun v17 h18 n19 => zL 7 (.ptr b7 0) h18 fun v20 => K v20 h18 n19) = .ok True := by
   rintro D' o' h' nx' rfl H'
   rw [H'.loadN (k := 1) (n := 7) rfl rfl]
   refine H'.storeN (k := 0) (n := 7) rfl rfl rfl fun h8 H8 => ?_
   rw [H8.loadN (k := 0) (n := 7) rfl rfl]
   exact hK _ _ _ H8.drop.drop.drop
  cases ha : agF pre lines none with
  | false =>
   simp only [Bool.not_false, zC]
   refine ret D o _ _ ?_ H4
   have : jL (fun f => agF f lines none) n r pre = [] := by cases r <;> simp [jL, ha]
   rw [this, List.append_nil]
  | true =>
  simp only [Bool.not_true, zA]
  have hlenb : ∀ op : AV → Out Prop, sLen b op = op (I pre.length) := by
   intro op
   rcases hb with ⟨rfl, rfl⟩ | rfl <;> rfl
  rw [hlenb, sFx, H4.load (k := 2) (i := 0) rfl rfl]
  simp only [sEql]
  match r, hr, ret, hK with
  | 0, hr, ret, hK =>
   simp only [show ((pre.length : Int) = (n : Int)) by omega, decide_true, zC]
   rw [H4.loadN (k := 2) (n := 2) rfl rfl, H4.loadN (k := 1) (n := 7) rfl rfl]
   have hbe : b = encI pre ∨ n = 0 := by
    rcases hb with ⟨_, q⟩ | q
    ·right; subst q; simpa using hr.symm
    ·exact .inl q
   rcases hbe with rfl | hn0
   ·have H5 : Hp h0 h4 nx4 (TA lines D o :: (.arr b7 [I 0, .bool false, I 0, I 0, .nils, .nils, .nils] :: .arr bt (tlL D o (jE lines D).length) :: .arr b1 [I n, encT lines] :: usO n us pre :: M)) := H4.perm (List.perm_middle (l₁ := [_, _, _, _]))
    refine notedA139 hn9 hl (by have := (specF_ok (fun l h => (hl l h).2) hD hn9).len; omega) (by omega) hpre H5 fun o' h6 nx6 H6 => ?_
    have H7 := H6.perm (List.perm_middle (l₁ := [.arr b7 [I 0, .bool false, I 0, I 0, .nils, .nils, .nils], .arr bt (tlL D o (jE lines D).length), .arr b1 [I n, encT lines], usO n us pre])).symm
    refine H7.storeN (k := 0) (n := 7) rfl rfl rfl fun h8 H8 => ?_
    rw [H8.loadN (k := 0) (n := 7) rfl rfl]
    have : jL (fun f => agF f lines none) n 0 pre = [pre] := by rw [jL, ha, if_pos rfl]
    rw [this] at hK
    exact hK _ _ _ H8.drop.drop.drop
   ·omega
  | r + 1, hr, ret, hK =>
  simp only [show ¬ ((pre.length : Int) = (n : Int)) by omega, decide_false, zA]
  let g : Int → List (List Int) := fun x => if x ∈ pre then [] else jL (fun f => agF f lines none) n r (pre ++ [x])
  have hg : jL (fun f => agF f lines none) n (r + 1) pre = (upTo n).flatMap g := by rw [jL, ha, if_pos rfl]
  refine F108.L3 (fun m z7 h' nx' => ∃ (x : Nat) (D' : List (List Int)) (o' : Option Pa), z7 = I x ∧ n + 1 - x = m ∧ 1 ≤ x ∧ x ≤ n + 1 ∧ D ++ jL (fun f => agF f lines none) n (r + 1) pre = D' ++ ((upTo n).drop (x - 1)).flatMap g ∧ (∀ f ∈ D', ∀ y ∈ f, 1 ≤ y ∧ y ≤ (n : Int)) ∧
    Hp h0 h' nx' (.arr b7 [I 0, .bool false, I 0, I 0, .nils, .nils, .nils] :: .arr bt (tlL D' o' (jE lines D').length) :: .arr b1 [I n, encT lines] :: usO n us pre :: TA lines D' o' :: M)) (m := n) (by omega)
   ⟨1, D, o, rfl, by omega, by omega, by omega, by rw [hg]; rfl, hD, H4⟩ ?_
  rintro m z7 z10 z11 h5 nx5 R ⟨x, D', o1, rfl, rfl, hx1, hx2, hfo, hD', H5⟩ hR
  rw [sFx, H5.load (k := 2) (i := 0) rfl rfl]
  simp only [sLeq]
  by_cases hxn : x ≤ n
  case neg =>
   simp only [show ¬ (x : Int) ≤ (n : Int) by omega, decide_false, zA]
   rw [F108.k11]
   have e1 : (upTo n).drop (x - 1) = [] := List.drop_of_length_le (by simp; omega)
   rw [e1] at hfo
   refine ret D' o1 _ _ ?_ H5
   rw [hfo]; simp
  simp only [show (x : Int) ≤ (n : Int) by omega, decide_true, zC]
  rw [upTo_drop hx1 hxn, List.flatMap_cons] at hfo
  have hul := j2 n pre
  have hgv : ((kL n pre).map AV.bool)[x]? = some (.bool (decide ((x : Int) ∈ pre))) := by rw [List.getElem?_map, qZ hxn]; rfl
  rw [sIx (i := x) rfl (by omega), H5.load (k := 3) rfl hgv]
  by_cases hmem : (x : Int) ∈ pre
  ·simp only [hmem, decide_true, zC]
   rw [sAdd (by omega)]
   have e1 : g (x : Int) = [] := by show (if (x : Int) ∈ pre then [] else _) = _; rw [if_pos hmem]
   rw [e1, List.nil_append] at hfo
   exact hR (n + 1 - (x + 1)) _ _ _ _ _ (by omega) ⟨x + 1, D', o1, rfl, rfl, by omega, by omega, by rw [Nat.add_sub_cancel]; exact hfo, hD', H5⟩
  simp only [hmem, decide_false, zA]
  have e1 : g (x : Int) = jL (fun f => agF f lines none) n r (pre ++ [(x : Int)]) := by show (if (x : Int) ∈ pre then [] else _) = _; rw [if_neg hmem]
  rw [e1] at hfo
  rw [sIx (i := x) rfl (by omega)]
  have eu : usO n us (pre ++ [(x : Int)]) = .arr us (((kL n pre).map AV.bool).set x (.bool true)) := by
   show Ob.arr us ((kL n (pre ++ [(x : Int)])).map AV.bool) = _
   rw [← usedL_on hxn, List.map_set]
  have eu2 : usO n us pre = .arr us (((kL n (pre ++ [(x : Int)])).map AV.bool).set x (.bool false)) := by
   show Ob.arr us ((kL n pre).map AV.bool) = _
   rw [← usedL_off hxn hmem, List.map_set]
  refine H5.store (k := 3) rfl (by simp [hul]; omega) rfl fun h6 H6 => ?_
  have H6 : Hp h0 h6 nx5 (.arr b7 [I 0, .bool false, I 0, I 0, .nils, .nils, .nils] :: .arr bt (tlL D' o1 (jE lines D').length) :: .arr b1 [I n, encT lines] :: usO n us (pre ++ [(x : Int)]) :: TA lines D' o1 :: M) := H6.cast (by rw [eu]; rfl)
  simp only [show ((jK (repl 0 [(I 0)]) []).isSome && true) = true from rfl, show ((jK (repl 1 [(I 0)]) [(0, 1, I (x : Int))]).isSome && true) = true from rfl, yA]
  rw [H6.loadN (k := 2) (n := 2) rfl rfl, H6.loadN (k := 1) (n := 7) rfl rfl]
  refine H6.bslice (l := []) rfl fun ee h7 nx7 H7 => ?_
  rw [H7.loadN (k := 2) (n := 7) rfl rfl]
  simp only [zB]
  rw [H7.loadN (k := 3) (n := 2) rfl rfl]
  simp only [zB]
  refine H7.app0 (c := pre.length) (hb.rd h7) (by simp) (scal_I _) (by decide) (by omega) fun v X h8 nx8 H8 hpush => ?_
  rw [H8.loadN (k := 2) (n := 7) rfl rfl]
  simp only [zB]
  rw [H8.loadN (k := 3) (n := 2) rfl rfl]
  simp only [zB]
  refine H8.bslice (l := [I x]) rfl fun e2 h9 nx9 H9 => ?_
  rw [H9.loadN (k := 3) (n := 7) rfl rfl]
  simp only [zB]
  rw [H9.loadN (k := 4) (n := 2) rfl rfl]
  simp only [zB]
  refine hpush _ _ _ _ _ _ _ H9 rfl fun id h10 nx10 H10 => ?_
  rw [H10.loadN (k := 2) (n := 7) rfl rfl]
  simp only [zB]
  rw [H10.loadN (k := 3) (n := 2) rfl rfl]
  simp only [zB]
  have e3 : (pre.map I) ++ [I (x : Int)] = (pre ++ [(x : Int)]).map I := by simp
  rw [e3] at H10
  obtain ⟨h11, hkeep, H11, hF⟩ := H10.letGro (by intro v hv; obtain ⟨t, _, rfl⟩ := List.mem_map.1 hv; rfl)
  have husl : T.get .no us h11 ≠ .no := (H11.own (usO n us (pre ++ [(x : Int)])) (by simp)).live us (by simp [Ob.names])
  refine CS_let hkeep (.cons (frz_aggS rfl fun v hv => zO (fixd_sys' v hv)) (.cons hF (.cons (pK husl) (.cons (tlA_frz (e := 2) (l := yV (jE lines D')) H11 (by simp [TA])) .nil)))) ?_
  have e6 : AV.lst 1 (pre.length + 1) ((pre ++ [(x : Int)]).map I) = encI (pre ++ [(x : Int)]) := by simp [encI]
  rw [e6]
  have H12 : Hp h0 h11 nx10 (usO n us (pre ++ [(x : Int)]) :: TA lines D' o1 :: (.arr b7 [I 0, .bool false, I 0, I 0, .nils, .nils, .nils] :: .arr bt (tlL D' o1 (jE lines D').length) :: .arr b1 [I n, encT lines] :: M)) := H11.perm ((List.perm_middle (l₁ := [_, _, _])).trans (.cons _ (List.perm_middle (l₁ := [_, _, _]))))
  refine walkA108 hn1 hn9 hm hl r (encI (pre ++ [(x : Int)])) (pre ++ [(x : Int)]) D' o1 (.arr b7 [I 0, .bool false, I 0, I 0, .nils, .nils, .nils] :: .arr bt (tlL D' o1 (jE lines D').length) :: .arr b1 [I n, encT lines] :: M) _ _ _ _ (.inr rfl) (by simp; omega) (fun y hy => by
   rcases List.mem_append.1 hy with q | q
   ·exact hpre y q
   ·simp at q; omega) hD' H12 fun o2 h12 nx12 H13 => ?_
  have H14 := H13.perm ((List.perm_middle (l₁ := [.arr b7 [I 0, .bool false, I 0, I 0, .nils, .nils, .nils], .arr bt (tlL D' o1 (jE lines D').length), .arr b1 [I n, encT lines]]) (a := usO n us (pre ++ [(x : Int)])) (l₂ := TA lines (D' ++ jL (fun f => agF f lines none) n r (pre ++ [(x : Int)])) o2 :: M)).trans (.cons _ (List.perm_middle (l₁ := [_, _, _])))).symm
  refine H14.storeN (k := 1) (n := 7) rfl rfl rfl fun h14 H15 => ?_
  rw [sIx (i := x) rfl (by omega)]
  refine H15.store (k := 3) rfl (by simp [j2]; omega) rfl fun h15 H16 => ?_
  rw [sAdd (by omega)]
  refine hR (n + 1 - (x + 1)) _ _ _ _ _ (by omega) ⟨x + 1, D' ++ jL (fun f => agF f lines none) n r (pre ++ [(x : Int)]), o2, rfl, rfl, by omega, by omega, by rw [Nat.add_sub_cancel, List.append_assoc]; exact hfo, fun f hf' => ?_, H16.cast ?_⟩
  ·rcases List.mem_append.1 hf' with q | q
   ·exact hD' f q
   ·refine (enumG_mem q fun y hy => ?_).2
    rcases List.mem_append.1 hy with q | q
    ·exact hpre y q
    ·simp at q; omega
  ·rw [eu2]; rfl
theorem walk65 {n : Nat} {lines : List (List Int)} (hn1 : 1 ≤ n) (hn9 : n ≤ 9) (hm : lines.length ≤ 1000000) (hl : ∀ l ∈ lines, AscL n l ∧ l.length ≤ 1000) :
  Pure Tryz.prog B 65 [.agg [I n, encT lines], I 0] (fun v => v = .agg [I 0, .bool true, I 0, I (uT (jL (fun f => agF f lines none) n n []).length), encP (jE lines (jL (fun f => agF f lines none) n n [])), .nils, .nils]) := by
 refine yX fun h nx K H0 hK => zP zT dreg 1000 fun hf => ?_
 rw [F65.go]
 refine H0.box (l := [I n, encT lines]) rfl fun bx h1 nx1 H1 => ?_
 refine H1.alloc fun b4 h2 nx2 H2 => ?_
 rw [H2.loadN (k := 1) (n := 2) rfl rfl, sFx, H2.load (k := 1) (i := 0) rfl rfl, sAdd (by omega)]
 have eb : ∀ (K' : AV → OP), gB [(I 0), (.bool false), (I 0), (I 0), .nils, .nils, .nils] [(1, 1, .bool true), (2, 1, I 0)] K' = K' (.agg [I 0, .bool true, I 0, I 0, .nils, .nils, .nils]) := fun K' => nr rfl
 rw [eb]
 refine H2.mk1 (n + 1) (by omega) (by omega) (by omega) (by decide) fun us h3 nx3 H3 => ?_
 rw [eb]
 simp only [zB]
 rw [H3.loadN (k := 2) (n := 2) rfl rfl]
 simp only [zB]
 have hu : List.replicate (n + 1) (AV.bool false) = (kL n []).map AV.bool := by
  rw [kL]; simp [List.map_const', Function.comp_def]
 rw [hu] at H3
 have e0 : jE lines [] = [] := by cases lines <;> rfl
 have H4 : Hp h h3 nx3 (usO n us [] :: TA lines [] none :: [.arr b4 [I 0, .bool false, I 0, I 0, .nils, .nils, .nils], .arr bx [I n, encT lines]]) := by
  have := (H3.addGro 2).perm (.swap _ _ _)
  unfold TA
  rw [e0]
  exact this
 have et : AV.agg [I 0, .bool true, I 0, I 0, .nils, .nils, .nils] = tlA [] none (jE lines []).length := by rw [e0]; rfl
 rw [et]
 refine walkA108 hn1 hn9 hm hl n .nils [] [] none _ _ _ _ _ (.inl ⟨rfl, rfl⟩) (by simp) (by simp) (by simp) H4 fun o' h5 nx5 H5 => ?_
 rw [List.nil_append] at H5 ⊢
 generalize jL (fun f => agF f lines none) n n [] = E at *
 refine H5.storeN (k := 2) (n := 7) rfl rfl rfl fun h6 H6 => ?_
 rw [H6.loadN (k := 2) (n := 7) rfl rfl]
 have hfz := H6.frzGro (k := 1) (o := o') (e := 2) (n := (jE lines E).length) (l := yV (jE lines E)) rfl dR
 have hf2 : FrzN h h6 (.agg [I 0, .bool true, I 0, I (uT E.length), rowV o' 2 (jE lines E).length, .nils, .nils]) (.agg [I 0, .bool true, I 0, I (uT E.length), encP (jE lines E), .nils, .nils]) := by
  refine .agg _ _ rfl rfl fun i v v' q1 q2 => ?_
  match i with
  | 0 => simp only [List.getElem?_cons_zero, Option.some.injEq] at q1 q2; subst q1 q2; exact .int _ _
  | 1 => simp only [List.getElem?_cons_succ, List.getElem?_cons_zero, Option.some.injEq] at q1 q2; subst q1 q2; exact .bool _
  | 2 => simp only [List.getElem?_cons_succ, List.getElem?_cons_zero, Option.some.injEq] at q1 q2; subst q1 q2; exact .int _ _
  | 3 => simp only [List.getElem?_cons_succ, List.getElem?_cons_zero, Option.some.injEq] at q1 q2; subst q1 q2; exact .int _ _
  | 4 => simp only [List.getElem?_cons_succ, List.getElem?_cons_zero, Option.some.injEq] at q1 q2; subst q1 q2; exact hfz
  | 5 => simp only [List.getElem?_cons_succ, List.getElem?_cons_zero, Option.some.injEq] at q1 q2; subst q1 q2; exact .nils
  | 6 => simp only [List.getElem?_cons_succ, List.getElem?_cons_zero, Option.some.injEq] at q1 q2; subst q1 q2; exact .nils
  | i + 7 => simp at q1
 exact hK _ _ _ _ _ H6 hf2 rfl
end Go.Ev
namespace Go.Ev
def dot : List Int → List Int → Int
 | x :: xs, y :: ys => x * y + dot xs ys
 | _, _ => 0
theorem dot_zip : ∀ (xs ys : List Int), dot xs ys = ((xs.zip ys).map fun p => p.1 * p.2).sum
 | [], ys => rfl
 | _ :: _, [] => rfl
 | x :: xs, y :: ys => by rw [dot, dot_zip xs ys]; rfl
theorem isum_perm {l l' : List Int} (h : l.Perm l') : l.sum = l'.sum := by
 induction h with
 | nil => rfl
 | cons x _ ih => rw [List.sum_cons, List.sum_cons, ih]
 | swap x y l => simp only [List.sum_cons]; omega
 | trans _ _ i1 i2 => exact i1.trans i2
def insI (y : Int) : List Int → List Int
 | [] => [y]
 | z :: zs => if y ≤ z then y :: z :: zs else z :: insI y zs
theorem mK (y : Int) : ∀ zs : List Int, (insI y zs).Perm (y :: zs)
 | [] => .refl _
 | z :: zs => by
  rw [insI]
  split
  ·exact .refl _
  ·exact ((mK y zs).cons z).trans (.swap _ _ _)
theorem insI_asc (y : Int) : ∀ {zs : List Int}, zs.Pairwise (· ≤ ·) → (insI y zs).Pairwise (· ≤ ·)
 | [], _ => by simp [insI]
 | z :: zs, h => by
  obtain ⟨h1, h2⟩ := List.pairwise_cons.1 h
  rw [insI]
  split
  ·rename_i c
   refine List.pairwise_cons.2 ⟨fun a ha => ?_, h⟩
   rcases List.mem_cons.1 ha with rfl | ha
   ·exact c
   ·have := h1 a ha; omega
  ·refine List.pairwise_cons.2 ⟨fun a ha => ?_, insI_asc y h2⟩
   rcases List.mem_cons.1 ((mK y zs).mem_iff.1 ha) with rfl | ha
   ·omega
   ·exact h1 a ha
theorem dot_ins (y : Int) : ∀ (zs xs : List Int) (x : Int), (x :: xs).Pairwise (· ≤ ·) → xs.length = zs.length → dot (x :: xs) (y :: zs) ≤ dot (x :: xs) (insI y zs)
 | [], xs, x, _, _ => by rw [insI]; omega
 | z :: zs, [], x, _, h => by simp at h
 | z :: zs, x1 :: xs, x, hp, hl => by
  obtain ⟨h1, h2⟩ := List.pairwise_cons.1 hp
  rw [insI]
  split
  ·omega
  ·have ih := dot_ins y zs xs x1 h2 (by simpa using hl)
   have hx := h1 x1 (by simp)
   have hm : 0 ≤ (x1 - x) * (y - z) := Int.mul_nonneg (by omega) (by omega)
   have e : (x1 - x) * (y - z) = x1 * y - x1 * z - x * y + x * z := by
    rw [Int.sub_mul, Int.mul_sub, Int.mul_sub]; omega
   simp only [dot] at ih ⊢
   omega
def isrt : List Int → List Int
 | [] => []
 | y :: ys => insI y (isrt ys)
theorem mI : ∀ l : List Int, (isrt l).Perm l
 | [] => .refl _
 | y :: ys => (mK y _).trans ((mI ys).cons y)
theorem isrt_asc : ∀ l : List Int, (isrt l).Pairwise (· ≤ ·)
 | [] => .nil
 | y :: ys => insI_asc y (isrt_asc ys)
theorem dot_isrt : ∀ (ys xs : List Int), xs.Pairwise (· ≤ ·) → xs.length = ys.length → dot xs ys ≤ dot xs (isrt ys)
 | [], xs, _, _ => by rw [isrt]; omega
 | y :: ys, [], _, h => by simp at h
 | y :: ys, x :: xs, hp, hl => by
  have ih := dot_isrt ys xs (List.pairwise_cons.1 hp).2 (by simpa using hl)
  have := dot_ins y (isrt ys) xs x hp (by rw [(mI ys).length_eq]; simpa using hl)
  rw [isrt]
  simp only [dot] at this ⊢
  omega
theorem dot_le (d f : List Int) (h : d.length = f.length) : dot d f ≤ dot (srt d) (srt f) := by
 let ps := (d.zip f).mergeSort fun a b => decide (a.1 ≤ b.1)
 have hp : ps.Perm (d.zip f) := List.mergeSort_perm _ _
 have hs : ps.Pairwise fun a b => a.1 ≤ b.1 := (List.pairwise_mergeSort (le := fun a b : Int × Int => decide (a.1 ≤ b.1)) (by intro a b c; simp; omega) (by intro a b; simp; omega) (d.zip f)).imp (by intro a b h; simpa using h)
 have e1 : ps.map (·.1) = srt d := wM (by
  have := hp.map (·.1)
  rwa [List.map_fst_zip (by omega)] at this) (List.pairwise_map.2 hs)
 have p2 : (ps.map (·.2)).Perm f := by
  have := hp.map (·.2)
  rwa [List.map_snd_zip (by omega)] at this
 have e3 : dot d f = dot (ps.map (·.1)) (ps.map (·.2)) := by
  have hz : ∀ l : List (Int × Int), dot (l.map (·.1)) (l.map (·.2)) = (l.map fun p => p.1 * p.2).sum := by
   intro l
   induction l with
   | nil => rfl
   | cons p l ih => rw [List.map_cons, List.map_cons, dot, ih]; rfl
  rw [hz, dot_zip]
  exact (isum_perm (hp.map _)).symm
 have hle := dot_isrt (ps.map (·.2)) (ps.map (·.1)) (List.pairwise_map.2 hs) (by simp)
 rw [e3]
 have e4 : isrt (ps.map (·.2)) = srt f := wM ((mI _).trans p2) (isrt_asc _)
 rw [e4, e1] at hle
 rw [e1]; exact hle
theorem dot_wsum (g : Nat → Int) (d : List Int) : ∀ i, i ≤ d.length → dot (d.take i) ((List.range i).map g) = wsum g d i
 | 0, _ => by simp [dot, wsum]
 | i + 1, h => by
  have hx : d[i]? = some d[i] := List.getElem?_eq_getElem h
  have app : ∀ (xs ys : List Int) (x y : Int), xs.length = ys.length → dot (xs ++ [x]) (ys ++ [y]) = dot xs ys + x * y := by
   intro xs
   induction xs with
   | nil => intro ys x y h; obtain rfl : ys = [] := List.eq_nil_of_length_eq_zero h.symm; simp [dot]
   | cons a xs ih =>
    intro ys x y h
    cases ys with
    | nil => simp at h
    | cons b ys => rw [List.cons_append, List.cons_append, dot, ih ys x y (by simpa using h), dot]; omega
  rw [List.range_succ, List.map_append, List.take_add_one, hx]
  show dot (d.take i ++ [d[i]]) (_ ++ [g i]) = _
  rw [app _ _ _ _ (by simp; omega), dot_wsum g d i (by omega), wsum, List.getD_eq_getElem?_getD, hx]; rfl
theorem mQ (N : Int) : ∀ (d f : List Int), d.length = f.length → dot d (f.map fun x => N - x) = N * d.sum - dot d f
 | [], [], _ => by simp [dot]
 | [], _ :: _, h => by simp at h
 | _ :: _, [], h => by simp at h
 | x :: d, y :: f, h => by
  rw [List.map_cons, dot, dot, mQ N d f (by simpa using h), List.sum_cons, Int.mul_sub, Int.mul_add, Int.mul_comm x N]; omega
theorem dot_set : ∀ (d f : List Int) (k : Nat) (v : Int), k < d.length → d.length = f.length → dot (d.set k v) f = dot d f + (v - d.getD k 0) * f.getD k 0
 | [], _, _, _, h, _ => by simp at h
 | _ :: _, [], _, _, _, h => by simp at h
 | x :: d, y :: f, 0, v, _, _ => by
  simp only [List.set_cons_zero, dot, List.getD_cons_zero, Int.sub_mul]; omega
 | x :: d, y :: f, k + 1, v, h, h2 => by
  simp only [List.set_cons_succ, dot, List.getD_cons_succ, dot_set d f k v (by simpa using h) (by simpa using h2)]; omega
theorem dot_line : ∀ (l d f : List Int), (∀ c ∈ l, c.toNat < d.length) → d.length = f.length → dot (l.foldl incr d) f = dot d f + yT l f
 | [], d, f, _, _ => by simp [yT]
 | c :: l, d, f, h, hl => by
  rw [List.foldl_cons, dot_line l (incr d c) f (fun x hx => by rw [m6]; exact h x (by simp [hx])) (by rw [m6]; exact hl), incr, dot_set _ _ _ _ (h c (by simp)) hl]
  have e : d.getD c.toNat 0 + 1 - d.getD c.toNat 0 = 1 := by omega
  rw [e]
  simp only [yT, List.map_cons, List.sum_cons]; omega
theorem dot_deg {n : Nat} {lines : List (List Int)} {f : List Int} (hl : ∀ l ∈ lines, AscL n l) (hf : f.length = n) : dot (degS n lines) f = (lines.map fun l => yT l f).sum := by
 have key : ∀ (ls : List (List Int)) (d : List Int), (∀ l ∈ ls, AscL n l) → d.length = n → dot (ls.foldl (fun d l => l.foldl incr d) d) f = dot d f + (ls.map fun l => yT l f).sum := by
  intro ls
  induction ls with
  | nil => intro d _ _; simp
  | cons l ls ih =>
   intro d h hd
   rw [List.foldl_cons, ih _ (fun x hx => h x (by simp [hx])) (by rw [gT]; exact hd), dot_line l d f (fun c hc => by have := (h l (by simp)).2.2 c hc; omega) (by omega)]
   simp only [List.map_cons, List.sum_cons]; omega
 rw [degS, key lines _ hl (by simp)]
 have : ∀ (k : Nat) (f : List Int), dot (List.replicate k 0) f = 0 := by
  intro k
  induction k with
  | zero => intro f; rfl
  | succ k ih =>
   intro f
   cases f with
   | nil => rfl
   | cons y f => rw [List.replicate_succ, dot, ih]; simp
 rw [this]; omega
theorem sum_all {lines : List (List Int)} {f : List Int} {s : Int} (h : ∀ l ∈ lines, yT l f = s) : (lines.map fun l => yT l f).sum = lines.length * s := by
 induction lines with
 | nil => simp
 | cons l ls ih =>
  rw [List.map_cons, List.sum_cons, h l (by simp), ih fun x hx => h x (by simp [hx]), List.length_cons, Int.natCast_add, Int.add_mul]; simp; omega
theorem sum_bounds {n : Nat} {lines : List (List Int)} {f : List Int} {s : Int} (h0 : 0 < lines.length) (hl : ∀ l ∈ lines, AscL n l) (hf : f.length = n) (hn : Nrm f) (hs : ∀ l ∈ lines, yT l f = s) :
  (lines.length : Int) * s ≤ wsum (fun i => (i : Int) + 1) (srt (degS n lines)) n ∧ wsum (fun i => (n : Int) - i) (srt (degS n lines)) n ≤ lines.length * s := by
 have e := dot_deg hl hf
 rw [sum_all hs] at e
 have hdl : (degS n lines).length = n := j4 n lines
 generalize hd : degS n lines = d at *
 have hsl : (srt d).length = n := by rw [kW]; exact hdl
 have e1 : srt f = upTo n := by rw [(nrm_iff f).2 hn, hf]
 have w1 : dot (srt d) (upTo n) = wsum (fun i => (i : Int) + 1) (srt d) n := by
  have := dot_wsum (fun i => (i : Int) + 1) (srt d) n (by omega)
  rwa [List.take_of_length_le (by omega)] at this
 have w2 : dot (srt d) ((List.range n).map fun (i : Nat) => (n : Int) - i) = wsum (fun i => (n : Int) - i) (srt d) n := by
  have := dot_wsum (fun i => (n : Int) - i) (srt d) n (by omega)
  rwa [List.take_of_length_le (by omega)] at this
 have hup : (srt d).sum = d.sum := isum_perm (xJ d)
 have e2 : (List.range n).map (fun (i : Nat) => (n : Int) - i) = (upTo n).map fun x => ((n : Int) + 1) - x := by
  rw [List.map_map]
  exact List.map_congr_left fun i _ => by simp; omega
 constructor
 ·have := dot_le d f (by omega)
  rw [e1, w1] at this
  omega
 ·have hg : Nrm (f.map fun x => ((n : Int) + 1) - x) := by
   refine ⟨List.pairwise_map.2 (hn.1.imp fun {a b} q e => q (by omega)), fun x hx => ?_⟩
   obtain ⟨y, hy, rfl⟩ := List.mem_map.1 hx
   have := hn.2 y hy
   rw [List.length_map]; omega
  have e3 : srt (f.map fun x => ((n : Int) + 1) - x) = upTo n := by rw [(nrm_iff _).2 hg, List.length_map, hf]
  have := dot_le d (f.map fun x => ((n : Int) + 1) - x) (by simp; omega)
  rw [e3, mQ _ _ _ (by omega)] at this
  have c2 := mQ ((n : Int) + 1) (srt d) (upTo n) (by simp; omega)
  rw [← e2, w2, hup] at c2
  omega
theorem tdiv_le {a s : Int} {m : Nat} (hm : 0 < m) (ha : 0 ≤ a) (h : (m : Int) * s ≤ a) : s ≤ a.tdiv m := by
 rw [Int.tdiv_eq_ediv_of_nonneg ha]
 exact (Int.le_ediv_iff_mul_le (by omega)).2 (by rw [Int.mul_comm]; exact h)
theorem le_tdiv {a s : Int} {m : Nat} (hm : 0 < m) (ha : 0 ≤ a) (h : a ≤ m * s) : (a + m - 1).tdiv m ≤ s := by
 rw [Int.tdiv_eq_ediv_of_nonneg (by omega)]
 have : (a + m - 1) / (m : Int) < s + 1 := (Int.ediv_lt_iff_lt_mul (by omega)).2 (by rw [Int.add_mul, Int.mul_comm s]; omega)
 omega
end Go.Ev
namespace Go.Ev
open Go Go.Proofs
variable {B : Nat}
end Go.Ev
namespace Go.Ev
open Go Go.Proofs
variable {B : Nat}
theorem cnt_bd {n : Nat} {lines : List (List Int)} {s : Int} (h0 : 0 < lines.length) (hl : ∀ l ∈ lines, AscL n l) (hc : 0 < cntS lines n s) : loB n lines ≤ s ∧ s ≤ hiB n lines := by
 obtain ⟨f, hf⟩ : ∃ f, f ∈ j8 lines s n n [] := by
  unfold cntS at hc
  exact List.exists_mem_of_length_pos hc
 obtain ⟨⟨f1, f2⟩, f3⟩ := (enumN_iff hl).1 hf
 obtain ⟨b1, b2⟩ := sum_bounds h0 hl f1 f2 f3
 have hM : Bd (srt (degS n lines)) (lines.length * n) := (bN (W := n) fun l hm => ⟨(hl l hm).len, fun c hc => by have := (hl l hm).2.2 c hc; omega⟩).srt
 have hlen : (srt (degS n lines)).length = n := by rw [kW, j4]
 unfold loB hiB loS hiS
 rw [hlen]
 generalize srt (degS n lines) = d at *
 have w1 := wK (F := n) hM (f := fun i => (i : Int) + 1) (n := n) (fun j hj => by omega) n (Nat.le_refl _)
 have w2 := wK (F := n) hM (f := fun i => (n : Int) - i) (n := n) (fun j hj => by omega) n (Nat.le_refl _)
 exact ⟨le_tdiv h0 w2.1 b2, tdiv_le h0 w1.1 b1⟩
def spL (n : Nat) (lines : List (List Int)) : List (Int × Int) := spV lines n (loB n lines) (hiB n lines + 1 - loB n lines).toNat
theorem spL_def (n : Nat) (lines : List (List Int)) : spV lines n (loB n lines) (hiB n lines + 1 - loB n lines).toNat = spL n lines := rfl
theorem enumF_len {n : Nat} {lines : List (List Int)} (hn : n ≤ 9) (hl : ∀ l ∈ lines, AscL n l) : (enumF lines n).length ≤ 362880 := by
 rw [bC hl]
 refine Nat.le_trans (List.length_filter_le _ _) ?_
 rw [perms_len (by simp) (by simp) (by simp)]
 exact factF_le hn
theorem spL_eq {n : Nat} {lines : List (List Int)} (h0 : 0 < lines.length) (hn : n ≤ 9) (hl : ∀ l ∈ lines, AscL n l) : jE lines (enumF lines n) = spL n lines := by
 cases lines with
 | nil => simp at h0
 | cons l ls =>
  refine spec_eq hl (Nat.le_trans (enumF_len hn hl) (by omega)) fun s hs => ?_
  have := cnt_bd h0 hl hs
  omega
def uX (cells : Int) (lines : List (List Int)) : Int := if kY cells lines ≠ 0 then kY cells lines else if lines.length = 0 then 12 else 0
theorem spectrum63 {cells : Int} {lines : List (List Int)} (hj : ∀ B, JOk Tryz.prog B kE) (hw : ∀ q ∈ lines, q.length ≤ 1000) : Pure Tryz.prog B 63 [.agg [I cells, encT lines]] (· = if uX cells lines ≠ 0 then .tup [.nils, I (uX cells lines)] else .tup [encP (spL cells.toNat lines), I 0]) := by
 refine yX fun h nx K H0 hK => zP zT dreg 1000 fun hf => ?_
 have hw6 : ∀ q ∈ lines, q.length ≤ 1000000 := fun q hq => Nat.le_trans (hw q hq) (by omega)
 rw [F63.go]
 refine H0.box (l := [I cells, encT lines]) rfl fun bx h1 nx1 H1 => ?_
 rw [H1.loadN (k := 0) (n := 2) rfl rfl, sFx, H1.load (k := 0) (i := 0 + 1) rfl rfl]
 simp only [zF, sEql]
 refine small106 hw6 _ _ _ _ ?_
 rintro _ rfl _
 simp only [zB, zF]
 rw [H1.load (k := 0) (i := 0 + 1) rfl rfl]
 simp only [zB, sFx, zF]
 refine whenB82 _ _ _ _ _ _ ?_
 rintro _ rfl _
 refine H1.bslice (l := [I (kY cells lines), I (if decide ((lines.length : Int) = 0) then 12 else 0)]) rfl fun id h4 nx4 H4 => ?_
 refine u4 (l := [kY cells lines, if decide ((lines.length : Int) = 0) then 12 else 0]) H4 (k := 0) rfl (fun B => first80 (by simp)) (fun v hv => by rw [hv]; exact .int _ _) ?_
 rintro _ rfl
 have ef : jC [kY cells lines, if decide ((lines.length : Int) = 0) then 12 else 0] = uX cells lines := by
  by_cases c : kY cells lines = 0
  ·by_cases c2 : lines.length = 0
   ·simp [jC, uX, c, c2]
   ·have : ¬ (lines.length : Int) = 0 := by omega
    simp [jC, uX, c, c2]
  ·simp [jC, uX, c]
 rw [ef]
 by_cases he : uX cells lines = 0
 case neg =>
  rw [if_pos he] at hK
  simp only [sNeq, he, decide_false, Bool.not_false, zC]
  exact hK _ _ _ _ _ H4 (jG (zO rfl) (zO rfl)) rfl
 rw [if_neg (by simp [he])] at hK
 simp only [sNeq, he, decide_true, Bool.not_true, zA]
 have hse : kY cells lines = 0 := by
  by_cases c : kY cells lines = 0
  ·exact c
  ·rw [uX, if_pos c] at he; exact absurd he c
 have h0 : 0 < lines.length := by
  by_cases c : lines.length = 0
  ·rw [uX, if_neg (by simp [hse]), if_pos c] at he; cases he
  ·omega
 have hs : jW cells lines = 0 := by
  by_cases c : jW cells lines = 0
  ·exact c
  ·rw [d7, if_pos c] at hse; exact absurd hse c
 have c9 : ¬ 9 < cells := by
  intro c
  rw [d7, if_neg (by simp [hs]), if_pos c] at hse; cases hse
 obtain ⟨n, rfl, g1, g2, g3, g4⟩ := sys_ok hs
 rw [H4.loadN (k := 1) (n := 2) rfl rfl]
 refine spectrum113 hj h0 (by omega) (by omega) (fun l hl => ⟨g4 l hl, hw l hl⟩) _ _ _ _ ?_
 rintro _ rfl _
 rw [Int.toNat_natCast, ← spL_def] at hK
 exact hK _ _ _ _ _ H4 (jG (zO (vP _)) (zO rfl)) rfl
end Go.Ev
namespace Go.Ev
open Go Go.Proofs
variable {B : Nat}
theorem refVert70 {V : Int} {E : List (Int × Int)} (hg : zY V E = 0) : Pure Tryz.prog B 70 [.agg [I V, encP E]] (· = sysV V E (gS V E V.toNat)) := by
 obtain ⟨g1, g2, g3⟩ := qG hg
 obtain ⟨lo, lr⟩ := wL hg
 refine yX fun h nx K H0 hK => zP zT dreg 10000 fun hf => ?_
 rw [F70.go]
 refine H0.box (l := [I V, encP E]) rfl fun bx h1 nx1 H1 => ?_
 refine H1.alloc fun r h2 nx2 H2 => ?_
 refine F70.L1 (fun m x3 x4 h' nx' => ∃ (i : Nat) (T : List TRow) (o : Option Pa), x4 = I i ∧ x3 = rowV o 1 T.length ∧ V.toNat - i = m ∧ i ≤ V.toNat ∧ T.map (·.2.2) = gS V E i ∧ (∀ t ∈ T, RowOk t) ∧
  Hp h h' nx' (.gro o 1 T.length (T.map (·.1)) :: (T.map (·.2.1) ++ [Ob.arr r [I 0, .nils], Ob.arr bx [I V, encP E]]))) (m := V.toNat) (by omega) ⟨0, [], none, rfl, rfl, rfl, by omega, rfl, by simp, H2.addGro 1⟩ ?_
 rintro m z3 z4 z5 z6 z7 z8 z9 h4 nx4 R ⟨i, T, o, rfl, rfl, rfl, hi, hTl, hT, H4⟩ hR
 have hTn : T.length = i := by have := congrArg List.length hTl; simpa [gS] using this
 have kb : (Ob.gro o 1 T.length (T.map (·.1)) :: (T.map (·.2.1) ++ [Ob.arr r [I 0, .nils], Ob.arr bx [I V, encP E]]))[T.length + 2]? = some (.arr bx [I V, encP E]) := by
  rw [List.getElem?_cons_succ, List.getElem?_append_right (by simp), List.length_map, show T.length + 1 - T.length = 1 by omega]; rfl
 simp only [sFx]
 rw [H4.load (k := T.length + 2) (i := 0) kb rfl]
 simp only [sLss]
 by_cases hlt : i < V.toNat
 case neg =>
  simp only [show ¬ (i : Int) < V by omega, decide_false, zA]
  obtain rfl : i = V.toNat := by omega
  rw [F70.k16]
  simp only [sFx]
  rw [H4.load (k := T.length + 2) (i := 0) kb rfl, H4.load (k := T.length + 2) (i := 0 + 1) kb rfl]
  simp only [zF]
  rw [sAdd (by omega), sBuild2s (gV _ _ _)]
  have kr : (Ob.gro o 1 T.length (T.map (·.1)) :: (T.map (·.2.1) ++ [Ob.arr r [I 0, .nils], Ob.arr bx [I V, encP E]]))[T.length + 1]? = some (.arr r [I 0, .nils]) := by
   rw [List.getElem?_cons_succ, List.getElem?_append_right (by simp), List.length_map, Nat.sub_self]; rfl
  refine H4.storeN (l2 := [I (V + (E.length : Int)), rowV o 1 T.length]) (k := T.length + 1) kr rfl rfl fun h6 H6 => ?_
  rw [H6.loadN (k := T.length + 1) (n := 2) (List.getElem?_set_self (by simp)) rfl]
  have hF : FrzN h h6 (rowV o 1 T.length) (encT (gS V E V.toNat)) := by
   rw [← hTl]
   refine tabFrz H6 (k := 0) (by simp) fun t ht => ⟨hT t ht, ?_⟩
   have : t.2.1 ∈ T.map (·.2.1) := List.mem_map_of_mem ht
   rw [List.set_cons_succ, List.set_append_right _ _ (by simp)]
   exact List.mem_cons_of_mem _ (List.mem_append_left _ this)
  refine hK _ _ _ _ _ H6 (frz_sys hF) rfl
 simp only [show (i : Int) < V by omega, decide_true, zC]
 refine H4.bslice (l := [I (i : Int)]) rfl fun p h5 nx5 H5 => ?_
 have star : ∀ {K : Ks Prop} {E0 E1 : Ks Prop} {w7 w8 w9}, (∀ x X w8 w9 h' nx', StarSt x X (gU V E (i : Int) E.length) (i : Int) → Hp h h' nx' (X :: Ob.gro o 1 T.length (T.map (·.1)) :: (T.map (·.2.1) ++ [Ob.arr r [I 0, .nils], Ob.arr bx [I V, encP E]])) → K (F70.fr (.agg [I V, encP E]) (.ptr bx 0) (.ptr r 0) (rowV o 1 T.length) (I (i : Int)) x (I (E.length : Int)) w7 w8 w9) h' nx' = .ok True) →
   IR.run F70.b7 (CS Tryz.prog B) 10000 (((fnO F70.res ‹Kw Prop›).blk 0 E0).blk 1 E1) K (F70.fr (.agg [I V, encP E]) (.ptr bx 0) (.ptr r 0) (rowV o 1 T.length) (I (i : Int)) (.sl p 0 1 (some 1) 1) (I 0) w7 w8 w9) h5 nx5 = .ok True := by
  intro K E0 E1 w7 w8 w9 hK'
  refine F70.L7 (fun m x5 x6 h' nx' => ∃ (j : Nat) (X : Ob), x6 = I j ∧ E.length - j = m ∧ j ≤ E.length ∧ StarSt x5 X (gU V E (i : Int) j) (i : Int) ∧ Hp h h' nx' (X :: Ob.gro o 1 T.length (T.map (·.1)) :: (T.map (·.2.1) ++ [Ob.arr r [I 0, .nils], Ob.arr bx [I V, encP E]]))) (m := E.length) (by omega) ⟨0, _, rfl, rfl, by omega, .inl ⟨by simp [gU], p, rfl, rfl⟩, H5⟩ ?_
  rintro m y5 y6 y8 y9 h6 nx6 R2 ⟨j, X, rfl, rfl, hj, hs, H6⟩ hR2
  have kb6 : (X :: Ob.gro o 1 T.length (T.map (·.1)) :: (T.map (·.2.1) ++ [Ob.arr r [I 0, .nils], Ob.arr bx [I V, encP E]]))[T.length + 3]? = some (.arr bx [I V, encP E]) := kb
  simp only [sFx]
  rw [H6.load (k := T.length + 3) (i := 0 + 1) kb6 rfl]
  simp only [zF, sLss]
  by_cases hjt : j < E.length
  case neg =>
   simp only [show ¬ (j : Int) < (E.length : Int) by omega, decide_false, zA]
   obtain rfl : j = E.length := by omega
   exact hK' _ _ _ _ _ _ hs H6
  simp only [show (j : Int) < (E.length : Int) by omega, decide_true, zC]
  have hss := starL_succ V E (i : Int) j
  have hsl := vA V E (i : Int) j
  rw [vT hjt] at hss
  have app : (E[j].1 = (i : Int) ∨ E[j].2 = (i : Int)) → ∀ w8 w9, (zD (.ptr bx 0) h6 fun v21 =>
    sBin .add .int v21 (I (j : Int)) fun v22 =>
    yF 1 1 [(I 0)] [(0, 1, v22)] h6 nx6 fun v23 h24 n25 =>
    sApp 1 8 y5 v23 h24 n25 fun v26 h27 n28 =>
    sBin .add .int (I (j : Int)) (I 1) fun v29 =>
    R2 (F70.fr (.agg [I V, encP E]) (.ptr bx 0) (.ptr r 0) (rowV o 1 T.length) (I (i : Int)) v26 v29 w7 w8 w9) h27 n28) = .ok True := by
   intro hc w8 w9
   rw [if_pos hc] at hss
   rw [H6.load (k := T.length + 3) (i := 0) kb6 rfl, sAdd (by omega)]
   refine H6.bslice (l := [I (V + (j : Int))]) rfl fun tb h7 nx7 H7 => ?_
   refine star_app (J := [_]) hs H7 (HasArr.rd (l := [I (V + (j : Int))]) (n := 1) (H7.own _ (List.mem_cons_self ..)) rfl) (by decide) (by omega) fun x' X' h8 nx8 hs' H8 => ?_
   rw [sAdd (by omega)]
   exact hR2 _ _ _ _ _ _ _ (by omega) ⟨j + 1, X', rfl, rfl, by omega, by rw [hss]; exact hs', H8⟩
  rw [H6.load (k := T.length + 3) (i := 0 + 1) kb6 rfl, sIxL rfl hjt, jN hjt, sAxF0, q9]
  simp only [sEql]
  by_cases c1 : E[j].1 = (i : Int)
  ·simp only [c1, decide_true, yO, zI, zC]
   exact app (.inl c1) _ _
  simp only [c1, decide_false, yN]
  rw [H6.load (k := T.length + 3) (i := 0 + 1) kb6 rfl, sIxL rfl hjt, jN hjt, sAxF1, q9]
  simp only [sEql, zK]
  by_cases c2 : E[j].2 = (i : Int)
  ·simp only [c2, decide_true, zC]
   exact app (.inr c2) _ _
  simp only [c2, decide_false, zA]
  rw [if_neg (by simp [c1, c2])] at hss
  rw [sAdd (by omega)]
  exact hR2 _ _ _ _ _ _ _ (by omega) ⟨j + 1, X, rfl, rfl, by omega, by rw [hss]; exact hs, H6⟩
 refine star fun x X w8 w9 h6 nx6 hs H6 => ?_
 rw [F70.k14]
 have hin : gU V E (i : Int) E.length ∈ gS V E V.toNat := List.mem_map.2 ⟨i, List.mem_range.2 hlt, rfl⟩
 obtain ⟨b1, b2, b3, b4⟩ := lo.asc _ hin
 refine with117 (t := (x, X, gU V E (i : Int) E.length)) (fun q hq => ⟨hT q hq, ?_⟩) (by omega) hs.ok b2 b1 b4 ?_ (H6.perm (List.Perm.swap _ _ _)) fun o' t' h8 nx8 ht' hl' H8 => ?_
 ·have : q.2.2 ∈ T.map (·.2.2) := List.mem_map_of_mem hq
  rw [hTl] at this
  obtain ⟨j, hj, e⟩ := List.mem_map.1 this
  rw [← e]
  have := vA V E (j : Int) E.length
  omega
 ·rw [hTl]
  intro hm
  obtain ⟨j, hj, e⟩ := List.mem_map.1 hm
  have := List.mem_range.1 hj
  simp only [gU, List.cons.injEq] at e
  omega
 rw [F70.k15, sAdd (by omega)]
 refine hR _ _ _ _ _ _ _ _ _ _ (by omega) ⟨i + 1, T ++ [t'], o', rfl, by rw [List.length_append]; rfl, rfl, by omega, ?_, ?_, ?_⟩
 ·rw [List.map_append, hTl, vertL_succ]
  simp [hl']
 ·intro t ht
  rcases List.mem_append.1 ht with q | q
  ·exact hT t q
  ·rw [List.mem_singleton.1 q]; exact ht'
 ·rw [List.length_append, List.map_append, List.map_append, List.append_assoc]
  exact H8.perm ((List.perm_middle (l₁ := T.map (·.2.1))).symm.cons _)
theorem bE {x : Int} {v : AV} {e : Int} (hv : fixd v = true) (hs : v.cells = some [v]) (he : e ≠ 0) : Pure Tryz.prog B 114 [.agg [I x, v], I e] (· = .tup [.nils, I e]) := by
 refine yX fun h nx K H0 hK => zP zT dreg 10 fun hf => ?_
 rw [F114.go]
 refine H0.box (l := [I x, v]) rfl fun bx h1 nx1 H1 => ?_
 simp only [sNeq, he, decide_false, Bool.not_false, zC]
 exact hK _ _ _ _ _ H1 (jG (zO rfl) (zO rfl)) rfl
abbrev kX (cells : Int) (lines : List (List Int)) : AV := if uX cells lines ≠ 0 then .tup [.nils, I (uX cells lines)] else .tup [encP (spL cells.toNat lines), I 0]
theorem const114 {cells : Int} {lines : List (List Int)} (hj : ∀ B, JOk Tryz.prog B kE) (hw : ∀ q ∈ lines, q.length ≤ 1000) : Pure Tryz.prog B 114 [.agg [I cells, encT lines], I 0] (· = kX cells lines) := by
 refine yX fun h nx K H0 hK => zP zT dreg 10 fun hf => ?_
 rw [F114.go]
 refine H0.box (l := [I cells, encT lines]) rfl fun bx h1 nx1 H1 => ?_
 simp only [sNeq, decide_true, Bool.not_true, zA]
 rw [H1.loadN (k := 0) (n := 2) rfl rfl]
 refine spectrum63 hj hw _ _ _ _ ?_
 rintro _ rfl _
 by_cases c : uX cells lines = 0
 ·have e : kX cells lines = .tup [encP (spL cells.toNat lines), I 0] := if_neg (by simp [c])
  rw [e] at hK
  rw [if_neg (by simp [c])]
  simp only [yE, yB]
  exact hK _ _ _ _ _ H1 (jG (zO (vP _)) (zO rfl)) rfl
 ·have e : kX cells lines = .tup [.nils, I (uX cells lines)] := if_pos c
  rw [e] at hK
  rw [if_pos c]
  simp only [yE, yB]
  exact hK _ _ _ _ _ H1 (jG (zO rfl) (zO rfl)) rfl
theorem bD {V : Int} {E : List (Int × Int)} (hj : ∀ B, JOk Tryz.prog B kE) (hE : E.length ≤ 1000000) : Pure Tryz.prog B 67 [.agg [I V, encP E]] (· = if qK V E ≠ 0 then .tup [.nils, I (qK V E)] else kX (V + (E.length : Int)) (gO V E E.length)) := by
 refine yX fun h nx K H0 hK => zP zT dreg 10 fun hf => ?_
 rw [F67.go]
 refine H0.box (l := [I V, encP E]) rfl fun bx h1 nx1 H1 => ?_
 rw [H1.loadN (k := 0) (n := 2) rfl rfl]
 refine edgeMagic115 hj hE _ _ _ _ ?_
 rintro _ rfl _
 by_cases c : qK V E = 0
 case neg =>
  rw [if_pos c] at hK ⊢
  simp only [yE, yB]
  refine bE rfl rfl c _ _ _ _ ?_
  rintro _ rfl _
  simp only [yE, yB]
  exact hK _ _ _ _ _ H1 (jG (zO rfl) (zO rfl)) rfl
 have hg : zY V E = 0 := by
  by_cases q : zY V E = 0
  ·exact q
  ·rw [qK, jC, if_pos q] at c; exact absurd c q
 rw [if_neg (by simp [c])] at hK ⊢
 simp only [yE, yB]
 refine const114 hj (fun q hq => by have := ((wW hg).2 q hq).2; omega) _ _ _ _ ?_
 rintro _ rfl _
 by_cases c2 : uX (V + (E.length : Int)) (gO V E E.length) = 0
 ·rw [show kX _ _ = _ from if_neg (by simp [c2])] at hK ⊢
  simp only [yE, yB]
  exact hK _ _ _ _ _ H1 (jG (zO (vP _)) (zO rfl)) rfl
 ·rw [show kX _ _ = _ from if_pos c2] at hK ⊢
  simp only [yE, yB]
  exact hK _ _ _ _ _ H1 (jG (zO rfl) (zO rfl)) rfl
theorem mU {V : Int} {E : List (Int × Int)} (hj : ∀ B, JOk Tryz.prog B kE) (hE : E.length ≤ 1000000) : Pure Tryz.prog B 68 [.agg [I V, encP E]] (· = if zY V E ≠ 0 then .tup [.nils, I (zY V E)] else kX (V + (E.length : Int)) (gS V E V.toNat)) := by
 refine yX fun h nx K H0 hK => zP zT dreg 10 fun hf => ?_
 rw [F68.go]
 refine H0.box (l := [I V, encP E]) rfl fun bx h1 nx1 H1 => ?_
 rw [H1.loadN (k := 0) (n := 2) rfl rfl]
 refine vertexMagic116 hj hE _ _ _ _ ?_
 rintro _ rfl _
 by_cases c : zY V E = 0
 case neg =>
  rw [if_pos c] at hK ⊢
  simp only [yE, yB]
  refine bE rfl rfl c _ _ _ _ ?_
  rintro _ rfl _
  simp only [yE, yB]
  exact hK _ _ _ _ _ H1 (jG (zO rfl) (zO rfl)) rfl
 rw [if_neg (by simp [c])] at hK ⊢
 simp only [yE, yB]
 refine const114 hj (fun q hq => by have := ((wL c).2 q hq).2; omega) _ _ _ _ ?_
 rintro _ rfl _
 by_cases c2 : uX (V + (E.length : Int)) (gS V E V.toNat) = 0
 ·rw [show kX _ _ = _ from if_neg (by simp [c2])] at hK ⊢
  simp only [yE, yB]
  exact hK _ _ _ _ _ H1 (jG (zO (vP _)) (zO rfl)) rfl
 ·rw [show kX _ _ = _ from if_pos c2] at hK ⊢
  simp only [yE, yB]
  exact hK _ _ _ _ _ H1 (jG (zO rfl) (zO rfl)) rfl
end Go.Ev
namespace Go.Ev
open Go Go.Proofs
variable {B : Nat}
theorem lines_zero {n : Nat} : ∀ (ls prev : List (List Int)), (∀ l ∈ ls, AscL n l) → (prev ++ ls).Nodup → uM n prev ls = 0
 | [], _, _, _ => rfl
 | l :: ls, prev, hl, hn => by
  have ha := hl l (by simp)
  have hm : l ∉ prev := fun h => (List.nodup_append.1 hn).2.2 l h l (by simp) rfl
  have e : gH n prev l = 0 := by rw [gH, if_neg ha.1, cells_zero ha.2.2 ha.2.1 (by simp), if_neg (by simp), if_neg hm]
  rw [uM, if_neg (by rw [e]; simp)]
  exact lines_zero ls (prev ++ [l]) (fun x hx => hl x (by simp [hx])) (by rw [List.append_assoc]; exact hn)
theorem sys_zero {n : Nat} {lines : List (List Int)} (h1 : 1 ≤ n) (h2 : n ≤ 256) (h3 : lines.length ≤ 128) (hl : ∀ l ∈ lines, AscL n l) (hn : lines.Nodup) : jW n lines = 0 := by
 rw [jW, if_neg (by omega), if_neg (by omega)]
 exact lines_zero lines [] hl hn
theorem vB {n : Nat} {lines : List (List Int)} (hs : jW n lines = 0) (h9 : 9 < n) : uX n lines = 20 := by
 have : kY n lines = 20 := by rw [d7, if_neg (by simp [hs]), if_pos (by omega)]
 rw [uX, this, if_pos (by decide)]
theorem mW {n : Nat} {lines : List (List Int)} (hs : jW n lines = 0) (h9 : n ≤ 9) (h0 : 0 < lines.length) : uX n lines = 0 := by
 have : kY n lines = 0 := by rw [d7, if_neg (by simp [hs]), if_neg (by omega)]
 rw [uX, this, if_neg (by decide), if_neg (by omega)]
theorem vS (V : Int) (E : List (Int × Int)) (i : Nat) : (gO V E i).length = i := by simp [gO]
theorem xY (V : Int) (E : List (Int × Int)) (i : Nat) : (gS V E i).length = i := by simp [gS]
theorem sPart4 {a b c d e f g : AV} {K : AV → OP} : mX 4 none (.agg [a, b, c, d, e, f, g]) K = K e := nr rfl
theorem walkSp {n : Nat} {lines : List (List Int)} (hn1 : 1 ≤ n) (hn9 : n ≤ 9) (hm : lines.length ≤ 128) (h0 : 0 < lines.length) (hl : ∀ l ∈ lines, AscL n l ∧ l.length ≤ 1000) {h : T Blk} {nx : Pa} {K : AV → AV → Kw Prop}
  (hK : ∀ v2 v5 h' nx', h' = h → nx' = nx → K v2 v5 (.bool true) h' nx' = .ok True) :
  (CS Tryz.prog B).fn 65 (.of 65) [.agg [I n, encT lines], I 0] h nx (fun v2 h3 n4 => mX 4 none v2 fun v5 => (CS Tryz.prog B).fn 66 (.of 66) [encP (spL n lines), v5] h3 n4 (K v2 v5)) = .ok True := by
 refine walk65 hn1 hn9 (by omega) hl _ _ _ _ ?_
 rintro _ rfl _
 rw [sPart4]
 have hq := spL_eq h0 hn9 fun l hm => (hl l hm).1
 unfold enumF at hq
 rw [hq]
 have hlen : (spL n lines).length ≤ 1000000 := by
  have h1 := spV_len lines n (loB n lines) (hiB n lines + 1 - loB n lines).toNat
  have h2 := bnd_bd h0 hn9 hm fun l hm => (hl l hm).1
  exact Nat.le_trans h1 (by omega)
 refine samePairs66 hlen _ _ _ _ ?_
 rintro _ rfl _
 rw [decide_eq_true rfl]
 exact hK _ _ _ _ rfl rfl
theorem law16 {V : Int} {E : List (Int × Int)} (hj : ∀ B, JOk Tryz.prog B kE) (haw : ∀ {B}, Pure Tryz.prog B 18 [] (· = .bool true)) : Pure Tryz.prog B 16 [.agg [I V, encP E]] (· = .bool true) := by
 refine yX fun h nx K H0 hK => zP zT dreg 1000 fun hf => ?_
 rw [runF16, F16.b0_eq, F16.goX]
 refine H0.box (l := [I V, encP E]) rfl fun bx h1 nx1 H1 => ?_
 have ret : ∀ h' nx' L, Hp h h' nx' L → K (.bool true) h' nx' = .ok True := fun _ _ _ H => hK _ _ _ _ _ H (zO rfl) rfl
 have awk : ∀ (h' : T Blk) (nx' : Pa) (Z : Kw Prop), Z (.bool true) h' nx' = .ok True → (CS Tryz.prog B).fn 18 (.of 18) [] h' nx' Z = .ok True := fun _ _ Z hZ => haw _ _ _ _ fun v hv _ => by rw [hv]; exact hZ
 simp only [sFx]
 rw [H1.load (k := 0) (i := 0 + 1) rfl rfl]
 simp only [zF, sGtr]
 by_cases c40 : 40 < E.length
 ·simp only [show (40 : Int) < (E.length : Int) by omega, decide_true]
  rw [F16.r0_t, F16.y0, zC]
  exact awk _ _ _ (ret _ _ _ H1)
 have hE0 : E.length ≤ 1000000 := by omega
 simp only [show ¬ (40 : Int) < (E.length : Int) by omega, decide_false]
 rw [F16.r0_f, H1.loadN (k := 0) (n := 2) rfl rfl]
 refine dM hE0 _ _ _ _ ?_
 rintro _ rfl _
 simp only [sEql]
 by_cases hg : zY V E = 0
 case neg =>
  simp only [hg, decide_false]
  rw [F16.r1_f, F16.r2_f, zK, F16.r3_f, F16.r5_f, zK, F16.y0, zA, F16.k1, H1.loadN (k := 0) (n := 2) rfl rfl]
  have he : qK V E = zY V E := by rw [qK, jC, if_pos hg]
  refine bD hj hE0 _ _ _ _ ?_
  rintro _ rfl _
  rw [he, if_pos hg]
  simp only [yE, yB]
  rw [H1.loadN (k := 0) (n := 2) rfl rfl]
  refine mU hj hE0 _ _ _ _ ?_
  rintro _ rfl _
  rw [if_pos hg]
  simp only [yE, yB]
  rw [H1.loadN (k := 0) (n := 2) rfl rfl]
  refine dM hE0 _ _ _ _ ?_
  rintro _ rfl _
  simp only [sNeq, hg, decide_false, Bool.not_false, zC, zJ]
  rw [sAdd (by omega)]
  simp only [sEql, show ((0 : Int) + 0 = 0) from rfl, decide_true, yJ, zI]
  rw [sGW_tt]
  exact awk _ _ _ (ret _ _ _ H1)
 obtain ⟨g1, g2, g3⟩ := qG hg
 obtain ⟨n, hn⟩ : ∃ n : Nat, V + (E.length : Int) = (n : Int) := ⟨(V + (E.length : Int)).toNat, by omega⟩
 obtain ⟨lo, lr⟩ := wW hg
 obtain ⟨vo, vr⟩ := wL hg
 have hnn : V.toNat + E.length = n := by omega
 rw [hnn] at lr vr
 have sE : jW n (gO V E E.length) = 0 := sys_zero (by omega) (by omega) (by rw [vS]; omega) (fun l hl => (lr l hl).1) lo.nd
 have sV : jW n (gS V E V.toNat) = 0 := sys_zero (by omega) (by omega) (by rw [xY]; omega) (fun l hl => (vr l hl).1) vo.nd
 simp only [hg, decide_true]
 rw [F16.r1_t]
 simp only [sFx]
 rw [H1.load (k := 0) (i := 0) rfl rfl, H1.load (k := 0) (i := 0 + 1) rfl rfl]
 simp only [zF]
 rw [sAdd (by omega), hn]
 simp only [sGtr]
 rw [F16.r2_f, zI]
 have rest : (n ≤ 7 ∨ 9 < n) → ∀ w11, IR.run F16.b1 (CS Tryz.prog B) 1000 (fnO F16.res K) (retK F16.res K) (F16.fr (.agg [I V, encP E]) (.ptr bx 0) (.bool false) .undef .undef .undef .undef .undef .undef .undef .undef w11 .undef .undef .undef .undef) h1 nx1 = .ok True := by
  intro hcase w11
  rw [F16.k1, H1.loadN (k := 0) (n := 2) rfl rfl]
  have he : qK V E = if E.length = 0 then 12 else 0 := by
   rw [qK, jC, if_neg (by simp [hg])]
   by_cases c : E.length = 0 <;> simp [jC, c]
  obtain ⟨a, e, hae, hv1⟩ : ∃ (a : AV) (e : Int), ((E.length = 0 ∧ a = .nils ∧ e = 12) ∨ (0 < E.length ∧ 9 < n ∧ a = .nils ∧ e = 20) ∨ (0 < E.length ∧ n ≤ 9 ∧ a = encP (spL n (gO V E E.length)) ∧ e = 0)) ∧
    (if qK V E ≠ 0 then AV.tup [.nils, I (qK V E)] else kX (V + (E.length : Int)) (gO V E E.length)) = .tup [a, I e] := by
   rw [he, hn]
   by_cases c : E.length = 0
   ·exact ⟨.nils, 12, .inl ⟨c, rfl, rfl⟩, by rw [if_pos c, if_pos (by decide)]⟩
   ·rw [if_neg c, if_neg (by decide)]
    by_cases c9 : 9 < n
    ·exact ⟨.nils, 20, .inr (.inl ⟨by omega, c9, rfl, rfl⟩), by rw [show kX _ _ = _ from if_pos (by rw [vB sE c9]; decide), vB sE c9]⟩
    ·exact ⟨_, 0, .inr (.inr ⟨by omega, by omega, rfl, rfl⟩), by rw [show kX _ _ = _ from if_neg (by rw [mW sE (by omega) (by rw [vS]; omega)]; decide), Int.toNat_natCast]⟩
  obtain ⟨b, f, hbf, hv2⟩ : ∃ (b : AV) (f : Int), ((9 < n ∧ b = .nils ∧ f = 20) ∨ (n ≤ 9 ∧ b = encP (spL n (gS V E V.toNat)) ∧ f = 0)) ∧ kX (V + (E.length : Int)) (gS V E V.toNat) = .tup [b, I f] := by
   rw [hn]
   by_cases c9 : 9 < n
   ·exact ⟨.nils, 20, .inl ⟨c9, rfl, rfl⟩, by rw [show kX _ _ = _ from if_pos (by rw [vB sV c9]; decide), vB sV c9]⟩
   ·exact ⟨_, 0, .inr ⟨by omega, rfl, rfl⟩, by rw [show kX _ _ = _ from if_neg (by rw [mW sV (by omega) (by rw [xY]; omega)]; decide), Int.toNat_natCast]⟩
  refine bD hj hE0 _ _ _ _ ?_
  rintro _ rfl _
  rw [hv1]
  simp only [yE, yB]
  rw [H1.loadN (k := 0) (n := 2) rfl rfl]
  refine mU hj hE0 _ _ _ _ ?_
  rintro _ rfl _
  rw [if_neg (by simp [hg]), hv2]
  simp only [yE, yB]
  rw [H1.loadN (k := 0) (n := 2) rfl rfl]
  refine dM hE0 _ _ _ _ ?_
  rintro _ rfl _
  simp only [sNeq, hg, decide_true, Bool.not_true, zA]
  rw [F16.b2_eq, F16.k2X, sFx, H1.load (k := 0) (i := 0) rfl rfl, sFx, H1.load (k := 0) (i := 0 + 1) rfl rfl]
  simp only [zF]
  rw [sAdd (by omega), hn]
  simp only [sGtr]
  rw [H1.loadN (k := 0) (n := 2) rfl rfl]
  have hlarge : decide ((9 : Int) < (n : Int)) = decide (9 < n) := decide_eq_decide.2 (by omega)
  rw [hlarge]
  have k4 : ∀ (h' : T Blk) (nx' : Pa) (L : List Ob) (s7 s9 s10 s11 s12 s13 s14 s15 : AV), Hp h h' nx' (L ++ [Ob.arr bx [I V, encP E]]) → IR.run F16.b4 (CS Tryz.prog B) 1000 (fnO F16.res K) (retK F16.res K) (F16.fr (.agg [I V, encP E]) (.ptr bx 0) (.bool false) a (I e) b (I f) s7 (.bool (decide (9 < n))) s9 s10 s11 s12 s13 s14 s15) h' nx' = .ok True := by
   intro h' nx' L s7 s9 s10 s11 s12 s13 s14 s15 H
   rw [F16.k4]
   rcases hbf with ⟨c9, rfl, rfl⟩ | ⟨c9, rfl, rfl⟩
   ·simp only [c9, decide_true, zC, zJ, sEql, yJ, zI]
    rw [sGW_tt]
    exact awk _ _ _ (ret _ _ _ H)
   ·have kb : (L ++ [Ob.arr bx [I V, encP E]])[L.length]? = some (.arr bx [I V, encP E]) := by rw [List.getElem?_append_right (by omega), Nat.sub_self]; rfl
    simp only [show ¬ 9 < n by omega, decide_false, zA, sEql, decide_true, yJ]
    rw [H.loadN (k := L.length) (n := 2) kb rfl, sGW_tt]
    refine refVert70 hg _ _ _ _ ?_
    rintro _ rfl _
    simp only [sGW_tt]
    rw [sysV, hn]
    refine walkSp (by omega) c9 (by rw [xY]; omega) (by rw [xY]; omega) (fun l hl => ⟨(vr l hl).1, by have := (vr l hl).2; omega⟩) fun _ _ h2 nx2 e1 e2 => ?_
    subst e1; subst e2
    simp only [zI, yJ]
    rw [sGW_tt]
    exact awk _ _ _ (ret _ _ _ H)
  refine refEdge69 hg _ _ _ _ ?_
  rintro _ rfl _
  have bad : ∀ (one : Int) (h' : T Blk) (nx' : Pa) (L : List Ob) (s7 s9 s11 s12 s13 s14 s15 : AV), one ≠ 0 → a = .nils → e = one → Hp h h' nx' (L ++ [Ob.arr bx [I V, encP E]]) → IR.run F16.b3 (CS Tryz.prog B) 1000 (fnO F16.res K) (retK F16.res K) (F16.fr (.agg [I V, encP E]) (.ptr bx 0) (.bool false) a (I e) b (I f) s7 (.bool (decide (9 < n))) s9 (I one) s11 s12 s13 s14 s15) h' nx' = .ok True := by
   intro one h' nx' L s7 s9 s11 s12 s13 s14 s15 h1' ha he' H
   have k4' := fun s14 => k4 h' nx' L s7 s9 (I one) s11 s12 s13 s14 s15 H
   subst ha; subst he'
   rw [F16.b3_eq, F16.k3X]
   simp only [sNeq, h1', decide_false, Bool.not_false]
   rw [F16.r4_t]
   simp only [zJ, sNeq, decide_true, Bool.not_true]
   rw [F16.r6_f]
   simp only [sNeq, decide_true, Bool.not_true]
   rw [F16.r8_t, zK, F16.r11_f]
   simp only [sEql, h1', decide_false]
   rw [F16.r7_f, F16.r10_f, zK, F16.y3, zA]
   exact k4' _
  by_cases cE : E.length = 0
  ·rw [if_pos cE]
   simp only [yE, yB]
   refine H1.alloc fun b9 h2 nx2 H2 => ?_
   refine H2.storeN (k := 0) (n := 2) rfl rfl rfl fun h3 H3 => ?_
   simp only [sEql, show ¬ (12 : Int) = 0 by decide, decide_false, yP, zK, zA]
   have : a = .nils ∧ e = 12 := by
    rcases hae with ⟨_, q1, q2⟩ | ⟨q, _⟩ | ⟨q, _⟩
    ·exact ⟨q1, q2⟩
    ·omega
    ·omega
   exact bad 12 _ _ [_] _ _ _ _ _ _ _ (by decide) this.1 this.2 H3
  ·rw [if_neg cE]
   simp only [yE, yB]
   refine H1.alloc fun b9 h2 nx2 H2 => ?_
   refine H2.storeN (k := 0) (n := 2) rfl rfl rfl fun h3 H3 => ?_
   simp only [sEql, decide_true, yJ, zI]
   by_cases c9 : 9 < n
   ·have : a = .nils ∧ e = 20 := by
     rcases hae with ⟨q, _⟩ | ⟨_, _, q1, q2⟩ | ⟨_, q, _⟩
     ·omega
     ·exact ⟨q1, q2⟩
     ·omega
    have hb := fun L => bad 20 h3 nx2 L
    rw [decide_eq_true c9] at hb ⊢
    rw [zC]
    exact hb [_] _ _ _ _ _ _ _ (by decide) this.1 this.2 H3
   ·obtain ⟨rfl, rfl⟩ : a = encP (spL n (gO V E E.length)) ∧ e = 0 := by
     rcases hae with ⟨q, _⟩ | ⟨_, q, _⟩ | ⟨_, _, q1, q2⟩
     ·omega
     ·omega
     ·exact ⟨q1, q2⟩
    have k4' := fun s7 s9 s10 s11 s12 s13 s14 s15 => k4 h3 nx2 [_] s7 s9 s10 s11 s12 s13 s14 s15 H3
    simp only [c9, decide_false, zA] at k4' ⊢
    rw [F16.b3_eq, F16.k3X]
    simp only [sNeq, decide_true, Bool.not_true]
    rw [F16.r4_f]
    simp only [sEql, decide_true]
    rw [F16.r7_t]
    simp only [sNeq, decide_true, Bool.not_true]
    rw [F16.r9_f, H3.loadN (k := 0) (n := 2) rfl rfl]
    rw [hn]
    refine walkSp (by omega) (by omega) (by rw [vS]; omega) (by rw [vS]; omega) (fun l hl => ⟨(lr l hl).1, by have := (lr l hl).2; omega⟩) fun _ _ h4 nx4 e1 e2 => ?_
    subst e1; subst e2
    simp only [zV, Bool.not_true]
    rw [F16.r12_t, zK, F16.r10_f, zI, F16.y3, zA]
    exact k4' _ _ _ _ _ _ _ _
 by_cases c7 : 7 < n
 ·simp only [show (7 : Int) < (n : Int) by omega, decide_true]
  rw [F16.r3_t]
  simp only [sFx]
  rw [H1.load (k := 0) (i := 0) rfl rfl, H1.load (k := 0) (i := 0 + 1) rfl rfl]
  simp only [zF]
  rw [sAdd (by omega), hn]
  simp only [sLeq]
  rw [F16.r5_f, zI, F16.y0]
  by_cases c9 : n ≤ 9
  ·simp only [show (n : Int) ≤ 9 by omega, decide_true, zC]
   exact awk _ _ _ (ret _ _ _ H1)
  ·simp only [show ¬ (n : Int) ≤ 9 by omega, decide_false, zA]
   exact rest (by omega) _
 ·simp only [show ¬ (7 : Int) < (n : Int) by omega, decide_false]
  rw [F16.r3_f, F16.r5_f, zK, F16.y0, zA]
  exact rest (by omega) _
end Go.Ev
