import Derived.Test.YtkjkjpmahgeneaaGreatDoorWordsa
import Derived.Test.YtkjkjpmahgeneaaGreatDoorEvD
import Derived.Test.YtkjkjpmahgeneaaGreatDoorCodea
set_option linter.unusedSimpArgs false
set_option linter.unusedVariables false
namespace Go.Ev
open Go Go.Proofs
variable {B : Nat}
set_option maxRecDepth 100000
theorem clone106o {h0 h : T Blk} {nx p : Pa} {L : List Ob} {f : List Int} {K : Kw Prop} (hf : 0 < f.length) (hl : f.length ≤ 1000) (H : Hp h0 h nx L)
  (hK : ∀ id cap h' nx', xG f.length cap → Hp h0 h' nx' (.arr id (f.map I) :: L) → K (.sl id 0 f.length cap 1) h' nx' = .ok True) : (CS Tryz.prog B).fn 106 p [encI f] h nx K = .ok True := by
 refine uX (p := .of 106) (K := K) (zS zZ dreg 9 fun hf => ?_) fun _ _ _ _ q => q
 cases f with
 | nil => simp at hf
 | cons x t =>
  rw [F106.go]
  have e : ∀ A C : OP, (sBin .eql (.nil .sl) (encI (x :: t)) .nils fun v1 => yF v1 A C) = C := fun A C => nr rfl
  rw [e]
  exact H.copyArrO (new := (x :: t).map I) (c := (x :: t).length) (fun e h1 n1 H1 => rdLst 1) (by simp) (List.all_eq_true.2 fun v hv => by obtain ⟨z, _, rfl⟩ := List.mem_map.1 hv; rfl) (by decide) (by omega) hK
def RowOwn (L : List Ob) (p : AV × Sym) : Prop := ∃ rid cap, p.1 = .sl rid 0 p.2.1.length cap 1 ∧ xG p.2.1.length cap ∧ Ob.arr rid (p.2.1.map I) ∈ L
theorem RowOwn.mono {L L' : List Ob} {p : AV × Sym} (h : RowOwn L p) (hl : ∀ x ∈ L, x ∈ L') : RowOwn L' p := by
 obtain ⟨r, c, e, hc, m⟩ := h
 exact ⟨r, c, e, hc, hl _ m⟩
theorem frzArrN {h0 h : T Blk} {nx : Pa} {L : List Ob} {id : Pa} {l : List Int} {cap : Option Nat} (H : Hp h0 h nx L) (hm : Ob.arr id (l.map I) ∈ L) (hc : xG l.length cap) : Frz False (fun _ => True) (fun _ => False) h (.sl id 0 l.length cap 1) (encI l) := by
 obtain ⟨op, t, h1, h2⟩ := H.own _ hm
 rw [List.length_map] at h1 h2
 refine .sl _ _ _ _ _ op _ t _ trivial hc h1 (by omega) (by simp) (List.all_eq_true.2 fun v hv => by obtain ⟨z, _, rfl⟩ := List.mem_map.1 hv; rfl) fun i v hi => ?_
 have hil : i < l.length := by have := (List.getElem?_eq_some_iff.1 hi).1; simpa using this
 have := zX t 0 l.length i hil
 rw [h2, hi] at this
 rw [← Option.some.inj this]
 obtain ⟨z, _, rfl⟩ := List.mem_map.1 (List.mem_of_getElem? hi)
 exact .int _ _
theorem frzOwn {h0 h : T Blk} {nx : Pa} {L : List Ob} {k n : Nat} {o : Option Pa} {out : List (AV × Sym)} (H : Hp h0 h nx L) (hk : L[k]? = some (.gro o 2 n (yR out))) (hr : ∀ p ∈ out, RowOwn L p) : Frz False (fun _ => True) (fun _ => False) h (rowV o 2 n) (encG (out.map (·.2))) := by
 have own := H.own _ (List.mem_of_getElem? hk)
 have hlen := kQ out
 cases o with
 | none =>
  obtain ⟨e, rfl⟩ := own
  rw [e] at hlen
  obtain rfl : out = [] := List.eq_nil_of_length_eq_zero (by simp at hlen; omega)
  exact .lnils 2
 | some id =>
  obtain ⟨t, h1, h2, h3⟩ := own
  have hn : n = (out.map (·.2)).length := by rw [List.length_map]; omega
  subst hn
  refine .sl _ _ _ _ _ true _ t _ trivial trivial h1 (by omega) (jD _) (List.all_eq_true.2 fun v hv => fixd.scal (qE v hv)) fun i v hi => ?_
  have hil : i < (out.map (·.2)).length * 2 := by have := (List.getElem?_eq_some_iff.1 hi).1; rwa [jD] at this
  have := zX t 0 ((out.map (·.2)).length * 2) i hil
  rw [h3, wA] at this
  rw [pT, List.getElem?_map] at hi
  cases hq : out[i / 2]? with
  | none => rw [hq] at hi; cases hi
  | some p =>
   rw [hq] at hi this
   obtain ⟨rid, cap, e, hc, hm⟩ := hr p (List.mem_of_getElem? hq)
   have hi := Option.some.inj hi
   have this := Option.some.inj this
   by_cases c : i % 2 = 0
   ·simp only [if_pos c] at hi this
    rw [← this, ← hi, e]
    exact frzArrN H hm hc
   ·simp only [if_neg c] at hi this
    rw [← this, ← hi]
    exact .bool _
theorem frz_tup2N {N : Pa → Prop} {O : AV → Prop} {A : Prop} {hh : T Blk} {a b a' b' : AV} (h1 : Frz A N O hh a a') (h2 : Frz A N O hh b b') : Frz A N O hh (.tup [a, b]) (.tup [a', b']) := by
 refine .tup _ _ rfl fun i v v' hi hi' => ?_
 match i with
 | 0 => simp at hi hi'; subst hi; subst hi'; exact h1
 | 1 => simp at hi hi'; subst hi; subst hi'; exact h2
 | i + 2 => simp at hi
theorem cosets39N {G S : List Sym} {n : Int} (hG : G.length ≤ 100000) (hw : ∀ g ∈ G, g.1.length ≤ 100000) (hS : S.length ≤ 100000) (hw2 : ∀ g ∈ S, g.1.length ≤ 100000) (hse0 : subE G S n = 0) (hn0 : 0 < n) : PureN Tryz.prog 39 [encG G, encG S, I n] (.tup [encG (cosL G S), I 0]) := by
 intro B K hK0
 have hK : ∀ v h' nx' L v', Hp .e h' nx' L → Frz False (fun _ => True) (fun _ => False) h' v v' → v' = .tup [encG (cosL G S), I 0] → K v h' nx' = .ok True := fun v h' nx' L v' _ hF e => hK0 _ _ _ (e ▸ hF)
 refine zS zZ dreg 10000000 fun hf' => ?_
 have H0 : Hp .e .e .z [] := Hp.init hf'
 rw [F39.go, F39.t37, zA, F39.t0_s]
 refine H0.box (l := [encG S]) rfl fun b3 h1 nx1 H1 => ?_
 rw [F39.t36, zA, F39.t7, zA, F39.t1_s, H1.load (k := 0) (i := 0) rfl rfl]
 refine pX hG hw hS hw2 H1 (fun e h2 nx2 X he hne H2 => ?_) fun n' u1 q1 u2 q2 g o1 o2 h2 nx2 X hn ok1 ok2 hse _ _ _ _ _ _ _ _ hsub H2 => ?_
 ·rw [jB, jF, j5]
  refine H2.alloc fun b6 h3 nx3 H3 => ?_
  refine H3.storeN (k := 0) (n := 2) rfl rfl rfl fun h4 H4 => ?_
  rw [hse0] at he; exact absurd he hne
 subst hn
 have hn256 := ok1.n256
 have H2 : Hp .e h2 nx2 [.arr b3 [encG S]] := Hp.pre (_ :: _ :: _ :: X) H2
 rw [jB, jF, j5]
 refine H2.alloc fun b6 h3 nx3 H3 => ?_
 refine H3.storeN (k := 0) (n := 2) rfl rfl rfl fun h4 H4 => ?_
 rw [F39.t6, zA, F39.t2_s, sNeq, decide_eq_true rfl, Bool.not_true, F39.t5, zI, F39.v12, zD, zP, F39.t35, zA, F39.t8_s]
 refine H4.mkmap fun gm h5 nx5 H5 => ?_
 refine H5.alloc fun b7 h6 nx6 H6 => ?_
 refine H6.store (k := 0) rfl (by simp) rfl fun h7 H7 => ?_
 rw [F39.t34, zA, F39.t9_s]
 refine H7.alloc fun b8 h8 nx8 H8 => ?_
 rw [F39.t33, zA, F39.t30, zA, F39.t10_s]
 refine all185 _ _ _ _ ?_
 rintro _ rfl _
 rw [F39.t29, zW, F39.t28]
 have H9 := H8.addGro 2
 have T : ∃ T : List Ob, T = [.arr b6 [rowV o1 2 u1.length, rowV o2 2 u2.length], .arr b3 [encG S]] := ⟨_, rfl⟩
 obtain ⟨T, hT⟩ := T
 have hout : ∀ i, ((G.take i).filter (jN S)).length ≤ G.length := fun i => by
  have := List.length_filter_le (jN S) (G.take i)
  rw [List.length_take] at this; omega
 refine rfAll H9 F39.t28_f (fun v w k => F39.t28_b k) (by omega)
  (fun i L' => ∃ (o : Option Pa) (out : List (AV × Sym)) (rows : List Ob), out.map (·.2) = (G.take i).filter (jN S) ∧ (∀ p ∈ out, RowOwn rows p) ∧ L' = .gro o 2 out.length (yR out) :: .arr b8 [rowV o 2 out.length] :: .arr b7 [.map gm] :: .map gm (entS (cosU ((G.take i).filter (jN S)) S)) :: (T ++ rows))
  (fun _ => False) (fun _ _ => False) ⟨none, [], [], by simp, by simp, by subst hT; rfl⟩
  (fun i x Rb Rb' h10 nx10 L' M E O1 O2 hx hJ H10 hM hE hR hX => ?_) (fun h10 nx10 L' hJ H10 => ?_) (fun _ _ _ hX _ => hX.elim) (fun _ _ _ _ hX _ => hX.elim)
 case refine_2 =>
  obtain ⟨o, out, rows, ho, hr, rfl⟩ := hJ
  rw [List.take_of_length_le (Nat.le_refl _)] at H10 ho
  rw [F39.t32, zA, F39.t31_s, H10.load (k := 1) (i := 0) rfl rfl]
  simp only [yD, yU]
  rw [F39.ret]
  refine hK _ _ _ _ (.tup [encG (cosL G S), I 0]) H10 (frz_tup2N ?_ (.int _ _)) rfl
  have := frzOwn (k := 0) H10 rfl fun p hp => (hr p hp).mono fun x hx => by simp [hx]
  rw [ho] at this
  exact this
 obtain ⟨o, out, rows, ho, hr, rfl⟩ := hJ
 have hol : out.length = ((G.take i).filter (jN S)).length := by rw [← ho, List.length_map]
 have hxm := List.mem_of_getElem? hx
 have hdx := ok1.dp x hxm
 have htake : G.take (i + 1) = G.take i ++ [x] := by rw [List.take_add_one, hx]; rfl
 have hCm : ∀ m ∈ (G.take i).filter (jN S), m ∈ G := fun m hm => List.mem_of_mem_take (List.mem_filter.1 hm).1
 have hks : ∀ b ∈ cosU ((G.take i).filter (jN S)) S, DS n' b := fun b hb => by
  obtain ⟨m, hm, c, hc, rfl⟩ := mem_cosU.1 hb
  exact (ok1.dp _ (ok1.cl m (hCm m hm) c (hsub c hc))).1
 rw [F39.t11_s]
 refine H10.alloc fun b9 h11 nx11 H11 => ?_
 refine H11.storeN (k := 0) (n := 2) rfl rfl rfl fun h12 H12 => ?_
 refine hM _ _ _ [_] H12 fun h13 H13 => ?_
 rw [F39.t27, zW, F39.t26, zA, F39.t14, zA, F39.t12_s, H13.load (k := 4) (i := 0) rfl rfl, H13.loadN (k := 0) (n := 2) rfl rfl]
 refine has204 (a := x) hn256 hdx.1 hks H13 (k := 5) rfl ?_
 rw [F39.t13, zI, F39.v16]
 have hseen := coset_seen ok1 ok2 hsub hx
 by_cases c : x ∈ cosU ((G.take i).filter (jN S)) S
 ·rw [decide_eq_true c, zE, y2, j7]
  have hfl : (G.take (i + 1)).filter (jN S) = (G.take i).filter (jN S) := by
   rw [htake, List.filter_append, List.filter_cons_of_neg (by rw [hseen.1 c]; decide)]; simp
  exact hE _ _ _ [_] _ ⟨o, out, rows, by rw [hfl]; exact ho, hr, by rw [hfl]⟩ H13
 have hlx : jN S x = true := by
  cases q : jN S x with
  | true => rfl
  | false => exact absurd (hseen.2 q) c
 have hfl : (G.take (i + 1)).filter (jN S) = (G.take i).filter (jN S) ++ [x] := by
  rw [htake, List.filter_append, List.filter_cons_of_pos hlx]; rfl
 rw [decide_eq_false c, zD, zP, F39.t25, zA, F39.t23, zA, F39.t15_s]
 subst hT
 rw [H13.load (k := 7) (i := 0) rfl rfl]
 refine all185 _ _ _ _ ?_
 rintro _ rfl _
 rw [F39.t22, zW, F39.t21]
 refine rfAll H13 F39.t21_f (fun v w k => F39.t21_b k) (by omega)
  (fun k L' => L' = .arr b9 [encI x.1, .bool x.2] :: Rb' :: .gro o 2 out.length (yR out) :: .arr b8 [rowV o 2 out.length] :: .arr b7 [.map gm] :: .map gm (entS (cosU ((G.take i).filter (jN S)) S ++ (S.take k).map (zJ x))) :: ([.arr b6 [rowV o1 2 u1.length, rowV o2 2 u2.length], .arr b3 [encG S]] ++ rows))
  (fun _ => False) (fun _ _ => False) (by simp)
  (fun k y Sb Sb' h14 nx14 L' M' E' O1' O2' hy hJ H14 hM' hE' hR' hX' => ?_) (fun h14 nx14 L' hJ H14 => ?_) (fun _ _ _ hX _ => hX.elim) (fun _ _ _ _ hX _ => hX.elim)
 ·subst hJ
  have hym := List.mem_of_getElem? hy
  have hdy := ok2.dp y hym
  have htk : S.take (k + 1) = S.take k ++ [y] := by rw [List.take_add_one, hy]; rfl
  have hxy : DS n' (zJ x y) := (ok1.dp _ (ok1.cl x hxm y (hsub y hym))).1
  rw [F39.t16_s]
  refine H14.alloc fun b10 h15 nx15 H15 => ?_
  refine H15.storeN (k := 0) (n := 2) rfl rfl rfl fun h16 H16 => ?_
  refine hM' _ _ _ [_] H16 fun h17 H17 => ?_
  rw [F39.t20, zW, F39.t19, zA, F39.t17_s, H17.loadN (k := 2) (n := 2) rfl rfl, H17.loadN (k := 0) (n := 2) rfl rfl]
  refine d6 (a := x) (b := y) (fun z hz => by rw [hdx.1.1]; exact hdy.1.2 z hz) (by rw [hdy.1.1]; omega) _ _ _ _ ?_
  rintro _ rfl _
  refine H17.alloc fun b11 h18 nx18 H18 => ?_
  refine H18.storeN (k := 0) (n := 2) rfl rfl rfl fun h19 H19 => ?_
  rw [F39.t18_s, H19.load (k := 7) (i := 0) rfl rfl, H19.loadN (k := 0) (n := 2) rfl rfl, H19.loadN (k := 0) (n := 2) rfl rfl]
  refine key203 (a := zJ x y) (fun z hz => by have := hxy.2 z hz; omega) (by rw [hxy.1]; omega) _ _ _ _ ?_
  rintro _ rfl _
  rw [H19.loadN (k := 0) (n := 2) rfl rfl, zB, H19.load (k := 7) (i := 0) rfl rfl, zB]
  refine H19.putS (a := zJ x y) hn256 hxy (fun b hb => ?_) (fun hin => ?_) (k := 8) rfl fun h20 H20 => ?_
  ·rcases List.mem_append.1 hb with q | q
   ·exact hks b q
   ·obtain ⟨z, hz, rfl⟩ := List.mem_map.1 q
    exact (ok1.dp _ (ok1.cl x hxm z (hsub z (List.mem_of_mem_take hz)))).1
  ·rcases List.mem_append.1 hin with q | q
   ·exact coset_new ok1 ok2 hCm hxm hym c q
   ·obtain ⟨z, hz, e⟩ := List.mem_map.1 q
    have := coset_inj ok2 hdx (List.mem_of_mem_take hz) hym e
    subst this
    obtain ⟨j, hj⟩ := List.getElem?_of_mem hz
    have hjl := (List.getElem?_eq_some_iff.1 hj).1
    rw [List.length_take] at hjl
    rw [List.getElem?_take_of_lt (by omega)] at hj
    have := ord_lt ok2 hj hy (by omega)
    rw [qG] at this; cases this
  ·refine hE' _ _ _ [_, _] _ ?_ H20
   rw [htk, List.map_append, ← List.append_assoc]
   rfl
 ·subst hJ
  rw [List.take_of_length_le (Nat.le_refl _)] at H14
  rw [F39.t24_s, H14.load (k := 3) (i := 0) rfl rfl, sFx, H14.load (k := 0) (i := 0 + 0) rfl rfl, sFx, H14.load (k := 0) (i := 0 + 1) rfl rfl]
  refine clone106o (f := x.1) (by rw [hdx.1.1]; omega) (by rw [hdx.1.1]; omega) H14 fun rid cap h15 nx15 hcap H15 => ?_
  rw [H15.load (k := 1) (i := 0 + 1) rfl rfl, zB, sFx, zB, H15.load (k := 4) (i := 0) rfl rfl, zB, dC rfl rfl]
  refine H15.bslice (l := [.sl rid 0 x.1.length cap 1, .bool x.2]) rfl fun tb h16 nx16 H16 => ?_
  rw [H16.load (k := 5) (i := 0) rfl rfl, zB, sAppq_row]
  refine H16.appN (k := 4) (o := o) (c := 1) (esz := 2) (new := [.sl rid 0 x.1.length cap 1, .bool x.2]) rfl (HasArr.rd (l := [.sl rid 0 x.1.length cap 1, .bool x.2]) (n := 1) (e := 2) (H16.own _ (List.mem_cons_self ..)) rfl) rfl rfl (by decide) (by decide) (by have := hout i; omega) fun o'' h17 nx17 _ H17 => ?_
  refine H17.store (k := 5) rfl (by simp) (uW _ _ _) fun h18 H18 => ?_
  have hp : Hp .e h18 nx17 ([.arr tb [.sl rid 0 x.1.length cap 1, .bool x.2], .arr b9 [encI x.1, .bool x.2]] ++ Rb' :: (.gro o'' 2 (out.length + 1) (yR out ++ [.sl rid 0 x.1.length cap 1, .bool x.2]) :: .arr b8 [rowV o'' 2 (out.length + 1)] :: .arr b7 [.map gm] :: .map gm (entS (cosU ((G.take i).filter (jN S)) S ++ S.map (zJ x))) :: ([.arr b6 [rowV o1 2 u1.length, rowV o2 2 u2.length], .arr b3 [encG S]] ++ (.arr rid (x.1.map I) :: rows)))) := by
   refine H18.perm ?_
   show List.Perm (_ :: _ :: _ :: _ :: _ :: _ :: _ :: _ :: _ :: _ :: rows) (_ :: _ :: _ :: _ :: _ :: _ :: _ :: _ :: _ :: _ :: rows)
   exact .cons _ (List.perm_middle (l₁ := [_, _, _, _, _, _, _, _]) (a := Ob.arr rid (x.1.map I)) (l₂ := rows)).symm
  refine hE _ _ _ [_, _] _ ⟨o'', out ++ [(.sl rid 0 x.1.length cap 1, x)], .arr rid (x.1.map I) :: rows, ?_, ?_, ?_⟩ hp
  ·rw [List.map_append, ho, hfl]; rfl
  ·intro p hp
   rcases List.mem_append.1 hp with q | q
   ·exact (hr p q).mono fun z hz => List.mem_cons_of_mem _ hz
   ·obtain rfl := List.mem_singleton.1 q
    exact ⟨rid, cap, rfl, hcap, List.mem_cons_self ..⟩
  ·rw [hfl]
   have e1 : cosU ((G.take i).filter (jN S) ++ [x]) S = cosU ((G.take i).filter (jN S)) S ++ S.map (zJ x) := by simp [cosU]
   have e2 : yR (out ++ [(.sl rid 0 x.1.length cap 1, x)]) = yR out ++ [.sl rid 0 x.1.length cap 1, .bool x.2] := by unfold yR; rw [List.flatMap_append]; rfl
   rw [e1, e2, List.length_append]
   subst_vars
   rfl
end Go.Ev
namespace Go.Ev
theorem sub_permG {α : Type} [DecidableEq α] : ∀ (l r : List α), l.Nodup → (∀ x ∈ l, x ∈ r) → ∃ s, r.Perm (l ++ s)
 | [], r, _, _ => ⟨r, .refl _⟩
 | a :: l, r, hn, hs => by
  obtain ⟨h1, h2⟩ := List.nodup_cons.1 hn
  have ha := hs a (by simp)
  obtain ⟨s, hp⟩ := sub_permG l (r.erase a) h2 fun x hx => (List.mem_erase_of_ne (by rintro rfl; exact h1 hx)).2 (hs x (by simp [hx]))
  exact ⟨s, (List.perm_cons_erase ha).trans (.cons a hp)⟩
theorem perm_of_sub {α : Type} [DecidableEq α] {l r : List α} (h1 : l.Nodup) (h2 : ∀ x ∈ l, x ∈ r) (h3 : r.length ≤ l.length) : r.Perm l := by
 obtain ⟨s, hs⟩ := sub_permG l r h1 h2
 have hl := hs.length_eq
 obtain rfl : s = [] := List.eq_nil_of_length_eq_zero (by rw [List.length_append] at hl; omega)
 simpa using hs
theorem nodup_get {α : Type} {l : List α} (h : l.Nodup) {i j : Nat} {x : α} (hi : l[i]? = some x) (hj : l[j]? = some x) : i = j := by
 obtain ⟨a1, a2⟩ := List.getElem?_eq_some_iff.1 hi
 obtain ⟨b1, b2⟩ := List.getElem?_eq_some_iff.1 hj
 have hp := List.pairwise_iff_getElem.1 h
 rcases Nat.lt_trichotomy i j with c | c | c
 ·exact absurd (a2.trans b2.symm) (hp i j a1 b1 c)
 ·exact c
 ·exact absurd (b2.trans a2.symm) (hp j i b1 a1 c)
theorem getD_some {l : List Int} {i : Nat} (h : i < l.length) : l[i]? = some (l.getD i 0) := by
 rw [List.getD_eq_getElem?_getD, List.getElem?_eq_getElem h]; rfl
theorem PermL.surj {g : List Int} (h : PermL g) {j : Nat} (hj : j < g.length) : ∃ i, i < g.length ∧ g[i]? = some (j : Int) := by
 have hp : ((List.range g.length).map fun (i : Nat) => (i : Int)).Perm g := perm_of_sub h.1 (fun x hx => by
  have := h.2 x hx
  exact List.mem_map.2 ⟨x.toNat, List.mem_range.2 (by omega), by omega⟩) (by simp)
 have hm : (j : Int) ∈ g := hp.mem_iff.1 (List.mem_map.2 ⟨j, List.mem_range.2 hj, rfl⟩)
 obtain ⟨i, hi⟩ := List.mem_iff_getElem?.1 hm
 exact ⟨i, (List.getElem?_eq_some_iff.1 hi).1, hi⟩
theorem applyP_get {n : Nat} {c : Bool} {g f : List Int} (hg : PermL g) (hgn : g.length = n) : ∀ (i k : Nat), i ≤ n → k < i → (kH n c g f i)[(g.getD k 0).toNat]? = some (xOf n c (f.getD k 0))
 | 0, k, _, h => by omega
 | i + 1, k, hi, h => by
  rw [xJ]
  have hk := hg.2 _ (List.mem_of_getElem? (getD_some (l := g) (i := k) (by omega)))
  have hi' := hg.2 _ (List.mem_of_getElem? (getD_some (l := g) (i := i) (by omega)))
  by_cases e : k = i
  ·subst e
   rw [List.getElem?_set, if_pos rfl, if_pos (by rw [uA]; omega)]
  ·rw [List.getElem?_set_ne, applyP_get hg hgn i k (by omega) (by omega)]
   intro q
   have e1 : g.getD i 0 = g.getD k 0 := by omega
   have := nodup_get hg.1 (getD_some (l := g) (i := i) (by omega)) (e1 ▸ getD_some (l := g) (i := k) (by omega))
   omega
theorem applyS_get {c : Bool} {g f : List Int} (hg : PermL g) (hgn : g.length = f.length) {k : Nat} (h : k < f.length) : (applyS c g f)[(g.getD k 0).toNat]? = some (xOf f.length c (f.getD k 0)) := applyP_get hg hgn _ k (Nat.le_refl _) h
end Go.Ev
namespace Go.Ev
theorem apply_len (c : Bool) (g f : List Int) : (applyS c g f).length = f.length := uA _ _ _ _ _
theorem DP.surj {n : Nat} {a : Sym} (ha : DP n a) {j : Nat} (hj : j < n) : ∃ i, i < n ∧ a.1.getD i 0 = (j : Int) := by
 have h1 := ha.1.1
 obtain ⟨i, hi, e⟩ := ha.perm.surj (show j < a.1.length by omega)
 exact ⟨i, by omega, by rw [List.getD_eq_getElem?_getD, e]; rfl⟩
def idL (n : Nat) : List Int := (List.range n).map fun j : Nat => (j : Int)
theorem dM (n : Nat) : (idL n).length = n := by simp [idL]
theorem idL_get {n i : Nat} (h : i < n) : (idL n).getD i 0 = (i : Int) := by
 rw [idL, List.getD_eq_getElem?_getD, List.getElem?_map, List.getElem?_range h]; rfl
def invS (a : Sym) : Sym := (applyS false a.1 (idL a.1.length), a.2)
theorem inv_get {n : Nat} {a : Sym} (ha : DP n a) {k : Nat} (hk : k < n) : (invS a).1[(a.1.getD k 0).toNat]? = some (k : Int) := by
 have h1 := ha.1.1
 have := applyS_get (c := false) ha.perm (f := idL a.1.length) (by rw [dM]) (k := k) (by rw [dM]; omega)
 rw [idL_get (by omega)] at this
 exact this
theorem wZ {n : Nat} {a : Sym} (ha : DP n a) : DP n (invS a) := by
 have h1 := ha.1.1
 have hl : (invS a).1.length = n := by show (applyS _ _ _).length = n; rw [apply_len, dM, h1]
 have hv : ∀ j, j < n → ∃ i, i < n ∧ a.1.getD i 0 = (j : Int) ∧ (invS a).1[j]? = some (i : Int) := fun j hj => by
  obtain ⟨i, hi, e⟩ := ha.surj hj
  have := inv_get ha hi
  rw [e, Int.toNat_natCast] at this
  exact ⟨i, hi, e, this⟩
 refine ⟨⟨hl, fun x hx => ?_⟩, ?_⟩
 ·obtain ⟨j, hj⟩ := List.getElem?_of_mem hx
  obtain ⟨i, hi, _, e⟩ := hv j (by rw [← hl]; exact (List.getElem?_eq_some_iff.1 hj).1)
  rw [hj] at e; cases e; omega
 ·rw [List.Nodup, List.pairwise_iff_getElem]
  intro i j hi hj hij e
  obtain ⟨a1, _, b1, c1⟩ := hv i (by omega)
  obtain ⟨a2, _, b2, c2⟩ := hv j (by omega)
  rw [List.getElem?_eq_getElem hi] at c1
  rw [List.getElem?_eq_getElem hj] at c2
  have e1 := Option.some.inj c1
  have e2 := Option.some.inj c2
  have : a1 = a2 := by omega
  subst this
  rw [b1] at b2
  omega
theorem inv_l {n : Nat} {a : Sym} (ha : DP n a) : zJ (invS a) a = idS n := by
 refine Prod.ext (xV (n := n) (by show (uT _ _).length = n; rw [gR, ha.1.1]) (by simp [idS]) fun i hi => ?_) (by show (a.2 != a.2) = false; cases a.2 <;> rfl)
 rw [uM ha.1 hi, List.getD_eq_getElem?_getD (l := (invS a).1), inv_get ha hi]
 show some (i : Int) = ((List.range n).map fun j : Nat => (j : Int))[i]?
 rw [List.getElem?_map, List.getElem?_range hi]; rfl
theorem inv_r {n : Nat} {a : Sym} (ha : DP n a) : zJ a (invS a) = idS n := by
 have L := yT n
 have hb := wZ ha
 have hc := wZ hb
 have e1 := inv_l ha
 have e2 := inv_l hb
 have : a = invS (invS a) := by
  have q := L.assoc (invS (invS a)) (invS a) a hc hb ha
  rw [e2, e1, L.el a ha, L.er _ hc] at q
  exact q
 rw [show zJ a (invS a) = zJ (invS (invS a)) (invS a) by rw [← this]]
 exact e2
theorem inv_uniq {n : Nat} {a b : Sym} (ha : DP n a) (hb : DP n b) (h : zJ a b = idS n) : b = invS a := by
 have L := yT n
 have hi := wZ ha
 have q := L.assoc (invS a) a b hi ha hb
 rw [inv_l ha, h, L.el b hb, L.er _ hi] at q
 exact q
def conj (a b : Sym) : Sym := zJ (zJ a b) (invS a)
theorem conj_mul {n : Nat} {a b c : Sym} (ha : DP n a) (hb : DP n b) (hc : DP n c) : conj a (zJ b c) = zJ (conj a b) (conj a c) := by
 have L := yT n
 have hi := wZ ha
 have hab := L.dm a b ha hb
 have hac := L.dm a c ha hc
 have hci := L.dm _ _ hac hi
 unfold conj
 rw [L.assoc (zJ a b) (invS a) (zJ (zJ a c) (invS a)) hab hi hci, ← L.assoc (invS a) (zJ a c) (invS a) hi hac hi, ← L.assoc (invS a) a c hi ha hc, inv_l ha, L.el c hc, ← L.assoc (zJ a b) c (invS a) hab hc hi, L.assoc a b c ha hb hc]
theorem conj_comp {n : Nat} {a b c : Sym} (ha : DP n a) (hb : DP n b) (hc : DP n c) : conj (zJ a b) c = conj a (conj b c) := by
 have L := yT n
 have hia := wZ ha
 have hib := wZ hb
 have hab := L.dm a b ha hb
 have e : invS (zJ a b) = zJ (invS b) (invS a) := by
  refine (inv_uniq hab (L.dm _ _ hib hia) ?_).symm
  rw [L.assoc a b _ ha hb (L.dm _ _ hib hia), ← L.assoc b (invS b) (invS a) hb hib hia, inv_r hb, L.el _ hia, inv_r ha]
 have hbc := L.dm b c hb hc
 unfold conj
 rw [e, L.assoc a b c ha hb hc, ← L.assoc (zJ a (zJ b c)) (invS b) (invS a) (L.dm _ _ ha hbc) hib hia, L.assoc a (zJ b c) (invS b) ha hbc hib]
theorem conj_dp {n : Nat} {a b : Sym} (ha : DP n a) (hb : DP n b) : DP n (conj a b) := (yT n).dm _ _ ((yT n).dm _ _ ha hb) (wZ ha)
def normB (G S : List Sym) : Bool := G.all fun a => S.all fun b => decide (conj a b ∈ S)
theorem normB_gen {G S u1 q1 u2 q2 : List Sym} {n : Nat} (hG : GrOk G n) (hS : GrOk S n) (hu1 : ∀ c ∈ u1, c ∈ G) (h1 : CloS n u1 q1) (hq1 : ∀ a, a ∈ q1 ↔ a ∈ G) (hu2 : ∀ c ∈ u2, c ∈ S) (h2 : CloS n u2 q2) (hq2 : ∀ a, a ∈ q2 ↔ a ∈ S) :
  (u1.all fun a => u2.all fun b => decide (conj a b ∈ S)) = normB G S := by
 rw [Bool.eq_iff_iff]
 simp only [normB, List.all_eq_true, decide_eq_true_eq]
 have L := yT n
 constructor
 ·intro h
  have k1 : ∀ a ∈ u1, ∀ b ∈ S, conj a b ∈ S := fun a ha b hb => by
   have da := hG.dp a (hu1 a ha)
   have := h2.ind (fun b => DP n b ∧ conj a b ∈ S) ⟨L.de, by unfold conj; rw [L.er a da, inv_r da]; exact hS.one⟩ (fun x hx c hc => by
    have dc := hS.dp c (hu2 c hc)
    exact ⟨L.dm _ _ dc hx.1, by rw [conj_mul da dc hx.1]; exact hS.cl _ (h a ha c hc) _ hx.2⟩) b ((hq2 b).2 hb)
   exact this.2
  intro a ha
  have := h1.ind (fun a => DP n a ∧ ∀ b ∈ S, conj a b ∈ S) ⟨L.de, fun b hb => by
   have e : invS (idS n) = idS n := (inv_uniq L.de L.de (L.el _ L.de)).symm
   unfold conj
   rw [e, L.er _ (L.dm _ _ L.de (hS.dp b hb)), L.el b (hS.dp b hb)]; exact hb⟩ (fun x hx c hc => by
    have dc := hG.dp c (hu1 c hc)
    exact ⟨L.dm _ _ dc hx.1, fun b hb => by rw [conj_comp dc hx.1 (hS.dp b hb)]; exact k1 c hc _ (hx.2 b hb)⟩) a ((hq1 a).2 ha)
  exact this.2
 ·intro h a ha b hb
  exact h a (hu1 a ha) b (hu2 b hb)
end Go.Ev
namespace Go.Ev
open Go Go.Proofs
variable {B : Nat}
set_option maxRecDepth 100000
theorem inv124 {a : Sym} {n : Nat} (ha : DP n a) (hn : n ≤ 1000) : Pure Tryz.prog B 124 [encS a] (· = encS (invS a)) := by
 have hl := ha.1.1
 refine yO fun h nx K H0 hK => zS zZ dreg 10000 fun hf' => ?_
 rw [F124.go, F124.t20, zA, F124.t0_s]
 refine H0.box (l := [encI a.1, .bool a.2]) rfl fun b1 h1 nx1 H1 => ?_
 refine H1.alloc fun b2 h2 nx2 H2 => ?_
 have ld0 : ∀ {hh nn L'} (HH : Hp h hh nn (L' ++ [.arr b2 [.nils, .bool false], .arr b1 [encI a.1, .bool a.2]])) (op : AV → OP), zF (.ptr b1 (0 + 0)) hh op = op (encI a.1) := fun {hh nn L'} HH op => HH.load (k := L'.length + 1) (i := 0) (l := [encI a.1, .bool a.2]) (by rw [List.getElem?_append_right (by omega)]; simp) rfl
 have ld1 : ∀ {hh nn L'} (HH : Hp h hh nn (L' ++ [.arr b2 [.nils, .bool false], .arr b1 [encI a.1, .bool a.2]])) (op : AV → OP), zF (.ptr b1 (0 + 1)) hh op = op (.bool a.2) := fun {hh nn L'} HH op => HH.load (k := L'.length + 1) (i := 1) (l := [encI a.1, .bool a.2]) (by rw [List.getElem?_append_right (by omega)]; simp) rfl
 have mk : mkSl 8 (I (a.1.length : Int)) (I (a.1.length : Int)) = true := by
  show (Nat.ble a.1.length a.1.length && Nat.ble a.1.length 1000000 && Nat.ble (8 * a.1.length) 281474976710656) = true
  rw [Nat.ble_eq_true_of_le (Nat.le_refl _), Nat.ble_eq_true_of_le (by omega), Nat.ble_eq_true_of_le (by omega)]; rfl
 rw [F124.t19, zA, F124.t1_s]
 simp only [Bool.and_self, jT, sFx]
 rw [ld0 (L' := []) H2, zL, mk]
 simp only [Bool.and_self, jT]
 rw [ld1 (L' := []) H2]
 refine H2.mk1 a.1.length rfl rfl (by omega) (by decide) fun tb h3 nx3 H3 => ?_
 rw [ld1 (L' := [_]) H3]
 simp only [zB, zL]
 rw [ld0 (L' := [_]) H3]
 try simp only [zB]
 rw [dC rfl rfl]
 refine H3.alloc fun b3 h4 nx4 H4 => ?_
 rw [dC rfl rfl]
 try simp only [zB]
 rw [ld1 (L' := [_, _]) H4]
 try simp only [zB, zL]
 rw [ld0 (L' := [_, _]) H4]
 try simp only [zB]
 refine H4.storeN (k := 0) (n := 2) rfl rfl rfl fun h5 H5 => ?_
 rw [F124.t18, zA, F124.t15, zA, F124.t2_s, sFx, ld0 (L' := [_, _]) H5, zL]
 have e0 : List.replicate a.1.length (I 0) = (kH a.1.length false a.1 (idL a.1.length) 0).map I := by simp [kH]
 rw [e0] at H5
 rw [F124.t14, zW]
 refine F124.t13_L (fun m x8 h' nx' => ∃ i : Nat, x8 = I i ∧ m = a.1.length - i ∧ i ≤ a.1.length ∧ Hp h h' nx' [.arr b3 [.sl tb 0 a.1.length (some a.1.length) 1, .bool a.2], .arr tb ((kH a.1.length false a.1 (idL a.1.length) i).map I), .arr b2 [.nils, .bool false], .arr b1 [encI a.1, .bool a.2]]) (m := a.1.length) (by omega)
  ⟨0, rfl, by omega, by omega, H5⟩ ?_
 rintro m z4 z5 z8 z9 h6 nx6 R ⟨i, rfl, rfl, hi, H6⟩ hR
 rw [F124.t12, zA, F124.t3_s, sLss]
 by_cases hlt : i < a.1.length
 case neg =>
  rw [decide_eq_false (by omega), F124.t11, zA, F124.t4, zI, F124.v9, zD, y2, j7, F124.t17, zA, F124.t16_s, H6.loadN (k := 0) (n := 2) rfl rfl]
  refine H6.storeN (k := 2) (n := 2) rfl rfl rfl fun h7 H7 => ?_
  simp only [yD, yU]
  rw [F124.ret, H7.loadN (k := 2) (n := 2) rfl rfl]
  obtain rfl : i = a.1.length := by omega
  have hal := uA a.1.length false a.1 (idL a.1.length) a.1.length
  have e : invS a = (kH a.1.length false a.1 (idL a.1.length) a.1.length, a.2) := by
   unfold invS applyS; rw [dM]
  refine hK _ _ _ _ (encS (invS a)) H7 (dO ?_ (zK rfl) rfl) rfl
  rw [e]
  have := H7.frzArr (k := 1) (e := 1) (n := a.1.length) (cap := some a.1.length) rfl (Nat.le_refl _) (by simp [hal]) fixdI
  show FrzN h h7 _ (AV.lst 1 (kH _ _ _ _ _).length _)
  rw [hal]
  exact this
 rw [decide_eq_true (by omega), F124.t11, zA, F124.t4, zI, F124.v9, zE, zP]
 have hx : a.1[i]? = some a.1[i] := List.getElem?_eq_getElem hlt
 have hgb := ha.perm.2 _ (List.getElem_mem hlt)
 have hgd : a.1.getD i 0 = a.1[i] := by rw [List.getD_eq_getElem?_getD, hx]; rfl
 rw [F124.t10, zA, F124.t8, zW, F124.t7, zA, F124.t5_s, sIxL rfl hlt, ldL (getI hx), F124.t6_s, sFx, H6.load (k := 0) (i := 0 + 0) rfl rfl, sIx (i := (a.1[i]).toNat) (by omega) (by omega)]
 refine H6.store (k := 1) rfl (by rw [List.length_map, uA]; omega) rfl fun h7 H7 => ?_
 rw [F124.t9_s, sAdd (by omega)]
 refine hR _ _ _ _ _ _ _ (by omega) ⟨i + 1, rfl, rfl, by omega, H7.cast ?_⟩
 rw [xJ, hgd, idL_get hlt]
 simp [List.map_set, xOf]
def nrmV (G S : List Sym) (n : Int) : AV := if subE G S n ≠ 0 then .tup [.bool false, I (subE G S n)] else .tup [.bool (normB G S), I 0]
theorem qQ {α : Type} {l : List α} {p : α → Bool} {i : Nat} {x : α} (hx : l[i]? = some x) (h : (l.take i).all p = true) (hp : p x = true) : (l.take (i + 1)).all p = true := by
 rw [List.take_add_one, hx, List.all_append, h]; simp [hp]
theorem d4 {α : Type} {l : List α} {p : α → Bool} (h : (l.take l.length).all p = true) : l.all p = true := by rwa [List.take_of_length_le (Nat.le_refl _)] at h
theorem isNormal40 {G S : List Sym} {n : Int} (hG : G.length ≤ 100000) (hw : ∀ g ∈ G, g.1.length ≤ 100000) (hS : S.length ≤ 100000) (hw2 : ∀ g ∈ S, g.1.length ≤ 100000) : Pure Tryz.prog B 40 [encG G, encG S, I n] (· = nrmV G S n) := by
 refine yO fun h nx K H0 hK => zS zZ dreg 10000000 fun hf' => ?_
 rw [F40.go, F40.t43, zA, F40.t0_s, F40.t42, zA, F40.t1_s]
 refine pX hG hw hS hw2 H0 (fun e h2 nx2 X he hne H2 => ?_) fun n' u1 q1 u2 q2 g o1 o2 h2 nx2 X hn ok1 ok2 hse hu1 hul1 hC1 hq1 hu2 hul2 hC2 hq2 hsub H2 => ?_
 ·rw [jB, jF, j5]
  refine H2.alloc fun b6 h3 nx3 H3 => ?_
  refine H3.storeN (k := 0) (n := 2) rfl rfl rfl fun h4 H4 => ?_
  rw [F40.t41, zA, F40.t6, zA, F40.t2_s, sNeq, decide_eq_false hne, Bool.not_false, F40.t5, zI, F40.v10, zE, F40.t4, zA, F40.t3_s]
  simp only [yD, yU]
  rw [F40.ret]
  exact hK _ _ _ _ _ H4 (u9 (zK rfl) (zK rfl)) (by rw [nrmV, ← he, if_pos hne])
 subst hn
 have hn256 := ok1.n256
 have hgen := normB_gen ok1 ok2 hu1 hC1 hq1 hu2 hC2 hq2
 rw [jB, jF, j5]
 refine H2.alloc fun b6 h3 nx3 H3 => ?_
 refine H3.storeN (k := 0) (n := 2) rfl rfl rfl fun h4 H4 => ?_
 rw [F40.t41, zA, F40.t6, zA, F40.t2_s, sNeq, decide_eq_true rfl, Bool.not_true, F40.t5, zI, F40.v10, zD, zP, F40.t40, zA, F40.t37, zA, F40.t7_s, sAx0, H4.load (k := 0) (i := 0) rfl rfl, H4.groLen (k := 3) rfl]
 have hd2 : ∀ b ∈ q2, DS n' b := fun b hb => (ok2.dp b ((hq2 b).1 hb)).1
 have no : ∀ {h' nx' L'}, Hp h h' nx' L' → (∃ a ∈ u1, ∃ b ∈ u2, conj a b ∉ S) → K (.tup [.bool false, I 0]) h' nx' = .ok True := fun H' ⟨a, ha, b, hb, hc⟩ => by
  refine hK _ _ _ _ _ H' (u9 (zK rfl) (zK rfl)) ?_
  rw [nrmV, hse, if_neg (by decide), ← hgen]
  congr 3
  refine (Bool.eq_false_iff.2 fun q => ?_).symm
  have := List.all_eq_true.1 (List.all_eq_true.1 q a ha) b hb
  exact hc (of_decide_eq_true this)
 rw [F40.t36, zW]
 refine F40.t35_L (fun m x13 h' nx' => ∃ i : Nat, x13 = I i ∧ m = u1.length - i ∧ i ≤ u1.length ∧ (u1.take i).all (fun a => u2.all fun b => decide (conj a b ∈ S)) = true ∧ Hp h h' nx' (.arr b6 [rowV o1 2 u1.length, rowV o2 2 u2.length] :: .map g (entS q2) :: .gro o2 2 u2.length (zV u2) :: .gro o1 2 u1.length (zV u1) :: (X ++ []))) (m := u1.length) (by omega)
  ⟨0, rfl, by omega, by omega, by simp, H4⟩ ?_
 rintro m z3 z4 z8 z9 z13 z14 z15 z16 z17 z18 z19 h6 nx6 R ⟨i, rfl, rfl, hi, hal, H6⟩ hR
 rw [F40.t34, zA, F40.t8_s, sLss]
 by_cases hlt : i < u1.length
 case neg =>
  rw [decide_eq_false (by omega), F40.t33, zA, F40.t9, zI, F40.v14, zD, y2, j7, F40.t39, zA, F40.t38_s]
  simp only [yD, yU]
  rw [F40.ret]
  obtain rfl : i = u1.length := by omega
  exact hK _ _ _ _ _ H6 (u9 (zK rfl) (zK rfl)) (by rw [nrmV, hse, if_neg (by decide), ← hgen, d4 hal])
 rw [decide_eq_true (by omega), F40.t33, zA, F40.t9, zI, F40.v14, zE, zP, F40.t32, zA, F40.t30, zW, F40.t29, zA, F40.t10_s]
 have hx : u1[i]? = some u1[i] := List.getElem?_eq_getElem hlt
 have hxm := List.mem_of_getElem? hx
 have hdx := ok1.dp _ (hu1 _ hxm)
 obtain ⟨iu, ou, e1, e2⟩ := groIx2 (k := 3) H6 rfl hx
 rw [e1, e2]
 refine H6.alloc fun b8 h7 nx7 H7 => ?_
 refine H7.storeN (k := 0) (n := 2) rfl rfl rfl fun h8 H8 => ?_
 rw [F40.t28, zA, F40.t11_s, sAx1, H8.load (k := 1) (i := 0 + 1) rfl rfl, H8.groLen (k := 3) rfl, F40.t27, zW]
 refine F40.t26_L (fun m x17 h' nx' => ∃ k : Nat, x17 = I k ∧ m = u2.length - k ∧ k ≤ u2.length ∧ (u2.take k).all (fun b => decide (conj u1[i] b ∈ S)) = true ∧ Hp h h' nx' (.arr b8 [encI u1[i].1, .bool u1[i].2] :: .arr b6 [rowV o1 2 u1.length, rowV o2 2 u2.length] :: .map g (entS q2) :: .gro o2 2 u2.length (zV u2) :: .gro o1 2 u1.length (zV u1) :: (X ++ []))) (m := u2.length) (by omega)
  ⟨0, rfl, by omega, by omega, by simp, H8⟩ ?_
 rintro m y3 y4 y9 y17 y18 y19 h9 nx9 R' ⟨k, rfl, rfl, hk, hal2, H9⟩ hR'
 rw [F40.t25, zA, F40.t12_s, sLss]
 by_cases hlt2 : k < u2.length
 case neg =>
  rw [decide_eq_false (by omega), F40.t24, zA, F40.t13, zI, F40.v18, zD, y2, j7, F40.t31_s, sAdd (by omega)]
  obtain rfl : k = u2.length := by omega
  exact hR _ _ _ _ _ _ _ _ _ _ _ _ _ _ (by omega) ⟨i + 1, rfl, rfl, by omega, qQ hx hal (d4 hal2), H9.drop⟩
 rw [decide_eq_true (by omega), F40.t24, zA, F40.t13, zI, F40.v18, zE, zP, F40.t23, zA, F40.t21, zW, F40.t20, zA, F40.t14_s]
 have hy : u2[k]? = some u2[k] := List.getElem?_eq_getElem hlt2
 have hym := List.mem_of_getElem? hy
 have hdy := ok2.dp _ (hu2 _ hym)
 obtain ⟨iv, ov, e3, e4⟩ := groIx2 (k := 3) H9 rfl hy
 rw [e3, e4]
 refine H9.alloc fun b9 h10 nx10 H10 => ?_
 refine H10.storeN (k := 0) (n := 2) rfl rfl rfl fun h11 H11 => ?_
 rw [F40.t19, zA, F40.t15_s, H11.loadN (k := 1) (n := 2) rfl rfl, H11.loadN (k := 0) (n := 2) rfl rfl, H11.loadN (k := 1) (n := 2) rfl rfl]
 refine d6 (a := u1[i]) (b := u2[k]) (fun z hz => by rw [hdx.1.1]; exact hdy.1.2 z hz) (by rw [hdy.1.1]; omega) _ _ _ _ ?_
 rintro _ rfl _
 rw [H11.loadN (k := 1) (n := 2) rfl rfl, zB, zB]
 refine inv124 (a := u1[i]) hdx (by omega) _ _ _ _ ?_
 rintro _ rfl _
 have hdi := wZ hdx
 have hdxy := (yT n').dm _ _ hdx hdy
 rw [zB]
 refine d6 (a := zJ u1[i] u2[k]) (b := invS u1[i]) (fun z hz => by rw [hdxy.1.1]; exact hdi.1.2 z hz) (by rw [hdi.1.1]; omega) _ _ _ _ ?_
 rintro _ rfl _
 rw [zB]
 have hdc : DP n' (conj u1[i] u2[k]) := conj_dp hdx hdy
 refine has204 (a := conj u1[i] u2[k]) hn256 hdc.1 hd2 H11 (k := 3) rfl ?_
 rw [jA, F40.t18, zI, F40.v19]
 by_cases c : conj u1[i] u2[k] ∈ q2
 ·rw [decide_eq_true c, Bool.not_true, zD, zP, F40.t22_s, sAdd (by omega)]
  exact hR' _ _ _ _ _ _ _ _ _ (by omega) ⟨k + 1, rfl, rfl, by omega, qQ hy hal2 (decide_eq_true ((hq2 _).1 c)), H11.drop⟩
 ·rw [decide_eq_false c, Bool.not_false, zE, F40.t17, zA, F40.t16_s]
  simp only [yD, blk_rt, yU]
  rw [F40.ret]
  exact no H11 ⟨_, hxm, _, hym, fun q => c ((hq2 _).2 q)⟩
end Go.Ev
namespace Go.Ev
abbrev AscS (l : List Sym) : Prop := l.Pairwise fun a b => befS a b = true
def putL (l : List Sym) (a : Sym) : List Sym := if a ∈ l then l else l.takeWhile (befS · a) ++ a :: l.dropWhile (befS · a)
def sortL (l : List Sym) : List Sym := l.foldl putL []
theorem tw_at {p : Sym → Bool} : ∀ {l : List Sym} {i : Nat}, i ≤ l.length → (l.take i).all p = true → (∀ h : i < l.length, p l[i] = false) → l.take i = l.takeWhile p ∧ l.drop i = l.dropWhile p
 | [], i, h, _, _ => by simp
 | x :: l, 0, _, _, hn => by
  have := hn (by simp)
  simp at this
  simp [List.takeWhile_cons, List.dropWhile_cons, this]
 | x :: l, i + 1, h, ha, hn => by
  rw [List.take_succ_cons, List.all_cons, Bool.and_eq_true] at ha
  obtain ⟨e1, e2⟩ := tw_at (l := l) (i := i) (by simpa using h) ha.2 (fun h' => by have := hn (by simpa using h'); simpa using this)
  rw [List.take_succ_cons, List.drop_succ_cons, List.takeWhile_cons, List.dropWhile_cons, ha.1, e1, e2]; simp
theorem putL_at {l : List Sym} {a : Sym} {i : Nat} (hi : i ≤ l.length) (ha : (l.take i).all (befS · a) = true) (hn : ∀ h : i < l.length, befS l[i] a = false) (h0 : a ∉ l) : putL l a = l.take i ++ [a] ++ l.drop i := by
 obtain ⟨e1, e2⟩ := tw_at hi ha hn
 rw [putL, if_neg h0, ← e1, ← e2]; simp
theorem mem_putL {l : List Sym} {a x : Sym} : x ∈ putL l a ↔ x = a ∨ x ∈ l := by
 unfold putL
 split
 ·rename_i h
  exact ⟨.inr, fun q => q.elim (fun e => e ▸ h) id⟩
 ·have := List.takeWhile_append_dropWhile (p := (befS · a)) (l := l)
  conv => rhs; rw [← this]
  simp only [List.mem_append, List.mem_cons]
  constructor
  ·rintro (h | h | h)
   ·exact .inr (.inl h)
   ·exact .inl h
   ·exact .inr (.inr h)
  ·rintro (h | h | h)
   ·exact .inr (.inl h)
   ·exact .inl h
   ·exact .inr (.inr h)
theorem befS_tri {a b : Sym} (h : a ≠ b) (h2 : befS a b = false) : befS b a = true := by
 unfold befS at h2 ⊢
 by_cases c : a.1 = b.1
 ·rw [if_pos c] at h2
  rw [if_pos c.symm]
  have : a.2 ≠ b.2 := fun q => h (Prod.ext c q)
  revert h2 this; cases a.2 <;> cases b.2 <;> simp
 ·rw [if_neg c] at h2
  rw [if_neg (fun q => c q.symm)]
  rw [qZ] at h2 ⊢
  have n1 := Go.Proofs.ordL_neg a.1 b.1
  have e : ¬ Go.Proofs.ordL a.1 b.1 < 0 := fun q => by simp [q] at h2
  have e2 : Go.Proofs.ordL a.1 b.1 ≠ 0 := fun q => c (Go.Proofs.ordL_eq q)
  exact decide_eq_true (by omega)
theorem putL_asc {l : List Sym} {a : Sym} (h : AscS l) : AscS (putL l a) := by
 unfold putL
 split
 ·exact h
 ·rename_i h0
  have e := List.takeWhile_append_dropWhile (p := (befS · a)) (l := l)
  have h' := h
  rw [← e] at h'
  obtain ⟨h1, h2, h3⟩ := List.pairwise_append.1 h'
  have ht : ∀ x ∈ l.takeWhile (befS · a), befS x a = true := fun x hx => (List.all_eq_true.1 (List.all_takeWhile (p := (befS · a)) (l := l))) x hx
  have hd : ∀ x ∈ l.dropWhile (befS · a), befS a x = true := by
   cases q : l.dropWhile (befS · a) with
   | nil => intro x hx; cases hx
   | cons y r =>
    have hy : befS y a = false := by
     have := List.head?_dropWhile_not (p := (befS · a)) (l := l)
     rw [q] at this; simpa using this
    have hym : y ∈ l := by rw [← e, q]; simp
    have hya : befS a y = true := befS_tri (fun e => h0 (e ▸ hym)) hy
    intro x hx
    rcases List.mem_cons.1 hx with rfl | hx
    ·exact hya
    ·rw [q] at h2
     exact wS hya ((List.pairwise_cons.1 h2).1 x hx)
  refine List.pairwise_append.2 ⟨h1, List.pairwise_cons.2 ⟨hd, h2⟩, fun x hx y hy => ?_⟩
  rcases List.mem_cons.1 hy with rfl | hy
  ·exact ht x hx
  ·exact wS (ht x hx) (hd y hy)
theorem fold_put (l : List Sym) : ∀ (acc : List Sym), AscS acc → AscS (l.foldl putL acc) ∧ ∀ x, x ∈ l.foldl putL acc ↔ x ∈ acc ∨ x ∈ l := by
 induction l with
 | nil => intro acc h; exact ⟨h, fun x => by simp⟩
 | cons a l ih =>
  intro acc h
  obtain ⟨h1, h2⟩ := ih (putL acc a) (putL_asc h)
  refine ⟨h1, fun x => ?_⟩
  rw [List.foldl_cons, h2, mem_putL, List.mem_cons]
  constructor
  ·rintro ((q | q) | q)
   ·exact .inr (.inl q)
   ·exact .inl q
   ·exact .inr (.inr q)
  ·rintro (q | q | q)
   ·exact .inl (.inr q)
   ·exact .inl (.inl q)
   ·exact .inr q
theorem sortL_asc (l : List Sym) : AscS (sortL l) := (fold_put l [] .nil).1
theorem mem_sortL {l : List Sym} {x : Sym} : x ∈ sortL l ↔ x ∈ l := by rw [sortL, (fold_put l [] .nil).2]; simp
theorem AscS.nd {l : List Sym} (h : AscS l) : l.Nodup := h.imp fun hab e => by rw [e, qG] at hab; cases hab
theorem asc_uniq : ∀ {a b : List Sym}, AscS a → AscS b → (∀ x, x ∈ a ↔ x ∈ b) → a = b
 | [], [], _, _, _ => rfl
 | [], y :: b, _, _, h => by have := (h y).2 (by simp); cases this
 | x :: a, [], _, _, h => by have := (h x).1 (by simp); cases this
 | x :: a, y :: b, ha, hb, h => by
  have ha' := List.pairwise_cons.1 ha
  have hb' := List.pairwise_cons.1 hb
  have e : x = y := by
   have h1 := (h x).1 (by simp)
   have h2 := (h y).2 (by simp)
   rcases List.mem_cons.1 h1 with q | q
   ·exact q
   ·rcases List.mem_cons.1 h2 with r | r
    ·exact r.symm
    ·have h3 := hb'.1 x q
     have h4 := ha'.1 y r
     rw [befS_asymm h3] at h4; cases h4
  subst e
  congr 1
  refine asc_uniq ha'.2 hb'.2 fun z => ?_
  have hz := h z
  simp only [List.mem_cons] at hz
  constructor
  ·intro q
   rcases hz.1 (.inr q) with rfl | r
   ·have := ha'.1 z q; rw [qG] at this; cases this
   ·exact r
  ·intro q
   rcases hz.2 (.inr q) with rfl | r
   ·have := hb'.1 z q; rw [qG] at this; cases this
   ·exact r
theorem putL_len (l : List Sym) (a : Sym) : (putL l a).length ≤ l.length + 1 := by
 unfold putL
 split
 ·omega
 ·have := congrArg List.length (List.takeWhile_append_dropWhile (p := (befS · a)) (l := l))
  simp only [List.length_append, List.length_cons] at this ⊢
  omega
theorem fold_put_len (l : List Sym) : ∀ acc : List Sym, (l.foldl putL acc).length ≤ acc.length + l.length := by
 induction l with
 | nil => intro acc; simp
 | cons a l ih => intro acc; rw [List.foldl_cons, List.length_cons]; have := ih (putL acc a); have := putL_len acc a; omega
end Go.Ev
namespace Go.Ev
open Go Go.Proofs
theorem ordS_bef {a b : Sym} (h : a ≠ b) (h2 : ordS a b ≤ 0) : befS a b = true := by
 rw [qW] at h2
 unfold befS
 by_cases c : a.1 = b.1
 ·rw [if_pos c] at h2 ⊢
  have : a.2 ≠ b.2 := fun q => h (Prod.ext c q)
  revert h2 this; cases a.2 <;> cases b.2 <;> simp
 ·rw [if_neg c] at h2 ⊢
  rw [qZ]
  have := pK c
  exact decide_eq_true (by omega)
theorem asc_of_ord {s : List Sym} (hn : s.Nodup) (h : s.Pairwise fun a b => ordS a b ≤ 0) : AscS s := (List.pairwise_and_iff.2 ⟨hn, h⟩).imp fun ⟨h1, h2⟩ => ordS_bef h1 h2
end Go.Ev
namespace Go.Ev
open Go Go.Proofs
variable {B : Nat}
set_option maxRecDepth 100000
theorem CS_args {P : Program} {f : Nat} {p : Pa} {args args' : List AV} {h : T Blk} {nx : Pa} {K : Kw Prop} (hv : ∀ (E : Env) (vs : List Value), VRL E args vs → VRL E args' vs) (hk : (CS P B).fn f p args' h nx K = .ok True) : (CS P B).fn f p args h nx K = .ok True := by
 rw [CS_fn] at hk ⊢
 exact ⟨fun E w vs H hv' => hk.1 E w vs H (hv _ _ hv'), rfl⟩
theorem VR_nil0 {E : Env} {e : Nat} {vv : Value} (h : VR E .nils vv) : VR E (.lst e 0 []) vv := by
 simp only [VR] at h ⊢
 exact ⟨rfl, by simp, none, 0, h, .inl (by simp)⟩
theorem flatG_take : ∀ (q : List Sym) (i : Nat), (zV q).take (i * 2) = zV (q.take i)
 | q, 0 => by simp [zV]
 | [], i + 1 => by simp [zV]
 | p :: q, i + 1 => by
  rw [List.take_succ_cons, show (i + 1) * 2 = i * 2 + 1 + 1 by omega]
  show encI p.1 :: .bool p.2 :: (zV q).take (i * 2) = _
  rw [flatG_take q i]
  rfl
theorem vN (q : List Sym) : (zV q).all scal = true := List.all_eq_true.2 fun v hv => fixd.scal (qE v hv)
def LG (v : AV) (l : List Sym) : Prop := (v = .nils ∧ l = []) ∨ (v = encG l ∧ l ≠ [])
theorem LG.len {v : AV} {l : List Sym} (h : LG v l) {op : AV → OP} : sLen v op = op (I l.length) := by
 rcases h with ⟨rfl, rfl⟩ | ⟨rfl, _⟩
 ·exact jC
 ·exact zL ..
theorem LG.frz {v : AV} {l : List Sym} (h : LG v l) {N : Pa → Prop} {O : AV → Prop} {hh : T Blk} : Frz True N O hh v (encG l) := by
 rcases h with ⟨rfl, rfl⟩ | ⟨rfl, _⟩
 ·exact .lnils 2
 ·exact zK (xT _)
theorem LG.call {P : Program} {f : Nat} {p : Pa} {v : AV} {rest : List AV} {l : List Sym} (h : LG v l) {hh : T Blk} {nx : Pa} {K : Kw Prop} (hk : (CS P B).fn f p (encG l :: rest) hh nx K = .ok True) : (CS P B).fn f p (v :: rest) hh nx K = .ok True := by
 rcases h with ⟨rfl, rfl⟩ | ⟨rfl, _⟩
 ·refine CS_args (fun E vs hv => ?_) hk
  simp only [VRL] at hv ⊢
  obtain ⟨a, m, q, r, s⟩ := hv
  exact ⟨a, m, q, VR_nil0 r, s⟩
 ·exact hk
theorem LG.halves {v : AV} {l : List Sym} {i : Nat} (h : LG v l) (hi : i ≤ l.length) : ∃ lo hi' : AV, (∀ op : AV → OP, uF 2 v none (some (I (i : Int))) none op = op lo) ∧ (∀ op : AV → OP, uF 2 v (some (I (i : Int))) none none op = op hi') ∧
  (∀ (h : T Blk) (no : OP) (K' : List AV → Nat → OP), gU lo h no K' = K' (zV (l.take i)) i) ∧ (∀ (h : T Blk) (no : OP) (K' : List AV → Nat → OP), gU hi' h no K' = K' (zV (l.drop i)) (l.length - i)) := by
 rcases h with ⟨rfl, rfl⟩ | ⟨rfl, h0⟩
 ·obtain rfl : i = 0 := by simpa using hi
  exact ⟨.nils, .nils, fun op => rfl, fun op => rfl, fun h no K' => rfl, fun h no K' => rfl⟩
 ·have hn : 1 ≤ l.length := by cases l with
   | nil => exact absurd rfl h0
   | cons _ _ => simp
  refine ⟨.lst 2 (i - 0) (((zV l).drop (0 * 2)).take ((i - 0) * 2)), .lst 2 (l.length - i) (((zV l).drop (i * 2)).take ((l.length - i) * 2)), fun op => ?_, fun op => ?_, fun h no K' => ?_, fun h no K' => ?_⟩
  ·show (bif Nat.beq 2 2 && Nat.ble 1 l.length then sliceF 2 l.length (zV l) none (some (I (i : Int))) none op else .no 17) = _
   rw [Nat.beq_refl, Nat.ble_eq_true_of_le hn]
   show (match bnd (some (I (i : Int))) l.length l.length with | none => Out.no 17 | some h => match bnd none h 0 with | none => .no 17 | some q => op (.lst 2 (h - q) (((zV l).drop (q * 2)).take ((h - q) * 2)))) = _
   rw [bnd_some hi]; rfl
  ·show (bif Nat.beq 2 2 && Nat.ble 1 l.length then sliceF 2 l.length (zV l) (some (I (i : Int))) none none op else .no 17) = _
   rw [Nat.beq_refl, Nat.ble_eq_true_of_le hn]
   show (match bnd (some (I (i : Int))) l.length 0 with | none => Out.no 17 | some q => op (.lst 2 (l.length - q) (((zV l).drop (q * 2)).take ((l.length - q) * 2)))) = _
   rw [bnd_some hi]
  ·show K' _ (i - 0) = _
   rw [Nat.sub_zero, Nat.zero_mul, List.drop_zero, flatG_take]
  ·show K' _ (l.length - i) = _
   rw [wO, List.take_of_length_le (by rw [jD, List.length_drop]; omega)]
theorem put125 {v : AV} {l : List Sym} {a : Sym} (hv : LG v l) (hl : l.length ≤ 100000) (hw : ∀ g ∈ l, g.1.length ≤ 1000000) (ha : a.1.length ≤ 1000000) : Pure Tryz.prog B 125 [v, encS a] (· = encG (putL l a)) := by
 refine yO fun h nx K H0 hK => zS zZ dreg 1000000 fun hf' => ?_
 rw [F125.go, F125.t20, zA, F125.t0_s]
 refine H0.box (l := [encI a.1, .bool a.2]) rfl fun b2 h1 nx1 H1 => ?_
 rw [F125.t19, zA, F125.t5, zA, F125.t1_s, H1.loadN (k := 0) (n := 2) rfl rfl]
 refine hv.call (index144 (a := a) (by omega) hw _ _ _ _ ?_)
 rintro _ ⟨r, rfl, hr⟩ _
 rw [sGeq, F125.t4, zI, F125.v5]
 by_cases c : r < 0
 case neg =>
  rw [decide_eq_true (by omega), zE, F125.t3, zA, F125.t2_s]
  simp only [yD, yU]
  rw [F125.ret]
  have hin : a ∈ l := Decidable.byContradiction fun q => c (hr.2 q)
  exact hK _ _ _ _ _ H1 hv.frz (by rw [putL, if_pos hin])
 have hnin := hr.1 c
 rw [decide_eq_false (by omega), zD, zP, F125.t18, zA, F125.t6_s, F125.t17, zA, F125.t14, zW]
 refine F125.t13_L (fun m x4 h' nx' => ∃ i : Nat, x4 = I i ∧ m = l.length - i ∧ i ≤ l.length ∧ (l.take i).all (befS · a) = true ∧ Hp h h' nx' [.arr b2 [encI a.1, .bool a.2]]) (m := l.length) (by omega) ⟨0, rfl, by omega, by omega, by simp, H1⟩ ?_
 rintro m z4 z6 h3 nx3 R ⟨i, rfl, rfl, hi, hal, H3⟩ hR
 have fin : (∀ h : i < l.length, befS l[i] a = false) → IR.run F125.t16 (CS Tryz.prog B) 1000000 (fnO F125.res K) (retK F125.res K) (F125.fr v (encS a) (.ptr b2 0) .nils (I i) (.bool false) (.bool false)) h3 nx3 = .ok True := by
  intro hn
  obtain ⟨lo, hi', e1, e2, r1, r2⟩ := hv.halves hi
  have f0 : (jV (repl 0 [AV.nils, .bool false]) []).isSome = true := rfl
  have f1 : (jV (repl 1 [AV.nils, .bool false]) [(0, 2, AV.agg [encI a.1, .bool a.2])]).isSome = true := rfl
  rw [F125.t16, zA, F125.t15_s, f0, Bool.and_self, jT, e1, H3.loadN (k := 0) (n := 2) rfl rfl, f1, Bool.and_self, jT, e2]
  refine H3.bslice (l := []) rfl fun e0 h4 nx4 H4 => ?_
  have ld4 : ∀ op : AV → OP, zH 2 (.ptr b2 0) h4 op = op (.agg [encI a.1, .bool a.2]) := fun op => H4.loadN (k := 1) (n := 2) rfl rfl
  try simp only [e1, e2, ld4, zB]
  have q0 : ∀ (x : AV) (g : T Blk) (n : Pa) (K' : KW3), u5 (CS Tryz.prog B) 2 32 (.sl e0 0 0 (some 0) 2) x g n K' = sApp 2 32 (.sl e0 0 0 (some 0) 2) x g n K' := fun _ _ _ _ => rfl
  rw [q0]
  refine H4.app0Q (by decide) (fun no K' => r1 _ no K') (by rw [jD, List.length_take]; omega) (vN _) (by decide) (by omega) fun w X h5 nx5 H5 hp hq => ?_
  have ld5 : ∀ op : AV → OP, zH 2 (.ptr b2 0) h5 op = op (.agg [encI a.1, .bool a.2]) := fun op => H5.loadN (k := 1) (n := 2) rfl rfl
  try simp only [e1, e2, ld5, zB]
  refine H5.bslice (l := [encI a.1, .bool a.2]) rfl fun b h6 nx6 H6 => ?_
  try simp only [e1, e2, zB]
  rw [hq]
  refine hp _ _ _ _ [encI a.1, .bool a.2] b _ H6 rfl rfl fun id h7 nx7 H7 => ?_
  try simp only [e1, e2, zB]
  have q1 : ∀ (x : AV) (g : T Blk) (n : Pa) (K' : KW3), u5 (CS Tryz.prog B) 2 32 (.sl id 0 (i + 1) none 2) x g n K' = sApp 2 32 (rowV (some id) 2 (i + 1)) x g n K' := fun _ _ _ _ => rfl
  rw [q1]
  refine H7.appN (k := 0) (o := some id) (n := i + 1) (c := l.length - i) (new := zV (l.drop i)) rfl (fun no K' => r2 _ no K') (by rw [jD, List.length_drop]) (vN _) (by decide) (by decide) (by omega) fun o' h8 nx8 _ H8 => ?_
  simp only [yD, yU]
  rw [F125.ret]
  have hp := putL_at hi hal hn hnin
  have e3 : i + 1 + (l.length - i) = (putL l a).length := by
   rw [hp]; simp only [List.length_append, List.length_take, List.length_drop, List.length_cons, List.length_nil]; omega
  have e4 : zV (l.take i) ++ [encI a.1, .bool a.2] ++ zV (l.drop i) = zV (putL l a) := by
   rw [hp]; unfold zV; rw [List.flatMap_append, List.flatMap_append]; rfl
  have H9 : Hp h h8 nx8 (.gro o' 2 (putL l a).length (zV (putL l a)) :: [.arr b2 [encI a.1, .bool a.2]]) := by
   have := H8
   rw [e3] at this
   simp only [List.set_cons_zero, e4] at this
   exact this
  rw [e3]
  exact hK _ _ _ _ _ H9 (H9.frzGro (k := 0) rfl qE) rfl
 rw [F125.t12, zA, F125.t9, zA, F125.t7_s, hv.len, sLss]
 by_cases hlt : i < l.length
 case neg =>
  simp only [show ¬ (i : Int) < (l.length : Int) by omega, decide_false, gS, gW_ft, yM]
  rw [F125.t8, zI, F125.v6, zD, y2, j7]
  exact fin fun q => absurd q hlt
 have hvl : v = encG l := by
  rcases hv with ⟨_, rfl⟩ | ⟨q, _⟩
  ·simp at hlt
  ·exact q
 subst hvl
 simp only [show (i : Int) < (l.length : Int) by omega, decide_true, gF]
 rw [sIxL rfl hlt, yW hlt, gE, H3.loadN (k := 0) (n := 2) rfl rfl, gW_tt]
 refine before143 (a := l[i]) (b := a) (hw _ (List.getElem_mem hlt)) ha _ _ _ _ ?_
 rintro _ rfl _
 rw [yL, F125.t8, zI, F125.v6]
 cases c2 : befS l[i] a with
 | false =>
  rw [zD, y2, j7]
  exact fin fun _ => c2
 | true =>
  rw [zE, zP, F125.t11, zW, F125.t10_s, sAdd (by omega)]
  refine hR _ _ _ _ _ (by omega) ⟨i + 1, rfl, rfl, by omega, ?_, H3⟩
  exact qQ (List.getElem?_eq_getElem hlt) hal c2
end Go.Ev
namespace Go.Ev
open Go Go.Proofs
variable {B : Nat}
set_option maxRecDepth 100000
theorem heavyB_no {G : List Sym} {n : Int} (h : wN G n = false) : (G.length : Int) ≤ n ∧ ∀ g ∈ G, g.1.length ≤ 16 := by
 simp only [wN, Bool.or_eq_false_iff, decide_eq_false_iff_not, List.any_eq_false, decide_eq_true_eq] at h
 exact ⟨by omega, fun g hg => by have := h.2 g hg; omega⟩
end Go.Ev
namespace Go.Ev
open Go Go.Proofs
variable {B : Nat}
set_option maxRecDepth 100000
end Go.Ev
namespace Go.Ev
theorem upto_least : ∀ (l : List Int) (k m : Nat), l.Nodup → (∀ x ∈ l, (k : Int) ≤ x) → jS l ((List.range' k m).map fun j : Nat => (j : Int)) = true → l.length < m
 | [], k, 0, _, _, h => by simp [jS] at h
 | [], k, m + 1, _, _, _ => by simp
 | x :: l, k, 0, _, _, h => by simp [jS] at h
 | x :: l, k, m + 1, hn, hk, h => by
  rw [List.range'_succ, List.map_cons, jS] at h
  have hx := hk x (by simp)
  by_cases e : x = (k : Int)
  ·rw [if_pos e] at h
   have hn' := List.nodup_cons.1 hn
   have := upto_least l (k + 1) m hn'.2 (fun y hy => by
    have h1 := hk y (by simp [hy])
    have h2 : y ≠ x := fun q => hn'.1 (q ▸ hy)
    omega) h
   simp; omega
  ·rw [if_neg e] at h
   have := of_decide_eq_true h
   omega
theorem id_least {n : Nat} {x : Sym} (hx : DP n x) : befS x (idS n) = false := by
 cases h : befS x (idS n) with
 | false => rfl
 | true =>
  unfold befS at h
  split at h
  ·simp [idS] at h
  ·have e : (idS n).1 = (List.range' 0 n).map fun j : Nat => (j : Int) := by
    show (List.range n).map _ = _
    rw [List.range_eq_range']
   rw [e] at h
   have := upto_least x.1 0 n hx.2 (fun y hy => by have := hx.1.2 y hy; omega) h
   have := hx.1.1
   omega
theorem asc_head {n : Nat} {s : List Sym} (ha : AscS s) (hd : ∀ x ∈ s, DP n x) (hi : idS n ∈ s) : s[0]? = some (idS n) := by
 cases s with
 | nil => cases hi
 | cons x t =>
  by_cases e : x = idS n
  ·simp [e]
  ·rcases List.mem_cons.1 hi with q | q
   ·exact absurd q.symm e
   ·have := (List.pairwise_cons.1 ha).1 _ q
    rw [id_least (hd x (by simp))] at this; cases this
def allL (n : Nat) : Nat → List (List Int)
 | 0 => [[]]
 | m + 1 => (allL n m).flatMap fun l => ((List.range n).filter fun (j : Nat) => !decide ((j : Int) ∈ l)).map fun (j : Nat) => (j : Int) :: l
theorem mem_allL {n : Nat} : ∀ {m : Nat} {l : List Int}, l.length = m → l.Nodup → (∀ x ∈ l, 0 ≤ x ∧ x < (n : Int)) → l ∈ allL n m
 | 0, l, h, _, _ => by rw [List.eq_nil_of_length_eq_zero h]; simp [allL]
 | m + 1, [], h, _, _ => by simp at h
 | m + 1, x :: l, h, hn, hr => by
  have hn' := List.nodup_cons.1 hn
  have h1 := hr x (by simp)
  refine List.mem_flatMap.2 ⟨l, mem_allL (by simpa using h) hn'.2 fun y hy => hr y (by simp [hy]), List.mem_map.2 ⟨x.toNat, List.mem_filter.2 ⟨List.mem_range.2 (by omega), ?_⟩, ?_⟩⟩
  ·rw [show ((x.toNat : Nat) : Int) = x by omega, decide_eq_false hn'.1]; rfl
  ·rw [show ((x.toNat : Nat) : Int) = x by omega]
theorem few_perms {n : Nat} (hn : n ≤ 6) {s : List Sym} (hs : s.Nodup) (hd : ∀ x ∈ s, DP n x) : s.length ≤ 1440 := by
 have hm : ∀ x ∈ s, x ∈ (allL n n).flatMap fun l => [(l, true), (l, false)] := fun x hx => by
  have := hd x hx
  refine List.mem_flatMap.2 ⟨x.1, mem_allL this.1.1 this.2 this.1.2, ?_⟩
  obtain ⟨l, b⟩ := x
  cases b <;> simp
 have h1 := lenG hs hm
 have h2 : ∀ n, n ≤ 6 → ((allL n n).flatMap fun l => [(l, true), (l, false)]).length ≤ 1440 := by decide +kernel
 exact Nat.le_trans h1 (h2 n hn)
theorem clo_same {n : Nat} {l u q q' : List Sym} (hl : ∀ a ∈ l, DP n a) (hu : ∀ c ∈ u, c ∈ l) (hin : ∀ a ∈ l, a ∈ q) (hC : CloS n u q) (hi : ∀ T : Sym → Prop, T (idS n) → (∀ x, T x → ∀ b ∈ l, T (zJ b x)) → ∀ x ∈ q', T x) : ∀ x ∈ q', x ∈ q := by
 have hp : u3 zJ q := hC.prod (yT n) fun b hb => hl b (hu b hb)
 exact hi (· ∈ q) hC.one fun x hx b hb => hp b (hin b hb) x hx
end Go.Ev
namespace Go.Ev
open Go Go.Proofs
variable {B : Nat}
set_option maxRecDepth 100000
theorem ident101 {n : Nat} (hn : n ≤ 1000) : Pure Tryz.prog B 101 [I (n : Int)] (· = encI (idL n)) := by
 refine yO fun h nx K H0 hK => zS zZ dreg 10000 fun hf' => ?_
 rw [F101.go, F101.t18, zA, F101.t0_s, F101.t17, zA, F101.t1_s, F101.t16, zA, F101.t13, zA, F101.t2_s, F101.t12, zW]
 refine F101.t11_L (fun m x2 x3 h' nx' => ∃ (i : Nat) (o : Option Pa) (L' : List Ob), x3 = I i ∧ x2 = rowV o 1 i ∧ m = n - i ∧ i ≤ n ∧ Hp h h' nx' (.gro o 1 i ((idL i).map I) :: L')) (m := n) (by omega) ⟨0, none, [], rfl, rfl, by omega, by omega, H0.addGro 1⟩ ?_
 rintro m z2 z3 z4 h3 nx3 R ⟨i, o, L', rfl, rfl, rfl, hi, H3⟩ hR
 rw [F101.t10, zA, F101.t5, zA, F101.t3_s, sLss]
 by_cases hlt : i < n
 case neg =>
  rw [decide_eq_false (by omega), F101.t4, zI, F101.v4, zD, y2, j7, F101.t15, zA, F101.t14_s]
  simp only [yD, yU]
  rw [F101.ret]
  obtain rfl : i = n := by omega
  refine hK _ _ _ _ _ H3 (H3.frzGro (k := 0) rfl fixdI) ?_
  show AV.lst 1 i _ = AV.lst 1 (idL i).length _
  rw [dM]
 rw [decide_eq_true (by omega), F101.t4, zI, F101.v4, zE, zP, F101.t9, zA, F101.t7, zW, F101.t6_s]
 refine H3.bslice (l := [I i]) rfl fun tb h4 nx4 H4 => ?_
 refine H4.appN (k := 1) (o := o) (n := i) (c := 1) (esz := 1) (new := [I i]) rfl (HasArr.rd (l := [I i]) (n := 1) (e := 1) (H4.own _ (List.mem_cons_self ..)) rfl) rfl rfl (by decide) (by decide) (by omega) fun o' h5 nx5 _ H5 => ?_
 rw [F101.t8_s, sAdd (by omega)]
 have e : (idL i).map I ++ [I (i : Int)] = (idL (i + 1)).map I := by simp [idL, List.range_succ]
 rw [e] at H5
 exact hR _ _ _ _ _ _ (by omega) ⟨i + 1, o', L', rfl, rfl, rfl, by omega, H5.drop⟩
theorem sBuild1 {a : AV} (ha : a.cells = some [a]) {K : AV → OP} : uR [.nils, .bool false] [(0, 1, a)] K = K (.agg [a, .bool false]) := by
 unfold uR
 simp only [jV, ha]
 rfl
theorem ident31 {n : Nat} (hn : n ≤ 1000) : Pure Tryz.prog B 31 [I (n : Int)] (· = encS (idS n)) := by
 refine yO fun h nx K H0 hK => zS zZ dreg 10000 fun hf' => ?_
 rw [F31.go, F31.t3, zA, F31.t0_s]
 refine H0.alloc fun b1 h1 nx1 H1 => ?_
 rw [F31.t2, zA, F31.t1_s]
 (refine ident101 hn _ _ _ _ ?_; rintro _ rfl _)
 rw [sBuild1 rfl]
 refine H1.storeN (k := 0) (n := 2) rfl rfl rfl fun h2 H2 => ?_
 simp only [yD, yU]
 rw [F31.ret, H2.loadN (k := 0) (n := 2) rfl rfl]
 exact hK _ _ _ _ (encS (idS n)) H2 (frz_encS (idS n)) rfl
theorem sorted100 {q : List Sym} (hl : q.length ≤ 100000) (hw : ∀ g ∈ q, g.1.length ≤ 1000000) : Pure Tryz.prog B 100 [encG q] (· = encG (sortL q)) := by
 refine yO fun h nx K H0 hK => zS zZ dreg 1000000 fun hf' => ?_
 rw [F100.go, F100.t18, zA, F100.t0_s, F100.t17, zA, F100.t1_s, F100.t16, zA, F100.t13, zA, F100.t2_s, F100.t12, zW]
 have hfm : ∀ (i : Nat), (∀ y ∈ (q.take i).foldl putL [], y ∈ q) ∧ ((q.take i).foldl putL []).length ≤ i := fun i => by
  refine ⟨fun y hy => ?_, ?_⟩
  ·rw [(fold_put _ [] .nil).2] at hy
   rcases hy with r | r
   ·cases r
   ·exact List.mem_of_mem_take r
  ·have := fold_put_len (q.take i) []
   simp only [List.length_nil, List.length_take] at this
   omega
 refine F100.t11_L (fun m x2 x3 h' nx' => ∃ i : Nat, x3 = I i ∧ m = q.length - i ∧ i ≤ q.length ∧ LG x2 ((q.take i).foldl putL []) ∧ Hp h h' nx' []) (m := q.length) (by omega) ⟨0, rfl, by omega, by omega, .inl ⟨rfl, by simp⟩, H0⟩ ?_
 rintro m z2 z3 z4 h3 nx3 R ⟨i, rfl, rfl, hi, hlg, H3⟩ hR
 rw [F100.t10, zA, F100.t5, zA, F100.t3_s, zL, sLss]
 by_cases hlt : i < q.length
 case neg =>
  rw [decide_eq_false (by omega), F100.t4, zI, F100.v4, zD, y2, j7, F100.t15, zA, F100.t14_s]
  simp only [yD, yU]
  rw [F100.ret]
  obtain rfl : i = q.length := by omega
  rw [List.take_of_length_le (Nat.le_refl _)] at hlg
  exact hK _ _ _ _ _ H3 hlg.frz rfl
 have hx : q[i]? = some q[i] := List.getElem?_eq_getElem hlt
 rw [decide_eq_true (by omega), F100.t4, zI, F100.v4, zE, zP, F100.t9, zA, F100.t7, zW, F100.t6_s, sIxL rfl hlt, yW hlt, gE]
 refine put125 (a := q[i]) hlg (by have := (hfm i).2; omega) (fun g hg => hw g ((hfm i).1 g hg)) (hw _ (List.getElem_mem hlt)) _ _ _ _ ?_
 rintro _ rfl _
 rw [F100.t8_s, sAdd (by omega)]
 have ht : (q.take (i + 1)).foldl putL [] = putL ((q.take i).foldl putL []) q[i] := by rw [List.take_add_one, hx, List.foldl_append]; rfl
 refine hR _ _ _ _ _ _ (by omega) ⟨i + 1, rfl, rfl, by omega, .inr ⟨by rw [ht], ?_⟩, H3⟩
 rw [ht]
 intro r
 have := (mem_putL (l := (q.take i).foldl putL []) (a := q[i]) (x := q[i])).2 (.inl rfl)
 rw [r] at this; cases this
theorem QV.at {v : AV} {o : Ob} {q : List Sym} {i : Nat} (h : QV v o q) (hi : i < q.length) : ∃ id off, (∀ op : AV → OP, zO 2 v (I (i : Int)) op = op (.ptr id off)) ∧ ∀ {h0 hh : T Blk} {nx : Pa} {L : List Ob} {k : Nat}, Hp h0 hh nx L → L[k]? = some o → ∀ op : AV → OP, zH 2 (.ptr id off) hh op = op (encS q[i]) := by
 have hq : ∃ a t, q = a :: t := by cases q with
  | nil => simp at hi
  | cons a t => exact ⟨a, t, rfl⟩
 obtain ⟨a, t, rfl⟩ := hq
 obtain ⟨id, off, cap, l, rfl, g3, g4, g⟩ := h.cells
 refine ⟨id, off + i * 2, fun op => qT hi, fun {h0 hh nx L k} H hk op => ?_⟩
 obtain ⟨op', t', g1, g2⟩ := g hh (H.own _ (List.mem_of_getElem? hk))
 show asCells (T.get .no id hh) _ _ = _
 rw [g1]
 show (bif Nat.ble (off + i * 2 + 2) l.length then op (.agg (yC t' (off + i * 2) 2)) else .no 8) = _
 rw [Nat.ble_eq_true_of_le (by omega), cond_true]
 have e : ∀ j, j < l.length → T.get .undef (.of j) t' = l.getD j .undef := fun j hj => by
  have := zX t' 0 l.length j hj
  rw [g2, Nat.zero_add] at this
  rw [List.getD_eq_getElem?_getD, this]; rfl
 have d : ∀ j, j < 2 → l.getD (off + i * 2 + j) .undef = ((zV (a :: t)).drop (i * 2)).getD j .undef := fun j hj => by
  rw [← g4, List.getD_eq_getElem?_getD, List.getD_eq_getElem?_getD, List.getElem?_drop, List.getElem?_take_of_lt (by omega), List.getElem?_drop]
  congr 2; omega
 have e2 : yC t' (off + i * 2) 2 = [T.get .undef (.of (off + i * 2)) t', T.get .undef (.of (off + i * 2 + 1)) t'] := rfl
 have d0 := d 0 (by omega)
 rw [Nat.add_zero] at d0
 rw [e2, e _ (by omega), e _ (by omega), d 1 (by omega), d0, yW hi]
 rfl
theorem QV.frzE {v : AV} {o : Ob} {q : List Sym} (h : QV v o q) (hq : q ≠ []) {hh hz : T Blk} (ho : o.holds hh) (hn : ∀ id, id ∈ o.names → T.get .no id hz = .no) : FrzN hz hh v (encG q) := by
 obtain ⟨a, t, rfl⟩ : ∃ a t, q = a :: t := by cases q with
  | nil => exact absurd rfl hq
  | cons a t => exact ⟨a, t, rfl⟩
 have key : ∀ (id : Pa) (off : Nat) (cap : Option Nat) (l : List AV), v = .sl id off (a :: t).length cap 2 → xG (a :: t).length cap → id ∈ o.names → off + (a :: t).length * 2 ≤ l.length → (l.drop off).take ((a :: t).length * 2) = zV (a :: t) → (∃ op tt, T.get .no id hh = .cells op l.length tt ∧ yC tt 0 l.length = l) → FrzN hz hh v (encG (a :: t)) := by
  rintro id off cap l rfl hc hid g3 g4 ⟨op, tt, g1, g2⟩
  refine .sl _ _ _ _ _ op _ tt _ (hn id hid) hc g1 g3 (jD _) (vN _) fun i x hx => ?_
  have hil : i < (a :: t).length * 2 := by have := (List.getElem?_eq_some_iff.1 hx).1; rwa [jD] at this
  have := zX tt 0 l.length (off + i) (by omega)
  rw [g2, Nat.zero_add] at this
  rw [← g4, List.getElem?_take_of_lt hil, List.getElem?_drop, this] at hx
  rw [Option.some.inj hx]
  exact zK (qE x (by rw [← g4]; exact List.mem_of_getElem? (i := i) (by rw [List.getElem?_take_of_lt hil, List.getElem?_drop, this, Option.some.inj hx])))
 cases h with
 | cap id off l _ h1 h2 => exact key id off _ l rfl (Nat.le_refl _) (by simp [Ob.names]) h1 h2 ho
 | opn id off m l _ h1 h2 h3 =>
  obtain ⟨tt, g1, g2, g3⟩ := ho
  exact key id off _ l rfl trivial (by simp [Ob.names]) (by omega) (by rw [h3, List.take_of_length_le (by rw [jD]; exact Nat.le_refl _)]) ⟨true, tt, by rw [g1, h2], by rw [h2]; exact g3⟩
theorem Hp.killO {h0 h : T Blk} {nx : Pa} {L : List Ob} {o : Ob} {id : Pa} (ho : o.names = [id]) (H : Hp h0 h nx (o :: L)) : Hp h0 (T.set .no .no id h) nx L := by
 have hid : T.get .no id h0 = .no := H.off id (by simp [ho])
 have H3 := H.drop
 have nd := H.nd
 simp only [List.flatMap_cons, ho] at nd
 have hni : id ∉ L.flatMap Ob.names := fun hi => (List.nodup_append.1 nd).2.2 id (by simp) id hi rfl
 have other : ∀ j, j ≠ id → T.get .no j (T.set .no .no id h) = T.get .no j h := fun j hj => T.get_set_ne _ _ _ _ _ hj
 refine ⟨fun j hj => ?_, fun y hy => ?_, H3.off, H3.nd, fun j hj => ?_⟩
 ·rw [other j (by rintro rfl; exact hj hid)]; exact H.keep j hj
 ·exact (H3.own y hy).congr fun m hm => other m (by rintro rfl; exact hni (List.mem_flatMap.2 ⟨y, hy, hm⟩))
 ·by_cases e : j = id
  ·subst e; exact T.get_set_same _ _ _ _
  ·rw [other j e]; exact H.fr j hj
theorem nns_qs (q : List Sym) (a : Sym) : nns [encG q, encS a] = true := by
 have n1 := fixd.nn (xT q)
 have n2 := fixd.nn (kS a.1)
 show (nn (encG q) && ((nn (encI a.1) && (true && true)) && true)) = true
 rw [n1, n2]; rfl
def ClosR (l : List Sym) (n most : Nat) (v : AV) : Prop :=
 (∃ q : List Sym, q.Nodup ∧ most < q.length ∧ (∀ T : Sym → Prop, T (idS n) → (∀ x, T x → ∀ b ∈ l, T (zJ b x)) → ∀ x ∈ q, T x) ∧ v = .tup [.nils, .bool false]) ∨ (∃ q : List Sym, q.Nodup ∧ CloS n l q ∧ q.length ≤ most ∧ v = .tup [encG (sortL q), .bool true])
theorem closure29 {l : List Sym} {n most : Nat} (hn : n ≤ 256) (hl : ∀ a ∈ l, DP n a) (hll : l.length ≤ 1000) (hm1 : 1 ≤ most) (hm : most ≤ 1000) : Pure Tryz.prog B 29 [encG l, I (n : Int), I (most : Int)] (ClosR l n most) := by
 refine yO fun h nx K H0 hK => zS zZ dreg 1000000 fun hf' => ?_
 have hid := (yT n).de
 rw [F29.go, F29.t40, zA, F29.t0_s, F29.t39, zA, F29.t1_s]
 (refine ident31 (by omega) _ _ _ _ ?_; rintro _ rfl _)
 refine H0.bslice (l := [encI (idS n).1, .bool (idS n).2]) rfl fun qb h1 nx1 H1 => ?_
 rw [F29.t38, zA, F29.t35, zA, F29.t2_s, F29.t34, zW]
 have qd : ∀ {q : List Sym}, (∀ T : Sym → Prop, T (idS n) → (∀ x, T x → ∀ b ∈ l, T (zJ b x)) → ∀ x ∈ q, T x) → ∀ x ∈ q, DP n x := fun hi => hi (DP n) hid fun x hx b hb => (yT n).dm b x (hl b hb) hx
 refine F29.t33_L (fun m x5 x6 h' nx' => ∃ (i : Nat) (q : List Sym) (o : Ob) (L' : List Ob), x6 = I i ∧ QV x5 o q ∧ m = most + 1 - i ∧ i ≤ q.length ∧ q.length ≤ most ∧ BfsS n l q i ∧ Hp h h' nx' (o :: L')) (m := most + 1) (by omega)
  ⟨0, [idS n], _, [], rfl, .cap qb 0 _ [idS n] (by simp) rfl, by omega, by simp, by simpa using hm1, Bfs.start _, H1⟩ ?_
 rintro m z3 z4 z5 z6 z7 z8 z9 z10 z11 z12 h3 nx3 R ⟨i, q, o, L3, rfl, hq, rfl, hi, hql, hB, H3⟩ hR
 have hqd := qd hB.ind
 have hne : q ≠ [] := by rintro rfl; have := hB.hd; simp at this
 rw [F29.t32, zA, F29.t5, zA, F29.t3_s, hq.len, sLss]
 by_cases hlt : i < q.length
 case neg =>
  obtain rfl : i = q.length := by omega
  rw [decide_eq_false (by omega), F29.t4, zI, F29.v9, zD, y2, j7, F29.t37, zA, F29.t36_s]
  obtain ⟨id, hnm⟩ := hq.names
  have hF : FrzN (T.set .no .no id h3) h3 z5 (encG q) := hq.frzE hne (H3.own _ (List.mem_cons_self ..)) fun j hj => by
   rw [hnm] at hj; rw [List.mem_singleton.1 hj]; exact T.get_set_same _ _ _ _
  refine CS_let keeps_kill (.cons hF .nil) ?_
  refine sorted100 (by omega) (fun g hg => by have := (hqd g hg).1.1; omega) _ _ _ _ ?_
  rintro _ rfl _
  simp only [yD, yU]
  rw [F29.ret]
  exact hK _ _ _ _ _ (H3.killO hnm) (u9 (zK (xT _)) (zK rfl)) (Or.inr ⟨q, hB.nd, hB.done, hql, rfl⟩)
 rw [decide_eq_true (by omega), F29.t4, zI, F29.v9, zE, zP, F29.t31, zA, F29.t29, zW, F29.t28, zA, F29.t6_s, F29.t27, zW]
 have hx : q[i]? = some q[i] := List.getElem?_eq_getElem hlt
 refine F29.t26_L (fun m x5 x7 h' nx' => ∃ (k : Nat) (q' : List Sym) (o' : Ob) (L' : List Ob), x7 = I k ∧ QV x5 o' q' ∧ m = l.length - k ∧ k ≤ l.length ∧ q'.length ≤ most ∧ i < q'.length ∧ vZ n l q' i q[i] k ∧ Hp h h' nx' (o' :: L')) (m := l.length) (by omega)
  ⟨0, q, o, L3, rfl, hq, by omega, by omega, hql, hlt, hB.at hx, H3⟩ ?_
 rintro m y3 y4 y5 y7 y8 y10 y11 y12 h6 nx6 R' ⟨k, q', o', L6, rfl, hq', rfl, hk, hql', hiq, hA, H6⟩ hR'
 have hqd' := qd hA.ind
 have hne' : q' ≠ [] := by rintro rfl; simp at hiq
 rw [F29.t25, zA, F29.t9, zA, F29.t7_s, zL, sLss]
 by_cases hlt2 : k < l.length
 case neg =>
  obtain rfl : k = l.length := by omega
  rw [decide_eq_false (by omega), F29.t8, zI, F29.v10, zD, y2, j7, F29.t30_s, sAdd (by omega)]
  exact hR _ _ _ _ _ _ _ _ _ _ _ _ _ (by omega) ⟨i + 1, q', o', L6, rfl, hq', rfl, by omega, hql', hA.next, H6⟩
 have hy : l[k]? = some l[k] := List.getElem?_eq_getElem hlt2
 have hym := List.getElem_mem hlt2
 have hdy := hl _ hym
 have hxq : q'[i]'hiq = q[i] := by have := hA.at'; rw [List.getElem?_eq_getElem hiq] at this; exact Option.some.inj this
 have hdx : DP n q[i] := hqd _ (List.getElem_mem hlt)
 have e1 : ∀ op : AV → OP, zO 2 (encG l) (I (k : Int)) op = op (.fp (encI l[k].1 :: .bool l[k].2 :: (zV l).drop ((k + 1) * 2))) := fun op => by rw [sIxL rfl hlt2, yW hlt2]
 obtain ⟨id, off, e2, e3⟩ := hq'.at hiq
 have e4 := e3 H6 (k := 0) rfl
 rw [hxq] at e4
 rw [decide_eq_true (by omega), F29.t8, zI, F29.v10, zE, zP, F29.t24, zA, F29.t22, zW, F29.t21, zA, F29.t10_s, show (true && true) = true from rfl, jT, e1, gE, e2, e4]
 refine compose145 (a := l[k]) (b := q[i]) (fun z hz => by rw [hdy.1.1]; exact hdx.1.2 z hz) (by rw [hdx.1.1]; omega) _ _ _ _ ?_
 rintro _ rfl _
 rw [e4]
 try simp only [zB]
 rw [e2]
 try simp only [e1, gE, zB]
 refine H6.alloc fun b8 h7 nx7 H7 => ?_
 have e5 := e3 H7 (k := 1) rfl
 rw [hxq] at e5
 rw [e5]
 try simp only [zB]
 rw [e2]
 try simp only [e1, gE, zB]
 refine H7.storeN (k := 0) (n := 2) rfl rfl rfl fun h8 H8 => ?_
 rw [F29.t20, zA, F29.t14, zA, F29.t11_s, H8.loadN (k := 0) (n := 2) rfl rfl]
 have hdc : DP n (zJ l[k] q[i]) := (yT n).dm _ _ hdy hdx
 refine CS_plain (args' := [encG q', encS (zJ l[k] q[i])]) (.cons (hq'.frzE hne' (H8.own _ (by simp)) fun j _ => T.get_e _ j) (.cons (frz_encS (zJ l[k] q[i])) .nil)) (nns_qs q' (zJ l[k] q[i])) (fun B => index144 (B := B) (G := q') (a := zJ l[k] q[i]) (by omega) (fun g hg => by have := (hqd' g hg).1.1; omega)) (fun v hv => by obtain ⟨r, rfl, _⟩ := hv; exact .int _ _) ?_
 rintro _ ⟨r, rfl, hr⟩ _
 rw [sLss, F29.t13, zI, F29.v11]
 by_cases c : r < 0
 case neg =>
  rw [decide_eq_false c, zD, zP, F29.t19, zA, F29.t15_s, hq'.len, sGtr, decide_eq_false (by omega), F29.t18, zI, F29.v12, zD, zP, F29.t23_s, sAdd (by omega)]
  have hin : zJ l[k] q[i] ∈ q' := Decidable.byContradiction fun z => c (hr.2 z)
  have H9 : Hp h h8 nx7 (o' :: .arr b8 [encI (zJ l[k] q[i]).1, .bool (zJ l[k] q[i]).2] :: L6) := H8.perm (List.Perm.swap _ _ _)
  exact hR' _ _ _ _ _ _ _ _ _ _ _ (by omega) ⟨k + 1, q', o', _, rfl, hq', rfl, by omega, hql', hiq, hA.had hy hin, H9⟩
 have hnin := hr.1 c
 rw [decide_eq_true c, zE, F29.t12_s, H8.loadN (k := 0) (n := 2) rfl rfl]
 refine H8.bslice (l := [encI (zJ l[k] q[i]).1, .bool (zJ l[k] q[i]).2]) rfl fun tb h9 nx9 H9 => ?_
 refine hq'.app (c := zJ l[k] q[i]) hne' H9 (k := 2) rfl (HasArr.rd (l := [encI (zJ l[k] q[i]).1, .bool (zJ l[k] q[i]).2]) (n := 1) (e := 2) (H9.own _ (List.mem_cons_self ..)) rfl) (by omega) fun v' o'' h10 nx10 hq2 H10 => ?_
 have hln : (q' ++ [zJ l[k] q[i]]).length = q'.length + 1 := by simp
 have hA2 := hA.new hy hnin
 rw [F29.t19, zA, F29.t15_s, hq2.len, sGtr]
 by_cases c2 : q'.length + 1 ≤ most
 ·rw [decide_eq_false (by omega), F29.t18, zI, F29.v12, zD, zP, F29.t23_s, sAdd (by omega)]
  have H11 : Hp h h10 nx10 (o'' :: .arr tb [encI (zJ l[k] q[i]).1, .bool (zJ l[k] q[i]).2] :: .arr b8 [encI (zJ l[k] q[i]).1, .bool (zJ l[k] q[i]).2] :: L6) := H10.perm (((List.Perm.swap _ _ _).cons _).trans (List.Perm.swap _ _ _))
  exact hR' _ _ _ _ _ _ _ _ _ _ _ (by omega) ⟨k + 1, q' ++ [zJ l[k] q[i]], o'', _, rfl, hq2, rfl, by omega, by omega, by omega, hA2, H11⟩
 ·rw [decide_eq_true (by omega), F29.t18, zI, F29.v12, zE, F29.t17, zA, F29.t16_s]
  simp only [yD, blk_rt, yU]
  rw [F29.ret]
  exact hK _ _ _ _ _ H10 (u9 (zK rfl) (zK rfl)) (Or.inl ⟨_, hA2.nd, by omega, hA2.ind, rfl⟩)
end Go.Ev
namespace Go.Ev
open Go Go.Proofs
variable {B : Nat}
set_option maxRecDepth 100000
theorem law4 {G : List Sym} {n : Int} (haw : ∀ {B}, Pure Tryz.prog B 18 [] (· = .bool true)) : Pure Tryz.prog B 4 [encG G, I n] (· = .bool true) := by
 refine yO fun h nx K H0 hK => zS zZ dreg 1000 fun hf => ?_
 have awk : ∀ (h : T Blk) (nx : Pa) (Z : Kw Prop), Z (.bool true) h nx = .ok True → (CS Tryz.prog B).fn 18 (.of 18) [] h nx Z = .ok True := fun h nx Z hZ => haw _ _ _ _ fun v hv _ => by rw [hv]; exact hZ
 have ret : ∀ {h1 nx1 L}, Hp h h1 nx1 L → K (.bool true) h1 nx1 = .ok True := fun H => hK _ _ _ _ _ H (zK rfl) rfl
 rw [F4.go, F4.t46, zA, F4.t0_s, F4.t45, zA, F4.t5, zA, F4.t1_s]
 refine awk _ _ _ ?_
 rw [jA, Bool.not_true]
 simp only [gX, gW_ff]
 (refine heavy19 (by decide) _ _ _ _ ?_; rintro _ rfl _)
 rw [yM, F4.t4, zI, F4.v9]
 by_cases c1 : wN G 3 = true
 ·rw [c1, zE, F4.t3, zA, F4.t2_s]
  refine awk _ _ _ ?_
  simp only [yD, yU]
  rw [F4.ret]
  exact ret H0
 have c1 : wN G 3 = false := by cases q : wN G 3 <;> simp_all
 obtain ⟨hG1, hw⟩ := heavyB_no c1
 rw [c1, zD, zP, F4.t44, zA, F4.t6_s]
 (refine cells104 n _ _ _ _ ?_; rintro _ rfl _)
 rw [F4.t43, zA, F4.t18, zA, F4.t7_s, F4.t17, zW]
 have hcl : kK G n = if n < 0 ∨ 256 < n then 3 else jG n G := by
  unfold kK
  split
  ·rfl
  ·rw [if_neg (by omega)]
 have rest : ∀ (x4 x10 : AV) {h1 nx1 L}, Hp h h1 nx1 L → IR.run F4.t42 (CS Tryz.prog B) 1000 (fnO F4.res K) (retK F4.res K) (F4.fr (encG G) (I n) (.bool false) (I (kK G n)) x4 .undef .undef .undef .undef (.bool false) x10 .undef .undef .undef) h1 nx1 = .ok True := by
  intro x4 x10 h1 nx1 L H1
  rw [F4.t42, zA, F4.t23, zA, F4.t19_s, F4.r8_0, F4.r8_0_g, sEql]
  have hGl : G.length ≤ 3 := by omega
  have on : ∀ (x11 : AV) {h2 nx2 L2}, Hp h h2 nx2 L2 → (kK G n = 0 → n ≤ 6 ∨ G.length = 0) → IR.run F4.t41 (CS Tryz.prog B) 1000 (fnO F4.res K) (retK F4.res K) (F4.fr (encG G) (I n) (.bool false) (I (kK G n)) x4 .undef .undef .undef .undef (.bool false) x10 x11 .undef .undef) h2 nx2 = .ok True := by
   intro x11 h2 nx2 L2 H2 hsm
   rw [F4.t41, zA, F4.t24_s]
   refine closure27 (by omega) (fun g hg => by have := hw g hg; omega) _ _ _ _ ?_
   rintro v hv _
   by_cases c2 : kK G n = 0
   case neg =>
    rw [ClosQ, if_pos c2] at hv
    subst hv
    rw [jB, jF, F4.t40, zA, F4.t29, zA, F4.t25_s, sNeq, decide_eq_false c2, Bool.not_false, F4.t28, zI, F4.v12, zE, F4.t27, zA, F4.t26_s]
    refine symG_bad c2 _ _ _ _ ?_
    rintro _ rfl _
    simp only [yD, yU]
    rw [F4.ret]
    exact ret H2
   rw [ClosQ, if_neg (fun q => q c2)] at hv
   obtain ⟨n', rfl, hn', hd, hh⟩ := hv
   have hsm := hsm c2
   have hds : ∀ {q : List Sym}, (∀ T : Sym → Prop, T (idS n') → (∀ x, T x → ∀ b ∈ G, T (zJ b x)) → ∀ x ∈ q, T x) → ∀ x ∈ q, DP n' x := fun hi => hi (DP n') (yT n').de fun x hx b hb => (yT n').dm b x (hd b hb) hx
   have hfew : ∀ {q : List Sym}, q.Nodup → (∀ x ∈ q, DP n' x) → G.length ≠ 0 → q.length ≤ 1440 := fun hq hdq h0 => few_perms (by omega) hq hdq
   rcases hh with ⟨⟨u, q, i, x, k, b, hu, hB, hb, _, hq⟩, _⟩ | ⟨u, q, s, hu, hin, hqn, hC, hql, hp, hs, rfl⟩
   ·have hbm := hu b (List.mem_of_getElem? hb)
    have h0 : G.length ≠ 0 := fun z => by rw [List.eq_nil_of_length_eq_zero z] at hbm; cases hbm
    have hdq := hB.ind (DP n') (yT n').de fun x hx b hb => (yT n').dm b x (hd b (hu b hb)) hx
    have := hfew hB.nd hdq h0
    omega
   have hdq := hC.ind (DP n') (yT n').de fun x hx b hb => (yT n').dm b x (hd b (hu b hb)) hx
   have hsn : s.Nodup := hp.nodup_iff.2 hqn
   have hsa : AscS s := asc_of_ord hsn hs
   have hds2 : ∀ x ∈ s, DP n' x := fun x hx => hdq x (hp.mem_iff.1 hx)
   have h0 : s[0]? = some (idS n') := asc_head hsa hds2 (hp.mem_iff.2 hC.one)
   have hsl : 0 < s.length := (List.getElem?_eq_some_iff.1 h0).1
   have hs0 : s[0] = idS n' := by rw [List.getElem?_eq_getElem hsl] at h0; exact Option.some.inj h0
   rw [jB, jF, F4.t40, zA, F4.t29, zA, F4.t25_s, sNeq, c2, decide_eq_true rfl, Bool.not_true, F4.t28, zI, F4.v12, zD, zP, F4.t39, zA, F4.t30_s]
   refine closure29 (most := 48) hn' hd (by omega) (by decide) (by decide) _ _ _ _ ?_
   rintro v2 hv2 _
   rcases hv2 with ⟨q2, hnd2, hlen, hi2, rfl⟩ | ⟨q2, hnd2, hC2, hl2, rfl⟩
   ·have hsub := clo_same hd hu hin hC hi2
    have hle := lenG hnd2 hsub
    have hpl := hp.length_eq
    have h48 : 48 < s.length := by omega
    have hG0 : G.length ≠ 0 := fun z => by
     have : G = [] := List.eq_nil_of_length_eq_zero z
     have h1 := hi2 (· = idS n') rfl (fun x _ b hb => by rw [this] at hb; cases hb)
     have h2 := lenG (r := [idS n']) hnd2 fun x hx => by simp [h1 x hx]
     simp at h2; omega
    have h1440 : s.length ≤ 1440 := by have := hfew hqn hdq hG0; omega
    rw [jB, jF, F4.t38, zA, F4.t35, zA, F4.t31_s, jA, Bool.not_false, F4.t34, zI, F4.v13, zE, F4.t33, zA, F4.t32_s]
    have g1 : gOk (.bool true) true = true := rfl
    simp only [sEql, decide_true, gF, zL, sGtr, decide_eq_true (show (48 : Int) < (s.length : Int) by omega), yL, sLeq, decide_eq_true (show (s.length : Int) ≤ 1440 by omega), g1, cond_true, gW_tt]
    have e1 : ∀ op : AV → OP, zO 2 (encG s) (I 0) op = op (.fp (encI s[0].1 :: .bool s[0].2 :: (zV s).drop ((0 + 1) * 2))) := fun op => by rw [sIxL (j := 0) (i := 0) rfl hsl, yW hsl]
    rw [e1, gE]
    refine ident31 (by omega) _ _ _ _ ?_
    rintro _ rfl _
    rw [gE, zB, e1, zB, zB]
    refine same169 (a := s[0]) (b := idS n') (by rw [hs0, (yT n').de.1.1]; omega) _ _ _ _ ?_
    rintro _ rfl _
    rw [decide_eq_true hs0]
    simp only [yD, yU]
    rw [F4.ret]
    exact ret H2
   ·have e : s = sortL q2 := by
     refine asc_uniq hsa (sortL_asc q2) fun x => ?_
     rw [mem_sortL, hp.mem_iff]
     exact ⟨fun hx => hC.ind (· ∈ q2) hC2.one (fun y hy b hb => hC2.clo y hy b (hu b hb)) x hx, fun hx => clo_same hd hu hin hC hC2.ind x hx⟩
    rw [jB, jF, F4.t38, zA, F4.t35, zA, F4.t31_s, jA, Bool.not_true, F4.t34, zI, F4.v13, zD, zP, F4.t37, zA, F4.t36_s, ← e]
    refine symG_ok (by have := hp.length_eq; omega) (fun g hg => by have := (hds2 g hg).1.1; omega) _ _ _ _ ?_
    rintro _ rfl _
    simp only [yD, yU]
    rw [F4.ret]
    exact ret H2
  by_cases c2 : kK G n = 0
  ·simp only [c2, decide_true, gF, sGtr, yL]
   rw [← c2]
   by_cases c3 : 6 < n
   ·simp only [c3, decide_true, gF]
    rw [F4.r8_1, F4.r8_1_g]
    simp only [gF, zL, sGtr, yL]
    rw [F4.t22, zI, F4.v11]
    by_cases c4 : G.length = 0
    ·rw [decide_eq_false (by omega), zD, zP]
     exact on _ H1 fun _ => .inr c4
    ·rw [decide_eq_true (by omega), zE, F4.t21, zA, F4.t20_s]
     simp only [yD, yU]
     rw [F4.ret]
     exact ret H1
   ·simp only [c3, decide_false, gS]
    rw [F4.r8_1, F4.r8_1_g]
    simp only [gS, yM]
    rw [F4.t22, zI, F4.v11, zD, zP]
    exact on _ H1 fun _ => .inl (by omega)
  ·simp only [c2, decide_false, gS, yM]
   rw [F4.r8_1, F4.r8_1_g]
   simp only [gS, yM]
   rw [F4.t22, zI, F4.v11, zD, zP]
   exact on _ H1 fun z => absurd z c2
 refine F4.t16_L (fun m x3 x4 h' nx' => ∃ (i : Nat) (bad : Int), x4 = I i ∧ x3 = I bad ∧ m = G.length - i ∧ i ≤ G.length ∧ kK G n = (if bad ≠ 0 then bad else jG n (G.drop i)) ∧ Hp h h' nx' []) (m := G.length) (by omega) ⟨0, _, rfl, rfl, by omega, by omega, ?_, H0⟩ ?_
 ·rw [hcl]
  by_cases c : n < 0 ∨ 256 < n
  ·rw [if_pos c, if_pos c]; rfl
  ·rw [if_neg c, if_neg c]; rfl
 rintro m z3 z4 z10 h3 nx3 R ⟨i, bad, rfl, rfl, rfl, hi, hb, H3⟩ hR
 rw [F4.t15, zA, F4.t10, zA, F4.t8_s, zL, sLss]
 by_cases hlt : i < G.length
 case neg =>
  simp only [show ¬ (i : Int) < (G.length : Int) by omega, decide_false, gS, yM]
  rw [F4.t9, zI, F4.v10, zD, y2, j7]
  have : kK G n = bad := by
   rw [hb, List.drop_of_length_le (by omega)]
   by_cases z : bad = 0
   ·rw [if_neg (fun q => q z), z]; rfl
   ·rw [if_pos z]
  rw [← this]
  exact rest _ _ H3
 simp only [show (i : Int) < (G.length : Int) by omega, decide_true, gF, sEql, yL]
 rw [F4.t9, zI, F4.v10]
 by_cases z : bad = 0
 case neg =>
  rw [decide_eq_false z, zD, y2, j7]
  rw [if_pos z] at hb
  rw [← hb]
  exact rest _ _ H3
 rw [decide_eq_true z, zE, zP, F4.t14, zA, F4.t12, zW, F4.t11_s, sIxL rfl hlt, yW hlt, gE]
 refine sym47x _ _ _ _ ?_
 rintro _ rfl _
 rw [F4.t13_s, sAdd (by omega)]
 refine hR _ _ _ _ _ _ (by omega) ⟨i + 1, _, rfl, rfl, rfl, by omega, ?_, H3⟩
 rw [hb, if_neg (fun q => q z), dB hlt]
end Go.Ev
