import Derived.Test.YtkjkjpmahgeneaaGreatDoorWordsa
import Derived.Test.YtkjkjpmahgeneaaGreatDoorCodea
import Derived.Test.YtkjkjpmahgeneaaGreatDoorEvD
set_option linter.unusedSimpArgs false
set_option linter.unusedVariables false
namespace Go.Ev
theorem befS_asymm {a b : Sym} (h : befS a b = true) : befS b a = false := by
 cases c : befS b a with
 | false => rfl
 | true => have := u5 h c; rw [uX] at this; cases this
def yH (S : List Sym) (a : Sym) : Bool := S.all fun b => !befS (zF a b) a
def cosL (G S : List Sym) : List Sym := G.filter (yH S)
def cosU (C S : List Sym) : List Sym := C.flatMap fun a => S.map (zF a)
theorem mem_cosU {C S : List Sym} {x : Sym} : x ∈ cosU C S ↔ ∃ a ∈ C, ∃ b ∈ S, zF a b = x := by
 simp [cosU]
section
variable {G S : List Sym} {n : Nat}
theorem GrOk.inv2 (hS : GrOk S n) {b : Sym} (hb : b ∈ S) : ∃ c ∈ S, ∀ a, DP n a → zF (zF a b) c = a := by
 obtain ⟨c, hc, e⟩ := hS.inv b hb
 exact ⟨c, hc, fun a ha => by rw [(jM n).assoc a b c ha (hS.dp b hb) (hS.dp c hc), e, (jM n).er a ha]⟩
theorem coset_back (hS : GrOk S n) {a x b : Sym} (ha : DP n a) (hb : b ∈ S) (e : zF a b = x) : ∃ c ∈ S, zF x c = a := by
 obtain ⟨c, hc, q⟩ := hS.inv2 hb
 exact ⟨c, hc, by rw [← e]; exact q a ha⟩
theorem coset_step (hS : GrOk S n) {a x b c : Sym} (ha : DP n a) (hb : b ∈ S) (hc : c ∈ S) (e : zF a b = x) : zF x c = zF a (zF b c) ∧ zF b c ∈ S :=
 ⟨by rw [← e, (jM n).assoc a b c ha (hS.dp b hb) (hS.dp c hc)], hS.cl b hb c hc⟩
theorem ord_lt (hG : GrOk G n) {i j : Nat} {a b : Sym} (hi : G[i]? = some a) (hj : G[j]? = some b) (h : i < j) : befS a b = true := by
 obtain ⟨hi1, rfl⟩ := List.getElem?_eq_some_iff.1 hi
 obtain ⟨hj1, rfl⟩ := List.getElem?_eq_some_iff.1 hj
 exact List.pairwise_iff_getElem.1 (dM hG.ord) i j hi1 hj1 h
theorem ord_idx (hG : GrOk G n) {i j : Nat} {a b : Sym} (hi : G[i]? = some a) (hj : G[j]? = some b) (h : befS a b = true) : i < j := by
 rcases Nat.lt_trichotomy i j with q | rfl | q
 ·exact q
 ·rw [hi] at hj; cases hj; rw [uX] at h; cases h
 ·have := ord_lt hG hj hi q
  rw [befS_asymm this] at h; cases h
theorem coset_first (hG : GrOk G n) (hS : GrOk S n) (hs : ∀ a ∈ S, a ∈ G) {i : Nat} {a : Sym} (hi : G[i]? = some a) : ∃ (j : Nat) (m : Sym), j ≤ i ∧ G[j]? = some m ∧ yH S m = true ∧ (∃ b ∈ S, zF a b = m) ∧ ∀ k x, G[k]? = some x → (∃ b ∈ S, zF a b = x) → j ≤ k := by
  have haG := List.mem_of_getElem? hi
  have hda := hG.dp a haG
  have hex : ∃ (k : Nat) (x : Sym), G[k]? = some x ∧ ∃ b ∈ S, zF a b = x := ⟨i, a, hi, idS n, hS.one, (jM n).er a hda⟩
  have key : ∀ N : Nat, (∃ (k : Nat) (x : Sym), k ≤ N ∧ G[k]? = some x ∧ ∃ b ∈ S, zF a b = x) → ∃ (j : Nat) (m : Sym), G[j]? = some m ∧ (∃ b ∈ S, zF a b = m) ∧ ∀ (k : Nat) (x : Sym), G[k]? = some x → (∃ b ∈ S, zF a b = x) → j ≤ k := by
    intro N
    induction N with
    | zero => rintro ⟨k, x, hk, hx, hb⟩; obtain rfl : k = 0 := by omega
              exact ⟨0, x, hx, hb, fun _ _ _ _ => Nat.zero_le _⟩
    | succ N ih =>
      rintro ⟨k, x, hk, hx, hb⟩
      by_cases c : ∃ (k : Nat) (x : Sym), k ≤ N ∧ G[k]? = some x ∧ ∃ b ∈ S, zF a b = x
      · exact ih c
      · have hkN : k = N + 1 := by
          rcases Nat.lt_or_ge k (N + 1) with q | q
          · exact absurd ⟨k, x, by omega, hx, hb⟩ c
          · omega
        subst hkN
        refine ⟨_, x, hx, hb, fun k' x' hk' hb' => ?_⟩
        rcases Nat.lt_or_ge k' (N + 1) with q | q
        · exact absurd ⟨k', x', by omega, hk', hb'⟩ c
        · exact q
  obtain ⟨k0, x0, h1, h2⟩ := hex
  obtain ⟨j, m, hj, hm, hmin⟩ := key k0 ⟨k0, x0, Nat.le_refl _, h1, h2⟩
  refine ⟨j, m, hmin i a hi ⟨idS n, hS.one, (jM n).er a hda⟩, hj, List.all_eq_true.2 fun b hb => ?_, hm, hmin⟩
  obtain ⟨c, hc, e⟩ := hm
  obtain ⟨e2, hcb⟩ := coset_step hS hda hc hb e
  have hin : zF m b ∈ G := hG.cl m (List.mem_of_getElem? hj) b (hs b hb)
  obtain ⟨k, hk⟩ := List.getElem?_of_mem hin
  have hle := hmin k _ hk ⟨_, hcb, e2.symm⟩
  cases q : befS (zF m b) m with
  | false => rfl
  | true => have := ord_idx hG hk hj q; omega
theorem coset_seen (hG : GrOk G n) (hS : GrOk S n) (hs : ∀ a ∈ S, a ∈ G) {i : Nat} {a : Sym} (hi : G[i]? = some a) : a ∈ cosU ((G.take i).filter (yH S)) S ↔ yH S a = false := by
 rw [mem_cosU]
 have hda := hG.dp a (List.mem_of_getElem? hi)
 constructor
 ·rintro ⟨m, hm, b, hb, e⟩
  obtain ⟨hm1, hm2⟩ := List.mem_filter.1 hm
  obtain ⟨j, hj⟩ := List.getElem?_of_mem hm1
  have hjl := (List.getElem?_eq_some_iff.1 hj).1
  rw [List.length_take] at hjl
  rw [List.getElem?_take_of_lt (by omega)] at hj
  have hlt := ord_lt hG hj hi (by omega)
  obtain ⟨c, hc, e2⟩ := coset_back hS (hG.dp m (List.mem_of_getElem? hj)) hb e
  cases q : yH S a with
  | false => rfl
  | true =>
   have := List.all_eq_true.1 q c hc
   rw [e2, hlt] at this; cases this
 ·intro hl
  obtain ⟨j, m, hj1, hj, hm, ⟨b, hb, e⟩, _⟩ := coset_first hG hS hs hi
  have hne : j ≠ i := by
   rintro rfl
   rw [hi] at hj; cases hj
   rw [hm] at hl; cases hl
  refine ⟨m, List.mem_filter.2 ⟨?_, hm⟩, coset_back hS hda hb e⟩
  exact List.mem_of_getElem? (i := j) (by rw [List.getElem?_take_of_lt (by omega)]; exact hj)
theorem coset_new (hG : GrOk G n) (hS : GrOk S n) {C : List Sym} (hC : ∀ m ∈ C, m ∈ G) {a b : Sym} (ha : a ∈ G) (hb : b ∈ S) (hn : a ∉ cosU C S) : zF a b ∉ cosU C S := by
 intro h
 obtain ⟨m, hm, c, hc, e⟩ := mem_cosU.1 h
 obtain ⟨d, hd, q⟩ := hS.inv2 hb
 have hdm := hG.dp m (hC m hm)
 refine hn (mem_cosU.2 ⟨m, hm, zF c d, hS.cl c hc d hd, ?_⟩)
 rw [← (jM n).assoc m c d hdm (hS.dp c hc) (hS.dp d hd), e]
 exact q a (hG.dp a ha)
theorem coset_inj (hS : GrOk S n) {a b c : Sym} (ha : DP n a) (hb : b ∈ S) (hc : c ∈ S) (e : zF a b = zF a c) : b = c := (jM n).cl a b c ha (hS.dp b hb) (hS.dp c hc) e
end
end Go.Ev
namespace Go.Ev
open Go Go.Proofs
variable {B : Nat}
set_option maxRecDepth 100000
def cosV (G S : List Sym) (n : Int) : AV := if subE G S n ≠ 0 then .tup [.nils, I (subE G S n)] else .tup [encG (cosL G S), I 0]
theorem flatG_snoc (q : List Sym) (a : Sym) : zV (q ++ [a]) = zV q ++ [encI a.1, .bool a.2] := by unfold zV; rw [List.flatMap_append]; rfl
theorem cosets39 {G S : List Sym} {n : Int} (hG : G.length ≤ 100000) (hw : ∀ g ∈ G, g.1.length ≤ 100000) (hS : S.length ≤ 100000) (hw2 : ∀ g ∈ S, g.1.length ≤ 100000) : Pure Tryz.prog B 39 [encG G, encG S, I n] (· = cosV G S n) := by
 refine yI fun h nx K H0 hK => zR zS dreg 10000000 fun hf' => ?_
 rw [F39.go, F39.t37, zA, F39.t0_s]
 refine H0.box (l := [encG S]) rfl fun b3 h1 nx1 H1 => ?_
 rw [F39.t36, zA, F39.t7, zA, F39.t1_s, H1.load (k := 0) (i := 0) rfl rfl]
 refine xE hG hw hS hw2 H1 (fun e h2 nx2 X he hne H2 => ?_) fun n' u1 q1 u2 q2 g o1 o2 h2 nx2 X hn ok1 ok2 hse _ _ _ _ _ _ _ _ hsub H2 => ?_
 ·rw [jD, jG, jX]
  refine H2.alloc fun b6 h3 nx3 H3 => ?_
  refine H3.storeN (k := 0) (n := 2) rfl rfl rfl fun h4 H4 => ?_
  rw [F39.t6, zA, F39.t2_s, sNeq, decide_eq_false hne, Bool.not_false, F39.t5, zH, F39.v12, zD, F39.t4, zA, F39.t3_s]
  simp only [zZ, yR]
  rw [F39.ret]
  exact hK _ _ _ _ _ H4 (kE (zJ rfl) (zJ rfl)) (by rw [cosV, ← he, if_pos hne])
 subst hn
 have hn256 := ok1.n256
 have H2 : Hp h h2 nx2 [.arr b3 [encG S]] := Hp.pre (_ :: _ :: _ :: X) H2
 rw [jD, jG, jX]
 refine H2.alloc fun b6 h3 nx3 H3 => ?_
 refine H3.storeN (k := 0) (n := 2) rfl rfl rfl fun h4 H4 => ?_
 rw [F39.t6, zA, F39.t2_s, sNeq, decide_eq_true rfl, Bool.not_true, F39.t5, zH, F39.v12, zE, zQ, F39.t35, zA, F39.t8_s]
 refine H4.mkmap fun gm h5 nx5 H5 => ?_
 refine H5.alloc fun b7 h6 nx6 H6 => ?_
 refine H6.store (k := 0) rfl (by simp) rfl fun h7 H7 => ?_
 rw [F39.t34, zA, F39.t9_s]
 refine H7.alloc fun b8 h8 nx8 H8 => ?_
 rw [F39.t33, zA, F39.t30, zA, F39.t10_s]
 refine mB _ _ _ _ ?_
 rintro _ rfl _
 rw [F39.t29, zP, F39.t28]
 have H9 := H8.addGro 2
 have T : ∃ T : List Ob, T = [.arr b6 [rowV o1 2 u1.length, rowV o2 2 u2.length], .arr b3 [encG S]] := ⟨_, rfl⟩
 obtain ⟨T, hT⟩ := T
 have hout : ∀ i, ((G.take i).filter (yH S)).length ≤ G.length := fun i => by
  have := List.length_filter_le (yH S) (G.take i)
  rw [List.length_take] at this; omega
 refine rfAll H9 F39.t28_f (fun v w k => F39.t28_b k) (by omega)
  (fun i L' => ∃ o, L' = .gro o 2 ((G.take i).filter (yH S)).length (zV ((G.take i).filter (yH S))) :: .arr b8 [rowV o 2 ((G.take i).filter (yH S)).length] :: .arr b7 [.map gm] :: .map gm (entS (cosU ((G.take i).filter (yH S)) S)) :: T)
  (fun _ => False) (fun _ _ => False) ⟨none, by subst hT; rfl⟩
  (fun i x Rb Rb' h10 nx10 L' M E O1 O2 hx hJ H10 hM hE hR hX => ?_) (fun h10 nx10 L' hJ H10 => ?_) (fun _ _ _ hX _ => hX.elim) (fun _ _ _ _ hX _ => hX.elim)
 case refine_2 =>
  obtain ⟨o, rfl⟩ := hJ
  rw [List.take_of_length_le (Nat.le_refl _)] at H10
  rw [F39.t32, zA, F39.t31_s, H10.load (k := 1) (i := 0) rfl rfl]
  simp only [zZ, yR]
  rw [F39.ret]
  exact hK _ _ _ _ _ H10 (kE (H10.frzGro (k := 0) rfl qM) (zJ rfl)) (by rw [cosV, hse, if_neg (by decide)]; rfl)
 obtain ⟨o, rfl⟩ := hJ
 have hxm := List.mem_of_getElem? hx
 have hdx := ok1.dp x hxm
 have htake : G.take (i + 1) = G.take i ++ [x] := by rw [List.take_add_one, hx]; rfl
 have hCm : ∀ m ∈ (G.take i).filter (yH S), m ∈ G := fun m hm => List.mem_of_mem_take (List.mem_filter.1 hm).1
 have hks : ∀ b ∈ cosU ((G.take i).filter (yH S)) S, DS n' b := fun b hb => by
  obtain ⟨m, hm, c, hc, rfl⟩ := mem_cosU.1 hb
  exact (ok1.dp _ (ok1.cl m (hCm m hm) c (hsub c hc))).1
 rw [F39.t11_s]
 refine H10.alloc fun b9 h11 nx11 H11 => ?_
 refine H11.storeN (k := 0) (n := 2) rfl rfl rfl fun h12 H12 => ?_
 refine hM _ _ _ [_] H12 fun h13 H13 => ?_
 rw [F39.t27, zP, F39.t26, zA, F39.t14, zA, F39.t12_s, H13.load (k := 4) (i := 0) rfl rfl, H13.loadN (k := 0) (n := 2) rfl rfl]
 refine pV (a := x) hn256 hdx.1 hks H13 (k := 5) rfl ?_
 rw [F39.t13, zH, F39.v16]
 have hseen := coset_seen ok1 ok2 hsub hx
 by_cases c : x ∈ cosU ((G.take i).filter (yH S)) S
 ·rw [decide_eq_true c, zD, yX, jT]
  have hfl : (G.take (i + 1)).filter (yH S) = (G.take i).filter (yH S) := by
   rw [htake, List.filter_append, List.filter_cons_of_neg (by rw [hseen.1 c]; decide)]; simp
  exact hE _ _ _ [_] _ ⟨o, by rw [hfl]⟩ H13
 have hlx : yH S x = true := by
  cases q : yH S x with
  | true => rfl
  | false => exact absurd (hseen.2 q) c
 have hfl : (G.take (i + 1)).filter (yH S) = (G.take i).filter (yH S) ++ [x] := by
  rw [htake, List.filter_append, List.filter_cons_of_pos hlx]; rfl
 rw [decide_eq_false c, zE, zQ, F39.t25, zA, F39.t23, zA, F39.t15_s]
 subst hT
 rw [H13.load (k := 7) (i := 0) rfl rfl]
 refine mB _ _ _ _ ?_
 rintro _ rfl _
 rw [F39.t22, zP, F39.t21]
 refine rfAll H13 F39.t21_f (fun v w k => F39.t21_b k) (by omega)
  (fun k L' => L' = .arr b9 [encI x.1, .bool x.2] :: Rb' :: .gro o 2 ((G.take i).filter (yH S)).length (zV ((G.take i).filter (yH S))) :: .arr b8 [rowV o 2 ((G.take i).filter (yH S)).length] :: .arr b7 [.map gm] :: .map gm (entS (cosU ((G.take i).filter (yH S)) S ++ (S.take k).map (zF x))) :: [.arr b6 [rowV o1 2 u1.length, rowV o2 2 u2.length], .arr b3 [encG S]])
  (fun _ => False) (fun _ _ => False) (by simp)
  (fun k y Sb Sb' h14 nx14 L' M' E' O1' O2' hy hJ H14 hM' hE' hR' hX' => ?_) (fun h14 nx14 L' hJ H14 => ?_) (fun _ _ _ hX _ => hX.elim) (fun _ _ _ _ hX _ => hX.elim)
 ·subst hJ
  have hym := List.mem_of_getElem? hy
  have hdy := ok2.dp y hym
  have htk : S.take (k + 1) = S.take k ++ [y] := by rw [List.take_add_one, hy]; rfl
  have hxy : DS n' (zF x y) := (ok1.dp _ (ok1.cl x hxm y (hsub y hym))).1
  rw [F39.t16_s]
  refine H14.alloc fun b10 h15 nx15 H15 => ?_
  refine H15.storeN (k := 0) (n := 2) rfl rfl rfl fun h16 H16 => ?_
  refine hM' _ _ _ [_] H16 fun h17 H17 => ?_
  rw [F39.t20, zP, F39.t19, zA, F39.t17_s, H17.loadN (k := 2) (n := 2) rfl rfl, H17.loadN (k := 0) (n := 2) rfl rfl]
  refine xP (a := x) (b := y) (fun z hz => by rw [hdx.1.1]; exact hdy.1.2 z hz) (by rw [hdy.1.1]; omega) _ _ _ _ ?_
  rintro _ rfl _
  refine H17.alloc fun b11 h18 nx18 H18 => ?_
  refine H18.storeN (k := 0) (n := 2) rfl rfl rfl fun h19 H19 => ?_
  rw [F39.t18_s, H19.load (k := 7) (i := 0) rfl rfl, H19.loadN (k := 0) (n := 2) rfl rfl, H19.loadN (k := 0) (n := 2) rfl rfl]
  refine pS (a := zF x y) (fun z hz => by have := hxy.2 z hz; omega) (by rw [hxy.1]; omega) _ _ _ _ ?_
  rintro _ rfl _
  rw [H19.loadN (k := 0) (n := 2) rfl rfl, zB, H19.load (k := 7) (i := 0) rfl rfl, zB]
  refine H19.putS (a := zF x y) hn256 hxy (fun b hb => ?_) (fun hin => ?_) (k := 8) rfl fun h20 H20 => ?_
  ·rcases List.mem_append.1 hb with q | q
   ·exact hks b q
   ·obtain ⟨z, hz, rfl⟩ := List.mem_map.1 q
    exact (ok1.dp _ (ok1.cl x hxm z (hsub z (List.mem_of_mem_take hz)))).1
  ·rcases List.mem_append.1 hin with q | q
   ·exact coset_new ok1 ok2 hCm hxm hym c q
   ·obtain ⟨z, hz, e⟩ := List.mem_map.1 q
    have := coset_inj ok2 hdx (List.mem_of_mem_take hz) hym e
    subst this
    obtain ⟨j, hj⟩ := List.getElem?_of_mem hz
    have hjl := (List.getElem?_eq_some_iff.1 hj).1
    rw [List.length_take] at hjl
    rw [List.getElem?_take_of_lt (by omega)] at hj
    have := ord_lt ok2 hj hy (by omega)
    rw [uX] at this; cases this
  ·refine hE' _ _ _ [_, _] _ ?_ H20
   rw [htk, List.map_append, ← List.append_assoc]
   rfl
 ·subst hJ
  rw [List.take_of_length_le (Nat.le_refl _)] at H14
  rw [F39.t24_s, H14.load (k := 3) (i := 0) rfl rfl, sFx, H14.load (k := 0) (i := 0 + 0) rfl rfl, sFx, H14.load (k := 0) (i := 0 + 1) rfl rfl]
  refine clone106 _ (by rw [hdx.1.1]; omega) _ _ _ _ ?_
  rintro _ rfl _
  rw [H14.load (k := 0) (i := 0 + 1) rfl rfl, zB, sFx, zB, H14.load (k := 3) (i := 0) rfl rfl, zB, wP rfl rfl]
  refine H14.bslice (l := [encI x.1, .bool x.2]) rfl fun tb h15 nx15 H15 => ?_
  rw [H15.load (k := 4) (i := 0) rfl rfl, zB, sAppq_row]
  refine H15.appN (k := 3) (o := o) (c := 1) (esz := 2) (new := [encI x.1, .bool x.2]) rfl (HasArr.rd (l := [encI x.1, .bool x.2]) (n := 1) (e := 2) (H15.own _ (List.mem_cons_self ..)) rfl) rfl rfl (by decide) (by decide) (by have := hout i; omega) fun o'' h16 nx16 _ H16 => ?_
  refine H16.store (k := 4) rfl (by simp) (uJ _ _ _) fun h17 H17 => ?_
  refine hE _ _ _ [_, _] _ ⟨o'', ?_⟩ H17
  rw [hfl, List.length_append, flatG_snoc]
  have : cosU ((G.take i).filter (yH S) ++ [x]) S = cosU ((G.take i).filter (yH S)) S ++ S.map (zF x) := by simp [cosU]
  rw [this]
  rfl
end Go.Ev
namespace Go.Ev
open Go Go.Proofs
variable {B : Nat}
set_option maxRecDepth 100000
theorem clone106o {h0 h : T Blk} {nx p : Pa} {L : List Ob} {f : List Int} {K : Kw Prop} (hf : 0 < f.length) (hl : f.length ≤ 1000) (H : Hp h0 h nx L)
  (hK : ∀ id cap h' nx', d7 f.length cap → Hp h0 h' nx' (.arr id (f.map I) :: L) → K (.sl id 0 f.length cap 1) h' nx' = .ok True) : (CS Tryz.prog B).fn 106 p [encI f] h nx K = .ok True := by
 refine u6 (p := .of 106) (K := K) (zR zS dreg 9 fun hf => ?_) fun _ _ _ _ q => q
 cases f with
 | nil => simp at hf
 | cons x t =>
  rw [F106.go]
  have e : ∀ A C : OP, (sBin .eql (.nil .sl) (encI (x :: t)) .nils fun v1 => yD v1 A C) = C := fun A C => nr rfl
  rw [e]
  exact H.copyArrO (new := (x :: t).map I) (c := (x :: t).length) (fun e h1 n1 H1 => rdLst 1) (by simp) (List.all_eq_true.2 fun v hv => by obtain ⟨z, _, rfl⟩ := List.mem_map.1 hv; rfl) (by decide) (by omega) hK
def RowOwn (L : List Ob) (p : AV × Sym) : Prop := ∃ rid cap, p.1 = .sl rid 0 p.2.1.length cap 1 ∧ d7 p.2.1.length cap ∧ Ob.arr rid (p.2.1.map I) ∈ L
theorem RowOwn.mono {L L' : List Ob} {p : AV × Sym} (h : RowOwn L p) (hl : ∀ x ∈ L, x ∈ L') : RowOwn L' p := by
 obtain ⟨r, c, e, hc, m⟩ := h
 exact ⟨r, c, e, hc, hl _ m⟩
theorem frzArrN {h0 h : T Blk} {nx : Pa} {L : List Ob} {id : Pa} {l : List Int} {cap : Option Nat} (H : Hp h0 h nx L) (hm : Ob.arr id (l.map I) ∈ L) (hc : d7 l.length cap) : Frz False (fun _ => True) (fun _ => False) h (.sl id 0 l.length cap 1) (encI l) := by
 obtain ⟨op, t, h1, h2⟩ := H.own _ hm
 rw [List.length_map] at h1 h2
 refine .sl _ _ _ _ _ op _ t _ trivial hc h1 (by omega) (by simp) (List.all_eq_true.2 fun v hv => by obtain ⟨z, _, rfl⟩ := List.mem_map.1 hv; rfl) fun i v hi => ?_
 have hil : i < l.length := by have := (List.getElem?_eq_some_iff.1 hi).1; simpa using this
 have := yE t 0 l.length i hil
 rw [h2, hi] at this
 rw [← Option.some.inj this]
 obtain ⟨z, _, rfl⟩ := List.mem_map.1 (List.mem_of_getElem? hi)
 exact .int _ _
theorem frzOwn {h0 h : T Blk} {nx : Pa} {L : List Ob} {k n : Nat} {o : Option Pa} {out : List (AV × Sym)} (H : Hp h0 h nx L) (hk : L[k]? = some (.gro o 2 n (yV out))) (hr : ∀ p ∈ out, RowOwn L p) : Frz False (fun _ => True) (fun _ => False) h (rowV o 2 n) (encG (out.map (·.2))) := by
 have own := H.own _ (List.mem_of_getElem? hk)
 have hlen := kY out
 cases o with
 | none =>
  obtain ⟨e, rfl⟩ := own
  rw [e] at hlen
  obtain rfl : out = [] := List.eq_nil_of_length_eq_zero (by simp at hlen; omega)
  exact .lnils 2
 | some id =>
  obtain ⟨t, h1, h2, h3⟩ := own
  have hn : n = (out.map (·.2)).length := by rw [List.length_map]; omega
  subst hn
  refine .sl _ _ _ _ _ true _ t _ trivial trivial h1 (by omega) (j6 _) (List.all_eq_true.2 fun v hv => fixd.scal (qM v hv)) fun i v hi => ?_
  have hil : i < (out.map (·.2)).length * 2 := by have := (List.getElem?_eq_some_iff.1 hi).1; rwa [j6] at this
  have := yE t 0 ((out.map (·.2)).length * 2) i hil
  rw [h3, wH] at this
  rw [p5, List.getElem?_map] at hi
  cases hq : out[i / 2]? with
  | none => rw [hq] at hi; cases hi
  | some p =>
   rw [hq] at hi this
   obtain ⟨rid, cap, e, hc, hm⟩ := hr p (List.mem_of_getElem? hq)
   have hi := Option.some.inj hi
   have this := Option.some.inj this
   by_cases c : i % 2 = 0
   ·simp only [if_pos c] at hi this
    rw [← this, ← hi, e]
    exact frzArrN H hm hc
   ·simp only [if_neg c] at hi this
    rw [← this, ← hi]
    exact .bool _
theorem frz_tup2N {N : Pa → Prop} {O : AV → Prop} {A : Prop} {hh : T Blk} {a b a' b' : AV} (h1 : Frz A N O hh a a') (h2 : Frz A N O hh b b') : Frz A N O hh (.tup [a, b]) (.tup [a', b']) := by
 refine .tup _ _ rfl fun i v v' hi hi' => ?_
 match i with
 | 0 => simp at hi hi'; subst hi; subst hi'; exact h1
 | 1 => simp at hi hi'; subst hi; subst hi'; exact h2
 | i + 2 => simp at hi
theorem cosets39N {G S : List Sym} {n : Int} (hG : G.length ≤ 100000) (hw : ∀ g ∈ G, g.1.length ≤ 100000) (hS : S.length ≤ 100000) (hw2 : ∀ g ∈ S, g.1.length ≤ 100000) (hse0 : subE G S n = 0) (hn0 : 0 < n) : PureN Tryz.prog 39 [encG G, encG S, I n] (.tup [encG (cosL G S), I 0]) := by
 intro B K hK0
 have hK : ∀ v h' nx' L v', Hp .e h' nx' L → Frz False (fun _ => True) (fun _ => False) h' v v' → v' = .tup [encG (cosL G S), I 0] → K v h' nx' = .ok True := fun v h' nx' L v' _ hF e => hK0 _ _ _ (e ▸ hF)
 refine zR zS dreg 10000000 fun hf' => ?_
 have H0 : Hp .e .e .z [] := Hp.init hf'
 rw [F39.go, F39.t37, zA, F39.t0_s]
 refine H0.box (l := [encG S]) rfl fun b3 h1 nx1 H1 => ?_
 rw [F39.t36, zA, F39.t7, zA, F39.t1_s, H1.load (k := 0) (i := 0) rfl rfl]
 refine xE hG hw hS hw2 H1 (fun e h2 nx2 X he hne H2 => ?_) fun n' u1 q1 u2 q2 g o1 o2 h2 nx2 X hn ok1 ok2 hse _ _ _ _ _ _ _ _ hsub H2 => ?_
 ·rw [jD, jG, jX]
  refine H2.alloc fun b6 h3 nx3 H3 => ?_
  refine H3.storeN (k := 0) (n := 2) rfl rfl rfl fun h4 H4 => ?_
  rw [hse0] at he; exact absurd he hne
 subst hn
 have hn256 := ok1.n256
 have H2 : Hp .e h2 nx2 [.arr b3 [encG S]] := Hp.pre (_ :: _ :: _ :: X) H2
 rw [jD, jG, jX]
 refine H2.alloc fun b6 h3 nx3 H3 => ?_
 refine H3.storeN (k := 0) (n := 2) rfl rfl rfl fun h4 H4 => ?_
 rw [F39.t6, zA, F39.t2_s, sNeq, decide_eq_true rfl, Bool.not_true, F39.t5, zH, F39.v12, zE, zQ, F39.t35, zA, F39.t8_s]
 refine H4.mkmap fun gm h5 nx5 H5 => ?_
 refine H5.alloc fun b7 h6 nx6 H6 => ?_
 refine H6.store (k := 0) rfl (by simp) rfl fun h7 H7 => ?_
 rw [F39.t34, zA, F39.t9_s]
 refine H7.alloc fun b8 h8 nx8 H8 => ?_
 rw [F39.t33, zA, F39.t30, zA, F39.t10_s]
 refine mB _ _ _ _ ?_
 rintro _ rfl _
 rw [F39.t29, zP, F39.t28]
 have H9 := H8.addGro 2
 have T : ∃ T : List Ob, T = [.arr b6 [rowV o1 2 u1.length, rowV o2 2 u2.length], .arr b3 [encG S]] := ⟨_, rfl⟩
 obtain ⟨T, hT⟩ := T
 have hout : ∀ i, ((G.take i).filter (yH S)).length ≤ G.length := fun i => by
  have := List.length_filter_le (yH S) (G.take i)
  rw [List.length_take] at this; omega
 refine rfAll H9 F39.t28_f (fun v w k => F39.t28_b k) (by omega)
  (fun i L' => ∃ (o : Option Pa) (out : List (AV × Sym)) (rows : List Ob), out.map (·.2) = (G.take i).filter (yH S) ∧ (∀ p ∈ out, RowOwn rows p) ∧ L' = .gro o 2 out.length (yV out) :: .arr b8 [rowV o 2 out.length] :: .arr b7 [.map gm] :: .map gm (entS (cosU ((G.take i).filter (yH S)) S)) :: (T ++ rows))
  (fun _ => False) (fun _ _ => False) ⟨none, [], [], by simp, by simp, by subst hT; rfl⟩
  (fun i x Rb Rb' h10 nx10 L' M E O1 O2 hx hJ H10 hM hE hR hX => ?_) (fun h10 nx10 L' hJ H10 => ?_) (fun _ _ _ hX _ => hX.elim) (fun _ _ _ _ hX _ => hX.elim)
 case refine_2 =>
  obtain ⟨o, out, rows, ho, hr, rfl⟩ := hJ
  rw [List.take_of_length_le (Nat.le_refl _)] at H10 ho
  rw [F39.t32, zA, F39.t31_s, H10.load (k := 1) (i := 0) rfl rfl]
  simp only [zZ, yR]
  rw [F39.ret]
  refine hK _ _ _ _ (.tup [encG (cosL G S), I 0]) H10 (frz_tup2N ?_ (.int _ _)) rfl
  have := frzOwn (k := 0) H10 rfl fun p hp => (hr p hp).mono fun x hx => by simp [hx]
  rw [ho] at this
  exact this
 obtain ⟨o, out, rows, ho, hr, rfl⟩ := hJ
 have hol : out.length = ((G.take i).filter (yH S)).length := by rw [← ho, List.length_map]
 have hxm := List.mem_of_getElem? hx
 have hdx := ok1.dp x hxm
 have htake : G.take (i + 1) = G.take i ++ [x] := by rw [List.take_add_one, hx]; rfl
 have hCm : ∀ m ∈ (G.take i).filter (yH S), m ∈ G := fun m hm => List.mem_of_mem_take (List.mem_filter.1 hm).1
 have hks : ∀ b ∈ cosU ((G.take i).filter (yH S)) S, DS n' b := fun b hb => by
  obtain ⟨m, hm, c, hc, rfl⟩ := mem_cosU.1 hb
  exact (ok1.dp _ (ok1.cl m (hCm m hm) c (hsub c hc))).1
 rw [F39.t11_s]
 refine H10.alloc fun b9 h11 nx11 H11 => ?_
 refine H11.storeN (k := 0) (n := 2) rfl rfl rfl fun h12 H12 => ?_
 refine hM _ _ _ [_] H12 fun h13 H13 => ?_
 rw [F39.t27, zP, F39.t26, zA, F39.t14, zA, F39.t12_s, H13.load (k := 4) (i := 0) rfl rfl, H13.loadN (k := 0) (n := 2) rfl rfl]
 refine pV (a := x) hn256 hdx.1 hks H13 (k := 5) rfl ?_
 rw [F39.t13, zH, F39.v16]
 have hseen := coset_seen ok1 ok2 hsub hx
 by_cases c : x ∈ cosU ((G.take i).filter (yH S)) S
 ·rw [decide_eq_true c, zD, yX, jT]
  have hfl : (G.take (i + 1)).filter (yH S) = (G.take i).filter (yH S) := by
   rw [htake, List.filter_append, List.filter_cons_of_neg (by rw [hseen.1 c]; decide)]; simp
  exact hE _ _ _ [_] _ ⟨o, out, rows, by rw [hfl]; exact ho, hr, by rw [hfl]⟩ H13
 have hlx : yH S x = true := by
  cases q : yH S x with
  | true => rfl
  | false => exact absurd (hseen.2 q) c
 have hfl : (G.take (i + 1)).filter (yH S) = (G.take i).filter (yH S) ++ [x] := by
  rw [htake, List.filter_append, List.filter_cons_of_pos hlx]; rfl
 rw [decide_eq_false c, zE, zQ, F39.t25, zA, F39.t23, zA, F39.t15_s]
 subst hT
 rw [H13.load (k := 7) (i := 0) rfl rfl]
 refine mB _ _ _ _ ?_
 rintro _ rfl _
 rw [F39.t22, zP, F39.t21]
 refine rfAll H13 F39.t21_f (fun v w k => F39.t21_b k) (by omega)
  (fun k L' => L' = .arr b9 [encI x.1, .bool x.2] :: Rb' :: .gro o 2 out.length (yV out) :: .arr b8 [rowV o 2 out.length] :: .arr b7 [.map gm] :: .map gm (entS (cosU ((G.take i).filter (yH S)) S ++ (S.take k).map (zF x))) :: ([.arr b6 [rowV o1 2 u1.length, rowV o2 2 u2.length], .arr b3 [encG S]] ++ rows))
  (fun _ => False) (fun _ _ => False) (by simp)
  (fun k y Sb Sb' h14 nx14 L' M' E' O1' O2' hy hJ H14 hM' hE' hR' hX' => ?_) (fun h14 nx14 L' hJ H14 => ?_) (fun _ _ _ hX _ => hX.elim) (fun _ _ _ _ hX _ => hX.elim)
 ·subst hJ
  have hym := List.mem_of_getElem? hy
  have hdy := ok2.dp y hym
  have htk : S.take (k + 1) = S.take k ++ [y] := by rw [List.take_add_one, hy]; rfl
  have hxy : DS n' (zF x y) := (ok1.dp _ (ok1.cl x hxm y (hsub y hym))).1
  rw [F39.t16_s]
  refine H14.alloc fun b10 h15 nx15 H15 => ?_
  refine H15.storeN (k := 0) (n := 2) rfl rfl rfl fun h16 H16 => ?_
  refine hM' _ _ _ [_] H16 fun h17 H17 => ?_
  rw [F39.t20, zP, F39.t19, zA, F39.t17_s, H17.loadN (k := 2) (n := 2) rfl rfl, H17.loadN (k := 0) (n := 2) rfl rfl]
  refine xP (a := x) (b := y) (fun z hz => by rw [hdx.1.1]; exact hdy.1.2 z hz) (by rw [hdy.1.1]; omega) _ _ _ _ ?_
  rintro _ rfl _
  refine H17.alloc fun b11 h18 nx18 H18 => ?_
  refine H18.storeN (k := 0) (n := 2) rfl rfl rfl fun h19 H19 => ?_
  rw [F39.t18_s, H19.load (k := 7) (i := 0) rfl rfl, H19.loadN (k := 0) (n := 2) rfl rfl, H19.loadN (k := 0) (n := 2) rfl rfl]
  refine pS (a := zF x y) (fun z hz => by have := hxy.2 z hz; omega) (by rw [hxy.1]; omega) _ _ _ _ ?_
  rintro _ rfl _
  rw [H19.loadN (k := 0) (n := 2) rfl rfl, zB, H19.load (k := 7) (i := 0) rfl rfl, zB]
  refine H19.putS (a := zF x y) hn256 hxy (fun b hb => ?_) (fun hin => ?_) (k := 8) rfl fun h20 H20 => ?_
  ·rcases List.mem_append.1 hb with q | q
   ·exact hks b q
   ·obtain ⟨z, hz, rfl⟩ := List.mem_map.1 q
    exact (ok1.dp _ (ok1.cl x hxm z (hsub z (List.mem_of_mem_take hz)))).1
  ·rcases List.mem_append.1 hin with q | q
   ·exact coset_new ok1 ok2 hCm hxm hym c q
   ·obtain ⟨z, hz, e⟩ := List.mem_map.1 q
    have := coset_inj ok2 hdx (List.mem_of_mem_take hz) hym e
    subst this
    obtain ⟨j, hj⟩ := List.getElem?_of_mem hz
    have hjl := (List.getElem?_eq_some_iff.1 hj).1
    rw [List.length_take] at hjl
    rw [List.getElem?_take_of_lt (by omega)] at hj
    have := ord_lt ok2 hj hy (by omega)
    rw [uX] at this; cases this
  ·refine hE' _ _ _ [_, _] _ ?_ H20
   rw [htk, List.map_append, ← List.append_assoc]
   rfl
 ·subst hJ
  rw [List.take_of_length_le (Nat.le_refl _)] at H14
  rw [F39.t24_s, H14.load (k := 3) (i := 0) rfl rfl, sFx, H14.load (k := 0) (i := 0 + 0) rfl rfl, sFx, H14.load (k := 0) (i := 0 + 1) rfl rfl]
  refine clone106o (f := x.1) (by rw [hdx.1.1]; omega) (by rw [hdx.1.1]; omega) H14 fun rid cap h15 nx15 hcap H15 => ?_
  rw [H15.load (k := 1) (i := 0 + 1) rfl rfl, zB, sFx, zB, H15.load (k := 4) (i := 0) rfl rfl, zB, wP rfl rfl]
  refine H15.bslice (l := [.sl rid 0 x.1.length cap 1, .bool x.2]) rfl fun tb h16 nx16 H16 => ?_
  rw [H16.load (k := 5) (i := 0) rfl rfl, zB, sAppq_row]
  refine H16.appN (k := 4) (o := o) (c := 1) (esz := 2) (new := [.sl rid 0 x.1.length cap 1, .bool x.2]) rfl (HasArr.rd (l := [.sl rid 0 x.1.length cap 1, .bool x.2]) (n := 1) (e := 2) (H16.own _ (List.mem_cons_self ..)) rfl) rfl rfl (by decide) (by decide) (by have := hout i; omega) fun o'' h17 nx17 _ H17 => ?_
  refine H17.store (k := 5) rfl (by simp) (uJ _ _ _) fun h18 H18 => ?_
  have hp : Hp .e h18 nx17 ([.arr tb [.sl rid 0 x.1.length cap 1, .bool x.2], .arr b9 [encI x.1, .bool x.2]] ++ Rb' :: (.gro o'' 2 (out.length + 1) (yV out ++ [.sl rid 0 x.1.length cap 1, .bool x.2]) :: .arr b8 [rowV o'' 2 (out.length + 1)] :: .arr b7 [.map gm] :: .map gm (entS (cosU ((G.take i).filter (yH S)) S ++ S.map (zF x))) :: ([.arr b6 [rowV o1 2 u1.length, rowV o2 2 u2.length], .arr b3 [encG S]] ++ (.arr rid (x.1.map I) :: rows)))) := by
   refine H18.perm ?_
   show List.Perm (_ :: _ :: _ :: _ :: _ :: _ :: _ :: _ :: _ :: _ :: rows) (_ :: _ :: _ :: _ :: _ :: _ :: _ :: _ :: _ :: _ :: rows)
   exact .cons _ (List.perm_middle (l₁ := [_, _, _, _, _, _, _, _]) (a := Ob.arr rid (x.1.map I)) (l₂ := rows)).symm
  refine hE _ _ _ [_, _] _ ⟨o'', out ++ [(.sl rid 0 x.1.length cap 1, x)], .arr rid (x.1.map I) :: rows, ?_, ?_, ?_⟩ hp
  ·rw [List.map_append, ho, hfl]; rfl
  ·intro p hp
   rcases List.mem_append.1 hp with q | q
   ·exact (hr p q).mono fun z hz => List.mem_cons_of_mem _ hz
   ·obtain rfl := List.mem_singleton.1 q
    exact ⟨rid, cap, rfl, hcap, List.mem_cons_self ..⟩
  ·rw [hfl]
   have e1 : cosU ((G.take i).filter (yH S) ++ [x]) S = cosU ((G.take i).filter (yH S)) S ++ S.map (zF x) := by simp [cosU]
   have e2 : yV (out ++ [(.sl rid 0 x.1.length cap 1, x)]) = yV out ++ [.sl rid 0 x.1.length cap 1, .bool x.2] := by unfold yV; rw [List.flatMap_append]; rfl
   rw [e1, e2, List.length_append]
   subst_vars
   rfl
end Go.Ev
namespace Go.Ev
theorem sub_permG {α : Type} [DecidableEq α] : ∀ (l r : List α), l.Nodup → (∀ x ∈ l, x ∈ r) → ∃ s, r.Perm (l ++ s)
 | [], r, _, _ => ⟨r, .refl _⟩
 | a :: l, r, hn, hs => by
  obtain ⟨h1, h2⟩ := List.nodup_cons.1 hn
  have ha := hs a (by simp)
  obtain ⟨s, hp⟩ := sub_permG l (r.erase a) h2 fun x hx => (List.mem_erase_of_ne (by rintro rfl; exact h1 hx)).2 (hs x (by simp [hx]))
  exact ⟨s, (List.perm_cons_erase ha).trans (.cons a hp)⟩
theorem perm_of_sub {α : Type} [DecidableEq α] {l r : List α} (h1 : l.Nodup) (h2 : ∀ x ∈ l, x ∈ r) (h3 : r.length ≤ l.length) : r.Perm l := by
 obtain ⟨s, hs⟩ := sub_permG l r h1 h2
 have hl := hs.length_eq
 obtain rfl : s = [] := List.eq_nil_of_length_eq_zero (by rw [List.length_append] at hl; omega)
 simpa using hs
theorem nodup_get {α : Type} {l : List α} (h : l.Nodup) {i j : Nat} {x : α} (hi : l[i]? = some x) (hj : l[j]? = some x) : i = j := by
 obtain ⟨a1, a2⟩ := List.getElem?_eq_some_iff.1 hi
 obtain ⟨b1, b2⟩ := List.getElem?_eq_some_iff.1 hj
 have hp := List.pairwise_iff_getElem.1 h
 rcases Nat.lt_trichotomy i j with c | c | c
 ·exact absurd (a2.trans b2.symm) (hp i j a1 b1 c)
 ·exact c
 ·exact absurd (b2.trans a2.symm) (hp j i b1 a1 c)
theorem getD_some {l : List Int} {i : Nat} (h : i < l.length) : l[i]? = some (l.getD i 0) := by
 rw [List.getD_eq_getElem?_getD, List.getElem?_eq_getElem h]; rfl
theorem PermL.surj {g : List Int} (h : PermL g) {j : Nat} (hj : j < g.length) : ∃ i, i < g.length ∧ g[i]? = some (j : Int) := by
 have hp : ((List.range g.length).map fun (i : Nat) => (i : Int)).Perm g := perm_of_sub h.1 (fun x hx => by
  have := h.2 x hx
  exact List.mem_map.2 ⟨x.toNat, List.mem_range.2 (by omega), by omega⟩) (by simp)
 have hm : (j : Int) ∈ g := hp.mem_iff.1 (List.mem_map.2 ⟨j, List.mem_range.2 hj, rfl⟩)
 obtain ⟨i, hi⟩ := List.mem_iff_getElem?.1 hm
 exact ⟨i, (List.getElem?_eq_some_iff.1 hi).1, hi⟩
theorem applyP_get {n : Nat} {c : Bool} {g f : List Int} (hg : PermL g) (hgn : g.length = n) : ∀ (i k : Nat), i ≤ n → k < i → (uO n c g f i)[(g.getD k 0).toNat]? = some (xOf n c (f.getD k 0))
 | 0, k, _, h => by omega
 | i + 1, k, hi, h => by
  rw [qV]
  have hk := hg.2 _ (List.mem_of_getElem? (getD_some (l := g) (i := k) (by omega)))
  have hi' := hg.2 _ (List.mem_of_getElem? (getD_some (l := g) (i := i) (by omega)))
  by_cases e : k = i
  ·subst e
   rw [List.getElem?_set, if_pos rfl, if_pos (by rw [jV]; omega)]
  ·rw [List.getElem?_set_ne, applyP_get hg hgn i k (by omega) (by omega)]
   intro q
   have e1 : g.getD i 0 = g.getD k 0 := by omega
   have := nodup_get hg.1 (getD_some (l := g) (i := i) (by omega)) (e1 ▸ getD_some (l := g) (i := k) (by omega))
   omega
theorem applyS_get {c : Bool} {g f : List Int} (hg : PermL g) (hgn : g.length = f.length) {k : Nat} (h : k < f.length) : (dD c g f)[(g.getD k 0).toNat]? = some (xOf f.length c (f.getD k 0)) := applyP_get hg hgn _ k (Nat.le_refl _) h
end Go.Ev
namespace Go.Ev
theorem apply_len (c : Bool) (g f : List Int) : (dD c g f).length = f.length := jV _ _ _ _ _
theorem DP.surj {n : Nat} {a : Sym} (ha : DP n a) {j : Nat} (hj : j < n) : ∃ i, i < n ∧ a.1.getD i 0 = (j : Int) := by
 have h1 := ha.1.1
 obtain ⟨i, hi, e⟩ := ha.perm.surj (show j < a.1.length by omega)
 exact ⟨i, by omega, by rw [List.getD_eq_getElem?_getD, e]; rfl⟩
def idL (n : Nat) : List Int := (List.range n).map fun j : Nat => (j : Int)
theorem dU (n : Nat) : (idL n).length = n := by simp [idL]
theorem idL_get {n i : Nat} (h : i < n) : (idL n).getD i 0 = (i : Int) := by
 rw [idL, List.getD_eq_getElem?_getD, List.getElem?_map, List.getElem?_range h]; rfl
def invS (a : Sym) : Sym := (dD false a.1 (idL a.1.length), a.2)
theorem inv_get {n : Nat} {a : Sym} (ha : DP n a) {k : Nat} (hk : k < n) : (invS a).1[(a.1.getD k 0).toNat]? = some (k : Int) := by
 have h1 := ha.1.1
 have := applyS_get (c := false) ha.perm (f := idL a.1.length) (by rw [dU]) (k := k) (by rw [dU]; omega)
 rw [idL_get (by omega)] at this
 exact this
theorem wU {n : Nat} {a : Sym} (ha : DP n a) : DP n (invS a) := by
 have h1 := ha.1.1
 have hl : (invS a).1.length = n := by show (dD _ _ _).length = n; rw [apply_len, dU, h1]
 have hv : ∀ j, j < n → ∃ i, i < n ∧ a.1.getD i 0 = (j : Int) ∧ (invS a).1[j]? = some (i : Int) := fun j hj => by
  obtain ⟨i, hi, e⟩ := ha.surj hj
  have := inv_get ha hi
  rw [e, Int.toNat_natCast] at this
  exact ⟨i, hi, e, this⟩
 refine ⟨⟨hl, fun x hx => ?_⟩, ?_⟩
 ·obtain ⟨j, hj⟩ := List.getElem?_of_mem hx
  obtain ⟨i, hi, _, e⟩ := hv j (by rw [← hl]; exact (List.getElem?_eq_some_iff.1 hj).1)
  rw [hj] at e; cases e; omega
 ·rw [List.Nodup, List.pairwise_iff_getElem]
  intro i j hi hj hij e
  obtain ⟨a1, _, b1, c1⟩ := hv i (by omega)
  obtain ⟨a2, _, b2, c2⟩ := hv j (by omega)
  rw [List.getElem?_eq_getElem hi] at c1
  rw [List.getElem?_eq_getElem hj] at c2
  have e1 := Option.some.inj c1
  have e2 := Option.some.inj c2
  have : a1 = a2 := by omega
  subst this
  rw [b1] at b2
  omega
theorem inv_l {n : Nat} {a : Sym} (ha : DP n a) : zF (invS a) a = idS n := by
 refine Prod.ext (vC (n := n) (by show (uW _ _).length = n; rw [gV, ha.1.1]) (by simp [idS]) fun i hi => ?_) (by show (a.2 != a.2) = false; cases a.2 <;> rfl)
 rw [uR ha.1 hi, List.getD_eq_getElem?_getD (l := (invS a).1), inv_get ha hi]
 show some (i : Int) = ((List.range n).map fun j : Nat => (j : Int))[i]?
 rw [List.getElem?_map, List.getElem?_range hi]; rfl
theorem inv_r {n : Nat} {a : Sym} (ha : DP n a) : zF a (invS a) = idS n := by
 have L := jM n
 have hb := wU ha
 have hc := wU hb
 have e1 := inv_l ha
 have e2 := inv_l hb
 have : a = invS (invS a) := by
  have q := L.assoc (invS (invS a)) (invS a) a hc hb ha
  rw [e2, e1, L.el a ha, L.er _ hc] at q
  exact q
 rw [show zF a (invS a) = zF (invS (invS a)) (invS a) by rw [← this]]
 exact e2
theorem inv_uniq {n : Nat} {a b : Sym} (ha : DP n a) (hb : DP n b) (h : zF a b = idS n) : b = invS a := by
 have L := jM n
 have hi := wU ha
 have q := L.assoc (invS a) a b hi ha hb
 rw [inv_l ha, h, L.el b hb, L.er _ hi] at q
 exact q
def conj (a b : Sym) : Sym := zF (zF a b) (invS a)
theorem conj_mul {n : Nat} {a b c : Sym} (ha : DP n a) (hb : DP n b) (hc : DP n c) : conj a (zF b c) = zF (conj a b) (conj a c) := by
 have L := jM n
 have hi := wU ha
 have hab := L.dm a b ha hb
 have hac := L.dm a c ha hc
 have hci := L.dm _ _ hac hi
 unfold conj
 rw [L.assoc (zF a b) (invS a) (zF (zF a c) (invS a)) hab hi hci, ← L.assoc (invS a) (zF a c) (invS a) hi hac hi, ← L.assoc (invS a) a c hi ha hc, inv_l ha, L.el c hc, ← L.assoc (zF a b) c (invS a) hab hc hi, L.assoc a b c ha hb hc]
theorem conj_comp {n : Nat} {a b c : Sym} (ha : DP n a) (hb : DP n b) (hc : DP n c) : conj (zF a b) c = conj a (conj b c) := by
 have L := jM n
 have hia := wU ha
 have hib := wU hb
 have hab := L.dm a b ha hb
 have e : invS (zF a b) = zF (invS b) (invS a) := by
  refine (inv_uniq hab (L.dm _ _ hib hia) ?_).symm
  rw [L.assoc a b _ ha hb (L.dm _ _ hib hia), ← L.assoc b (invS b) (invS a) hb hib hia, inv_r hb, L.el _ hia, inv_r ha]
 have hbc := L.dm b c hb hc
 unfold conj
 rw [e, L.assoc a b c ha hb hc, ← L.assoc (zF a (zF b c)) (invS b) (invS a) (L.dm _ _ ha hbc) hib hia, L.assoc a (zF b c) (invS b) ha hbc hib]
theorem conj_dp {n : Nat} {a b : Sym} (ha : DP n a) (hb : DP n b) : DP n (conj a b) := (jM n).dm _ _ ((jM n).dm _ _ ha hb) (wU ha)
def normB (G S : List Sym) : Bool := G.all fun a => S.all fun b => decide (conj a b ∈ S)
theorem normB_gen {G S u1 q1 u2 q2 : List Sym} {n : Nat} (hG : GrOk G n) (hS : GrOk S n) (hu1 : ∀ c ∈ u1, c ∈ G) (h1 : CloS n u1 q1) (hq1 : ∀ a, a ∈ q1 ↔ a ∈ G) (hu2 : ∀ c ∈ u2, c ∈ S) (h2 : CloS n u2 q2) (hq2 : ∀ a, a ∈ q2 ↔ a ∈ S) :
  (u1.all fun a => u2.all fun b => decide (conj a b ∈ S)) = normB G S := by
 rw [Bool.eq_iff_iff]
 simp only [normB, List.all_eq_true, decide_eq_true_eq]
 have L := jM n
 constructor
 ·intro h
  have k1 : ∀ a ∈ u1, ∀ b ∈ S, conj a b ∈ S := fun a ha b hb => by
   have da := hG.dp a (hu1 a ha)
   have := h2.ind (fun b => DP n b ∧ conj a b ∈ S) ⟨L.de, by unfold conj; rw [L.er a da, inv_r da]; exact hS.one⟩ (fun x hx c hc => by
    have dc := hS.dp c (hu2 c hc)
    exact ⟨L.dm _ _ dc hx.1, by rw [conj_mul da dc hx.1]; exact hS.cl _ (h a ha c hc) _ hx.2⟩) b ((hq2 b).2 hb)
   exact this.2
  intro a ha
  have := h1.ind (fun a => DP n a ∧ ∀ b ∈ S, conj a b ∈ S) ⟨L.de, fun b hb => by
   have e : invS (idS n) = idS n := (inv_uniq L.de L.de (L.el _ L.de)).symm
   unfold conj
   rw [e, L.er _ (L.dm _ _ L.de (hS.dp b hb)), L.el b (hS.dp b hb)]; exact hb⟩ (fun x hx c hc => by
    have dc := hG.dp c (hu1 c hc)
    exact ⟨L.dm _ _ dc hx.1, fun b hb => by rw [conj_comp dc hx.1 (hS.dp b hb)]; exact k1 c hc _ (hx.2 b hb)⟩) a ((hq1 a).2 ha)
  exact this.2
 ·intro h a ha b hb
  exact h a (hu1 a ha) b (hu2 b hb)
end Go.Ev
namespace Go.Ev
open Go Go.Proofs
variable {B : Nat}
set_option maxRecDepth 100000
theorem inv124 {a : Sym} {n : Nat} (ha : DP n a) (hn : n ≤ 1000) : Pure Tryz.prog B 124 [encS a] (· = encS (invS a)) := by
 have hl := ha.1.1
 refine yI fun h nx K H0 hK => zR zS dreg 10000 fun hf' => ?_
 rw [F124.go, F124.t20, zA, F124.t0_s]
 refine H0.box (l := [encI a.1, .bool a.2]) rfl fun b1 h1 nx1 H1 => ?_
 refine H1.alloc fun b2 h2 nx2 H2 => ?_
 have ld0 : ∀ {hh nn L'} (HH : Hp h hh nn (L' ++ [.arr b2 [.nils, .bool false], .arr b1 [encI a.1, .bool a.2]])) (op : AV → OP), zG (.ptr b1 (0 + 0)) hh op = op (encI a.1) := fun {hh nn L'} HH op => HH.load (k := L'.length + 1) (i := 0) (l := [encI a.1, .bool a.2]) (by rw [List.getElem?_append_right (by omega)]; simp) rfl
 have ld1 : ∀ {hh nn L'} (HH : Hp h hh nn (L' ++ [.arr b2 [.nils, .bool false], .arr b1 [encI a.1, .bool a.2]])) (op : AV → OP), zG (.ptr b1 (0 + 1)) hh op = op (.bool a.2) := fun {hh nn L'} HH op => HH.load (k := L'.length + 1) (i := 1) (l := [encI a.1, .bool a.2]) (by rw [List.getElem?_append_right (by omega)]; simp) rfl
 have mk : mkSl 8 (I (a.1.length : Int)) (I (a.1.length : Int)) = true := by
  show (Nat.ble a.1.length a.1.length && Nat.ble a.1.length 1000000 && Nat.ble (8 * a.1.length) 281474976710656) = true
  rw [Nat.ble_eq_true_of_le (Nat.le_refl _), Nat.ble_eq_true_of_le (by omega), Nat.ble_eq_true_of_le (by omega)]; rfl
 rw [F124.t19, zA, F124.t1_s]
 simp only [Bool.and_self, jQ, sFx]
 rw [ld0 (L' := []) H2, zL, mk]
 simp only [Bool.and_self, jQ]
 rw [ld1 (L' := []) H2]
 refine H2.mk1 a.1.length rfl rfl (by omega) (by decide) fun tb h3 nx3 H3 => ?_
 rw [ld1 (L' := [_]) H3]
 simp only [zB, zL]
 rw [ld0 (L' := [_]) H3]
 try simp only [zB]
 rw [wP rfl rfl]
 refine H3.alloc fun b3 h4 nx4 H4 => ?_
 rw [wP rfl rfl]
 try simp only [zB]
 rw [ld1 (L' := [_, _]) H4]
 try simp only [zB, zL]
 rw [ld0 (L' := [_, _]) H4]
 try simp only [zB]
 refine H4.storeN (k := 0) (n := 2) rfl rfl rfl fun h5 H5 => ?_
 rw [F124.t18, zA, F124.t15, zA, F124.t2_s, sFx, ld0 (L' := [_, _]) H5, zL]
 have e0 : List.replicate a.1.length (I 0) = (uO a.1.length false a.1 (idL a.1.length) 0).map I := by simp [uO]
 rw [e0] at H5
 rw [F124.t14, zP]
 refine F124.t13_L (fun m x8 h' nx' => ∃ i : Nat, x8 = I i ∧ m = a.1.length - i ∧ i ≤ a.1.length ∧ Hp h h' nx' [.arr b3 [.sl tb 0 a.1.length (some a.1.length) 1, .bool a.2], .arr tb ((uO a.1.length false a.1 (idL a.1.length) i).map I), .arr b2 [.nils, .bool false], .arr b1 [encI a.1, .bool a.2]]) (m := a.1.length) (by omega)
  ⟨0, rfl, by omega, by omega, H5⟩ ?_
 rintro m z4 z5 z8 z9 h6 nx6 R ⟨i, rfl, rfl, hi, H6⟩ hR
 rw [F124.t12, zA, F124.t3_s, sLss]
 by_cases hlt : i < a.1.length
 case neg =>
  rw [decide_eq_false (by omega), F124.t11, zA, F124.t4, zH, F124.v9, zE, yX, jT, F124.t17, zA, F124.t16_s, H6.loadN (k := 0) (n := 2) rfl rfl]
  refine H6.storeN (k := 2) (n := 2) rfl rfl rfl fun h7 H7 => ?_
  simp only [zZ, yR]
  rw [F124.ret, H7.loadN (k := 2) (n := 2) rfl rfl]
  obtain rfl : i = a.1.length := by omega
  have hal := jV a.1.length false a.1 (idL a.1.length) a.1.length
  have e : invS a = (uO a.1.length false a.1 (idL a.1.length) a.1.length, a.2) := by
   unfold invS dD; rw [dU]
  refine hK _ _ _ _ (encS (invS a)) H7 (dW ?_ (zJ rfl) rfl) rfl
  rw [e]
  have := H7.frzArr (k := 1) (e := 1) (n := a.1.length) (cap := some a.1.length) rfl (Nat.le_refl _) (by simp [hal]) fixdI
  show FrzN h h7 _ (AV.lst 1 (uO _ _ _ _ _).length _)
  rw [hal]
  exact this
 rw [decide_eq_true (by omega), F124.t11, zA, F124.t4, zH, F124.v9, zD, zQ]
 have hx : a.1[i]? = some a.1[i] := List.getElem?_eq_getElem hlt
 have hgb := ha.perm.2 _ (List.getElem_mem hlt)
 have hgd : a.1.getD i 0 = a.1[i] := by rw [List.getD_eq_getElem?_getD, hx]; rfl
 rw [F124.t10, zA, F124.t8, zP, F124.t7, zA, F124.t5_s, sIxL rfl hlt, ldL (getI hx), F124.t6_s, sFx, H6.load (k := 0) (i := 0 + 0) rfl rfl, sIx (i := (a.1[i]).toNat) (by omega) (by omega)]
 refine H6.store (k := 1) rfl (by rw [List.length_map, jV]; omega) rfl fun h7 H7 => ?_
 rw [F124.t9_s, sAdd (by omega)]
 refine hR _ _ _ _ _ _ _ (by omega) ⟨i + 1, rfl, rfl, by omega, H7.cast ?_⟩
 rw [qV, hgd, idL_get hlt]
 simp [List.map_set, xOf]
theorem inv141 {l : List Int} (hp : PermL l) (hn : l.length ≤ 1000) : Pure Tryz.prog B 141 [encI l] (· = encI (dD false l (idL l.length))) := by
 refine yI fun h nx K H0 hK => zR zS dreg 10000 fun hf' => ?_
 rw [F141.go, F141.t18, zA, F141.t0_s, F141.t17, zA, F141.t1_s, zL]
 refine H0.mk1 l.length rfl rfl (by omega) (by decide) fun tb h1 nx1 H1 => ?_
 have e0 : List.replicate l.length (I 0) = (uO l.length false l (idL l.length) 0).map I := by simp [uO]
 rw [e0] at H1
 rw [F141.t16, zA, F141.t13, zA, F141.t2_s, F141.t12, zP]
 refine F141.t11_L (fun m x3 h' nx' => ∃ i : Nat, x3 = I i ∧ m = l.length - i ∧ i ≤ l.length ∧ Hp h h' nx' [.arr tb ((uO l.length false l (idL l.length) i).map I)]) (m := l.length) (by omega)
  ⟨0, rfl, by omega, by omega, H1⟩ ?_
 rintro m z3 z4 h6 nx6 R ⟨i, rfl, rfl, hi, H6⟩ hR
 rw [F141.t10, zA, F141.t5, zA, F141.t3_s, zL, sLss]
 by_cases hlt : i < l.length
 case neg =>
  rw [decide_eq_false (by omega), F141.t4, zH, F141.v4, zE, yX, jT, F141.t15, zA, F141.t14_s]
  simp only [zZ, yR]
  rw [F141.ret]
  obtain rfl : i = l.length := by omega
  have hal := jV l.length false l (idL l.length) l.length
  refine hK _ _ _ _ _ H6 (H6.frzArr (k := 0) (e := 1) rfl (Nat.le_refl _) (by simp [hal]) fixdI) ?_
  show _ = AV.lst 1 _ _
  rw [dD, dU, hal]
 rw [decide_eq_true (by omega), F141.t4, zH, F141.v4, zD, zQ]
 have hx : l[i]? = some l[i] := List.getElem?_eq_getElem hlt
 have hgb := hp.2 _ (List.getElem_mem hlt)
 have hgd : l.getD i 0 = l[i] := by rw [List.getD_eq_getElem?_getD, hx]; rfl
 rw [F141.t9, zA, F141.t7, zP, F141.t6_s, sIxL rfl hlt, ldL (getI hx), sIx (i := (l[i]).toNat) (by omega) (by omega)]
 refine H6.store (k := 0) rfl (by rw [List.length_map, jV]; omega) rfl fun h7 H7 => ?_
 rw [F141.t8_s, sAdd (by omega)]
 refine hR _ _ _ _ _ (by omega) ⟨i + 1, rfl, rfl, by omega, H7.cast ?_⟩
 rw [qV, hgd, idL_get hlt]
 simp [List.map_set, xOf]
theorem inv63 {a : Sym} (hp : PermL a.1) (hn : a.1.length ≤ 1000) : Pure Tryz.prog B 63 [encS a] (· = encS (invS a)) := by
 refine yI fun h nx K H0 hK => zR zS dreg 10000 fun hf' => ?_
 rw [F63.go, F63.t3, zA, F63.t0_s]
 refine H0.box (l := [encI a.1, .bool a.2]) rfl fun b1 h1 nx1 H1 => ?_
 refine H1.alloc fun b2 h2 nx2 H2 => ?_
 rw [F63.t2, zA, F63.t1_s, sFx, H2.load (k := 1) (i := 0 + 0) rfl rfl, sFx, H2.load (k := 1) (i := 0 + 1) rfl rfl]
 (refine inv141 hp hn _ _ _ _ ?_; rintro _ rfl _)
 rw [H2.load (k := 1) (i := 0 + 1) rfl rfl, zB, sFx, zB, wP rfl rfl]
 refine H2.storeN (k := 0) (n := 2) rfl rfl rfl fun h3 H3 => ?_
 simp only [zZ, yR]
 rw [F63.ret, H3.loadN (k := 0) (n := 2) rfl rfl]
 exact hK _ _ _ _ (encS (invS a)) H3 (frz_encS (invS a)) rfl
def nrmV (G S : List Sym) (n : Int) : AV := if subE G S n ≠ 0 then .tup [.bool false, I (subE G S n)] else .tup [.bool (normB G S), I 0]
theorem gE {α : Type} {l : List α} {p : α → Bool} {i : Nat} {x : α} (hx : l[i]? = some x) (h : (l.take i).all p = true) (hp : p x = true) : (l.take (i + 1)).all p = true := by
 rw [List.take_add_one, hx, List.all_append, h]; simp [hp]
theorem uZ {α : Type} {l : List α} {p : α → Bool} (h : (l.take l.length).all p = true) : l.all p = true := by rwa [List.take_of_length_le (Nat.le_refl _)] at h
theorem isNormal40 {G S : List Sym} {n : Int} (hG : G.length ≤ 100000) (hw : ∀ g ∈ G, g.1.length ≤ 100000) (hS : S.length ≤ 100000) (hw2 : ∀ g ∈ S, g.1.length ≤ 100000) : Pure Tryz.prog B 40 [encG G, encG S, I n] (· = nrmV G S n) := by
 refine yI fun h nx K H0 hK => zR zS dreg 10000000 fun hf' => ?_
 rw [F40.go, F40.t43, zA, F40.t0_s, F40.t42, zA, F40.t1_s]
 refine xE hG hw hS hw2 H0 (fun e h2 nx2 X he hne H2 => ?_) fun n' u1 q1 u2 q2 g o1 o2 h2 nx2 X hn ok1 ok2 hse hu1 hul1 hC1 hq1 hu2 hul2 hC2 hq2 hsub H2 => ?_
 ·rw [jD, jG, jX]
  refine H2.alloc fun b6 h3 nx3 H3 => ?_
  refine H3.storeN (k := 0) (n := 2) rfl rfl rfl fun h4 H4 => ?_
  rw [F40.t41, zA, F40.t6, zA, F40.t2_s, sNeq, decide_eq_false hne, Bool.not_false, F40.t5, zH, F40.v10, zD, F40.t4, zA, F40.t3_s]
  simp only [zZ, yR]
  rw [F40.ret]
  exact hK _ _ _ _ _ H4 (kE (zJ rfl) (zJ rfl)) (by rw [nrmV, ← he, if_pos hne])
 subst hn
 have hn256 := ok1.n256
 have hgen := normB_gen ok1 ok2 hu1 hC1 hq1 hu2 hC2 hq2
 rw [jD, jG, jX]
 refine H2.alloc fun b6 h3 nx3 H3 => ?_
 refine H3.storeN (k := 0) (n := 2) rfl rfl rfl fun h4 H4 => ?_
 rw [F40.t41, zA, F40.t6, zA, F40.t2_s, sNeq, decide_eq_true rfl, Bool.not_true, F40.t5, zH, F40.v10, zE, zQ, F40.t40, zA, F40.t37, zA, F40.t7_s, sAx0, H4.load (k := 0) (i := 0) rfl rfl, H4.groLen (k := 3) rfl]
 have hd2 : ∀ b ∈ q2, DS n' b := fun b hb => (ok2.dp b ((hq2 b).1 hb)).1
 have no : ∀ {h' nx' L'}, Hp h h' nx' L' → (∃ a ∈ u1, ∃ b ∈ u2, conj a b ∉ S) → K (.tup [.bool false, I 0]) h' nx' = .ok True := fun H' ⟨a, ha, b, hb, hc⟩ => by
  refine hK _ _ _ _ _ H' (kE (zJ rfl) (zJ rfl)) ?_
  rw [nrmV, hse, if_neg (by decide), ← hgen]
  congr 3
  refine (Bool.eq_false_iff.2 fun q => ?_).symm
  have := List.all_eq_true.1 (List.all_eq_true.1 q a ha) b hb
  exact hc (of_decide_eq_true this)
 rw [F40.t36, zP]
 refine F40.t35_L (fun m x13 h' nx' => ∃ i : Nat, x13 = I i ∧ m = u1.length - i ∧ i ≤ u1.length ∧ (u1.take i).all (fun a => u2.all fun b => decide (conj a b ∈ S)) = true ∧ Hp h h' nx' (.arr b6 [rowV o1 2 u1.length, rowV o2 2 u2.length] :: .map g (entS q2) :: .gro o2 2 u2.length (zV u2) :: .gro o1 2 u1.length (zV u1) :: (X ++ []))) (m := u1.length) (by omega)
  ⟨0, rfl, by omega, by omega, by simp, H4⟩ ?_
 rintro m z3 z4 z8 z9 z13 z14 z15 z16 z17 z18 z19 h6 nx6 R ⟨i, rfl, rfl, hi, hal, H6⟩ hR
 rw [F40.t34, zA, F40.t8_s, sLss]
 by_cases hlt : i < u1.length
 case neg =>
  rw [decide_eq_false (by omega), F40.t33, zA, F40.t9, zH, F40.v14, zE, yX, jT, F40.t39, zA, F40.t38_s]
  simp only [zZ, yR]
  rw [F40.ret]
  obtain rfl : i = u1.length := by omega
  exact hK _ _ _ _ _ H6 (kE (zJ rfl) (zJ rfl)) (by rw [nrmV, hse, if_neg (by decide), ← hgen, uZ hal])
 rw [decide_eq_true (by omega), F40.t33, zA, F40.t9, zH, F40.v14, zD, zQ, F40.t32, zA, F40.t30, zP, F40.t29, zA, F40.t10_s]
 have hx : u1[i]? = some u1[i] := List.getElem?_eq_getElem hlt
 have hxm := List.mem_of_getElem? hx
 have hdx := ok1.dp _ (hu1 _ hxm)
 obtain ⟨iu, ou, e1, e2⟩ := groIx2 (k := 3) H6 rfl hx
 rw [e1, e2]
 refine H6.alloc fun b8 h7 nx7 H7 => ?_
 refine H7.storeN (k := 0) (n := 2) rfl rfl rfl fun h8 H8 => ?_
 rw [F40.t28, zA, F40.t11_s, sAx1, H8.load (k := 1) (i := 0 + 1) rfl rfl, H8.groLen (k := 3) rfl, F40.t27, zP]
 refine F40.t26_L (fun m x17 h' nx' => ∃ k : Nat, x17 = I k ∧ m = u2.length - k ∧ k ≤ u2.length ∧ (u2.take k).all (fun b => decide (conj u1[i] b ∈ S)) = true ∧ Hp h h' nx' (.arr b8 [encI u1[i].1, .bool u1[i].2] :: .arr b6 [rowV o1 2 u1.length, rowV o2 2 u2.length] :: .map g (entS q2) :: .gro o2 2 u2.length (zV u2) :: .gro o1 2 u1.length (zV u1) :: (X ++ []))) (m := u2.length) (by omega)
  ⟨0, rfl, by omega, by omega, by simp, H8⟩ ?_
 rintro m y3 y4 y9 y17 y18 y19 h9 nx9 R' ⟨k, rfl, rfl, hk, hal2, H9⟩ hR'
 rw [F40.t25, zA, F40.t12_s, sLss]
 by_cases hlt2 : k < u2.length
 case neg =>
  rw [decide_eq_false (by omega), F40.t24, zA, F40.t13, zH, F40.v18, zE, yX, jT, F40.t31_s, sAdd (by omega)]
  obtain rfl : k = u2.length := by omega
  exact hR _ _ _ _ _ _ _ _ _ _ _ _ _ _ (by omega) ⟨i + 1, rfl, rfl, by omega, gE hx hal (uZ hal2), H9.drop⟩
 rw [decide_eq_true (by omega), F40.t24, zA, F40.t13, zH, F40.v18, zD, zQ, F40.t23, zA, F40.t21, zP, F40.t20, zA, F40.t14_s]
 have hy : u2[k]? = some u2[k] := List.getElem?_eq_getElem hlt2
 have hym := List.mem_of_getElem? hy
 have hdy := ok2.dp _ (hu2 _ hym)
 obtain ⟨iv, ov, e3, e4⟩ := groIx2 (k := 3) H9 rfl hy
 rw [e3, e4]
 refine H9.alloc fun b9 h10 nx10 H10 => ?_
 refine H10.storeN (k := 0) (n := 2) rfl rfl rfl fun h11 H11 => ?_
 rw [F40.t19, zA, F40.t15_s, H11.loadN (k := 1) (n := 2) rfl rfl, H11.loadN (k := 0) (n := 2) rfl rfl, H11.loadN (k := 1) (n := 2) rfl rfl]
 refine xP (a := u1[i]) (b := u2[k]) (fun z hz => by rw [hdx.1.1]; exact hdy.1.2 z hz) (by rw [hdy.1.1]; omega) _ _ _ _ ?_
 rintro _ rfl _
 rw [H11.loadN (k := 1) (n := 2) rfl rfl, zB, zB]
 refine inv124 (a := u1[i]) hdx (by omega) _ _ _ _ ?_
 rintro _ rfl _
 have hdi := wU hdx
 have hdxy := (jM n').dm _ _ hdx hdy
 rw [zB]
 refine xP (a := zF u1[i] u2[k]) (b := invS u1[i]) (fun z hz => by rw [hdxy.1.1]; exact hdi.1.2 z hz) (by rw [hdi.1.1]; omega) _ _ _ _ ?_
 rintro _ rfl _
 rw [zB]
 have hdc : DP n' (conj u1[i] u2[k]) := conj_dp hdx hdy
 refine pV (a := conj u1[i] u2[k]) hn256 hdc.1 hd2 H11 (k := 3) rfl ?_
 rw [jB, F40.t18, zH, F40.v19]
 by_cases c : conj u1[i] u2[k] ∈ q2
 ·rw [decide_eq_true c, Bool.not_true, zE, zQ, F40.t22_s, sAdd (by omega)]
  exact hR' _ _ _ _ _ _ _ _ _ (by omega) ⟨k + 1, rfl, rfl, by omega, gE hy hal2 (decide_eq_true ((hq2 _).1 c)), H11.drop⟩
 ·rw [decide_eq_false c, Bool.not_false, zD, F40.t17, zA, F40.t16_s]
  simp only [zZ, p9, yR]
  rw [F40.ret]
  exact no H11 ⟨_, hxm, _, hym, fun q => c ((hq2 _).2 q)⟩
end Go.Ev
namespace Go.Ev
abbrev AscS (l : List Sym) : Prop := l.Pairwise fun a b => befS a b = true
def putL (l : List Sym) (a : Sym) : List Sym := if a ∈ l then l else l.takeWhile (befS · a) ++ a :: l.dropWhile (befS · a)
theorem tw_at {p : Sym → Bool} : ∀ {l : List Sym} {i : Nat}, i ≤ l.length → (l.take i).all p = true → (∀ h : i < l.length, p l[i] = false) → l.take i = l.takeWhile p ∧ l.drop i = l.dropWhile p
 | [], i, h, _, _ => by simp
 | x :: l, 0, _, _, hn => by
  have := hn (by simp)
  simp at this
  simp [List.takeWhile_cons, List.dropWhile_cons, this]
 | x :: l, i + 1, h, ha, hn => by
  rw [List.take_succ_cons, List.all_cons, Bool.and_eq_true] at ha
  obtain ⟨e1, e2⟩ := tw_at (l := l) (i := i) (by simpa using h) ha.2 (fun h' => by have := hn (by simpa using h'); simpa using this)
  rw [List.take_succ_cons, List.drop_succ_cons, List.takeWhile_cons, List.dropWhile_cons, ha.1, e1, e2]; simp
theorem putL_at {l : List Sym} {a : Sym} {i : Nat} (hi : i ≤ l.length) (ha : (l.take i).all (befS · a) = true) (hn : ∀ h : i < l.length, befS l[i] a = false) (h0 : a ∉ l) : putL l a = l.take i ++ [a] ++ l.drop i := by
 obtain ⟨e1, e2⟩ := tw_at hi ha hn
 rw [putL, if_neg h0, ← e1, ← e2]; simp
theorem mem_putL {l : List Sym} {a x : Sym} : x ∈ putL l a ↔ x = a ∨ x ∈ l := by
 unfold putL
 split
 ·rename_i h
  exact ⟨.inr, fun q => q.elim (fun e => e ▸ h) id⟩
 ·have := List.takeWhile_append_dropWhile (p := (befS · a)) (l := l)
  conv => rhs; rw [← this]
  simp only [List.mem_append, List.mem_cons]
  constructor
  ·rintro (h | h | h)
   ·exact .inr (.inl h)
   ·exact .inl h
   ·exact .inr (.inr h)
  ·rintro (h | h | h)
   ·exact .inr (.inl h)
   ·exact .inl h
   ·exact .inr (.inr h)
theorem befS_tri {a b : Sym} (h : a ≠ b) (h2 : befS a b = false) : befS b a = true := by
 unfold befS at h2 ⊢
 by_cases c : a.1 = b.1
 ·rw [if_pos c] at h2
  rw [if_pos c.symm]
  have : a.2 ≠ b.2 := fun q => h (Prod.ext c q)
  revert h2 this; cases a.2 <;> cases b.2 <;> simp
 ·rw [if_neg c] at h2
  rw [if_neg (fun q => c q.symm)]
  rw [wE] at h2 ⊢
  have n1 := Go.Proofs.ordL_neg a.1 b.1
  have e : ¬ Go.Proofs.ordL a.1 b.1 < 0 := fun q => by simp [q] at h2
  have e2 : Go.Proofs.ordL a.1 b.1 ≠ 0 := fun q => c (Go.Proofs.ordL_eq q)
  exact decide_eq_true (by omega)
theorem putL_asc {l : List Sym} {a : Sym} (h : AscS l) : AscS (putL l a) := by
 unfold putL
 split
 ·exact h
 ·rename_i h0
  have e := List.takeWhile_append_dropWhile (p := (befS · a)) (l := l)
  have h' := h
  rw [← e] at h'
  obtain ⟨h1, h2, h3⟩ := List.pairwise_append.1 h'
  have ht : ∀ x ∈ l.takeWhile (befS · a), befS x a = true := fun x hx => (List.all_eq_true.1 (List.all_takeWhile (p := (befS · a)) (l := l))) x hx
  have hd : ∀ x ∈ l.dropWhile (befS · a), befS a x = true := by
   cases q : l.dropWhile (befS · a) with
   | nil => intro x hx; cases hx
   | cons y r =>
    have hy : befS y a = false := by
     have := List.head?_dropWhile_not (p := (befS · a)) (l := l)
     rw [q] at this; simpa using this
    have hym : y ∈ l := by rw [← e, q]; simp
    have hya : befS a y = true := befS_tri (fun e => h0 (e ▸ hym)) hy
    intro x hx
    rcases List.mem_cons.1 hx with rfl | hx
    ·exact hya
    ·rw [q] at h2
     exact u5 hya ((List.pairwise_cons.1 h2).1 x hx)
  refine List.pairwise_append.2 ⟨h1, List.pairwise_cons.2 ⟨hd, h2⟩, fun x hx y hy => ?_⟩
  rcases List.mem_cons.1 hy with rfl | hy
  ·exact ht x hx
  ·exact u5 (ht x hx) (hd y hy)
theorem fold_put (l : List Sym) : ∀ (acc : List Sym), AscS acc → AscS (l.foldl putL acc) ∧ ∀ x, x ∈ l.foldl putL acc ↔ x ∈ acc ∨ x ∈ l := by
 induction l with
 | nil => intro acc h; exact ⟨h, fun x => by simp⟩
 | cons a l ih =>
  intro acc h
  obtain ⟨h1, h2⟩ := ih (putL acc a) (putL_asc h)
  refine ⟨h1, fun x => ?_⟩
  rw [List.foldl_cons, h2, mem_putL, List.mem_cons]
  constructor
  ·rintro ((q | q) | q)
   ·exact .inr (.inl q)
   ·exact .inl q
   ·exact .inr (.inr q)
  ·rintro (q | q | q)
   ·exact .inl (.inr q)
   ·exact .inl (.inl q)
   ·exact .inr q
theorem AscS.nd {l : List Sym} (h : AscS l) : l.Nodup := h.imp fun hab e => by rw [e, uX] at hab; cases hab
theorem asc_uniq : ∀ {a b : List Sym}, AscS a → AscS b → (∀ x, x ∈ a ↔ x ∈ b) → a = b
 | [], [], _, _, _ => rfl
 | [], y :: b, _, _, h => by have := (h y).2 (by simp); cases this
 | x :: a, [], _, _, h => by have := (h x).1 (by simp); cases this
 | x :: a, y :: b, ha, hb, h => by
  have ha' := List.pairwise_cons.1 ha
  have hb' := List.pairwise_cons.1 hb
  have e : x = y := by
   have h1 := (h x).1 (by simp)
   have h2 := (h y).2 (by simp)
   rcases List.mem_cons.1 h1 with q | q
   ·exact q
   ·rcases List.mem_cons.1 h2 with r | r
    ·exact r.symm
    ·have h3 := hb'.1 x q
     have h4 := ha'.1 y r
     rw [befS_asymm h3] at h4; cases h4
  subst e
  congr 1
  refine asc_uniq ha'.2 hb'.2 fun z => ?_
  have hz := h z
  simp only [List.mem_cons] at hz
  constructor
  ·intro q
   rcases hz.1 (.inr q) with rfl | r
   ·have := ha'.1 z q; rw [uX] at this; cases this
   ·exact r
  ·intro q
   rcases hz.2 (.inr q) with rfl | r
   ·have := hb'.1 z q; rw [uX] at this; cases this
   ·exact r
theorem putL_len (l : List Sym) (a : Sym) : (putL l a).length ≤ l.length + 1 := by
 unfold putL
 split
 ·omega
 ·have := congrArg List.length (List.takeWhile_append_dropWhile (p := (befS · a)) (l := l))
  simp only [List.length_append, List.length_cons] at this ⊢
  omega
theorem fold_put_len (l : List Sym) : ∀ acc : List Sym, (l.foldl putL acc).length ≤ acc.length + l.length := by
 induction l with
 | nil => intro acc; simp
 | cons a l ih => intro acc; rw [List.foldl_cons, List.length_cons]; have := ih (putL acc a); have := putL_len acc a; omega
def jR (S : List Sym) (x : Sym) : Sym := S.foldl (fun m b => if befS (zF x b) m then zF x b else m) x
def cosR (G S : List Sym) : List Sym := (G.map (jR S)).foldl putL []
theorem qS (x : Sym) : ∀ (S : List Sym) (m : Sym), (∀ b ∈ S, befS (zF x b) (S.foldl (fun m b => if befS (zF x b) m then zF x b else m) m) = false) ∧ (S.foldl (fun m b => if befS (zF x b) m then zF x b else m) m = m ∨ ∃ b ∈ S, S.foldl (fun m b => if befS (zF x b) m then zF x b else m) m = zF x b) ∧ befS m (S.foldl (fun m b => if befS (zF x b) m then zF x b else m) m) = false
 | [], m => ⟨fun b hb => (by cases hb), .inl rfl, uX m⟩
 | c :: S, m => by
  rw [List.foldl_cons]
  obtain ⟨h1, h2, h3⟩ := qS x S (if befS (zF x c) m then zF x c else m)
  generalize S.foldl (fun m b => if befS (zF x b) m then zF x b else m) (if befS (zF x c) m then zF x c else m) = r at h1 h2 h3
  by_cases q : befS (zF x c) m = true
  ·rw [if_pos q] at h2 h3
   refine ⟨fun b hb => ?_, .inr ?_, ?_⟩
   ·rcases List.mem_cons.1 hb with rfl | hb
    ·exact h3
    ·exact h1 b hb
   ·rcases h2 with e | ⟨b, hb, e⟩
    ·exact ⟨c, by simp, e⟩
    ·exact ⟨b, by simp [hb], e⟩
   ·cases w : befS m r with
    | false => rfl
    | true => rw [u5 q w] at h3; cases h3
  ·rw [if_neg q] at h2 h3
   refine ⟨fun b hb => ?_, ?_, h3⟩
   ·rcases List.mem_cons.1 hb with rfl | hb
    ·cases w : befS (zF x b) r with
     | false => rfl
     | true =>
      by_cases e : r = m
      ·rw [e] at w; exact absurd w q
      ·have := befS_tri (a := m) (b := r) (fun z => e z.symm) h3
       exact absurd (u5 w this) q
    ·exact h1 b hb
   ·rcases h2 with e | ⟨b, hb, e⟩
    ·exact .inl e
    ·exact .inr ⟨b, by simp [hb], e⟩
theorem cosR_eq {G S : List Sym} {n : Nat} (hG : GrOk G n) (hS : GrOk S n) (hs : ∀ a ∈ S, a ∈ G) : cosR G S = cosL G S := by
 have hl : ∀ x ∈ G, jR S x ∈ G ∧ yH S (jR S x) = true := fun x hx => by
  obtain ⟨h1, h2, _⟩ := qS x S x
  have hdx := hG.dp x hx
  have hb : ∃ b ∈ S, zF x b = jR S x := by
   rcases h2 with e | ⟨b, hb, e⟩
   ·exact ⟨idS n, hS.one, by rw [(jM n).er x hdx]; exact e.symm⟩
   ·exact ⟨b, hb, e.symm⟩
  obtain ⟨b, hb, e⟩ := hb
  refine ⟨by rw [← e]; exact hG.cl x hx b (hs b hb), List.all_eq_true.2 fun c hc => ?_⟩
  obtain ⟨e2, hcb⟩ := coset_step hS hdx hb hc e
  rw [e2]
  have := h1 _ hcb
  show (!befS (zF x (zF b c)) (jR S x)) = true
  rw [show befS (zF x (zF b c)) (jR S x) = false from this]; rfl
 obtain ⟨a1, a2⟩ := fold_put (G.map (jR S)) [] .nil
 refine asc_uniq a1 ((dM hG.ord).filter _) fun x => ?_
 show x ∈ (G.map (jR S)).foldl putL [] ↔ _
 rw [a2]
 simp only [List.not_mem_nil, false_or, cosL, List.mem_filter, List.mem_map]
 constructor
 ·rintro ⟨y, hy, rfl⟩
  exact hl y hy
 ·rintro ⟨hx, hlx⟩
  refine ⟨x, hx, ?_⟩
  obtain ⟨h1, h2, h3⟩ := qS x S x
  rcases h2 with e | ⟨b, hb, e⟩
  ·exact e
  ·have := List.all_eq_true.1 hlx b hb
   by_cases q : zF x b = x
   ·exact e.trans q
   ·have w : befS (zF x b) x = false := by simpa using this
    have := befS_tri q w
    rw [show jR S x = zF x b from e] 
    have h3' : befS x (zF x b) = false := by rw [← e]; exact h3
    rw [h3'] at this; cases this
end Go.Ev
namespace Go.Ev
open Go Go.Proofs
variable {B : Nat}
set_option maxRecDepth 100000
theorem CS_args {P : Program} {f : Nat} {p : Pa} {args args' : List AV} {h : T Blk} {nx : Pa} {K : Kw Prop} (hv : ∀ (E : Env) (vs : List Value), VRL E args vs → VRL E args' vs) (hk : (CS P B).fn f p args' h nx K = .ok True) : (CS P B).fn f p args h nx K = .ok True := by
 rw [CS_fn] at hk ⊢
 exact ⟨fun E w vs H hv' => hk.1 E w vs H (hv _ _ hv'), rfl⟩
theorem VR_nil0 {E : Env} {e : Nat} {vv : Value} (h : VR E .nils vv) : VR E (.lst e 0 []) vv := by
 simp only [VR] at h ⊢
 exact ⟨rfl, by simp, none, 0, h, .inl (by simp)⟩
theorem flatG_take : ∀ (q : List Sym) (i : Nat), (zV q).take (i * 2) = zV (q.take i)
 | q, 0 => by simp [zV]
 | [], i + 1 => by simp [zV]
 | p :: q, i + 1 => by
  rw [List.take_succ_cons, show (i + 1) * 2 = i * 2 + 1 + 1 by omega]
  show encI p.1 :: .bool p.2 :: (zV q).take (i * 2) = _
  rw [flatG_take q i]
  rfl
theorem scal_flatG (q : List Sym) : (zV q).all scal = true := List.all_eq_true.2 fun v hv => fixd.scal (qM v hv)
def LG (v : AV) (l : List Sym) : Prop := (v = .nils ∧ l = []) ∨ (v = encG l ∧ l ≠ [])
theorem LG.len {v : AV} {l : List Sym} (h : LG v l) {op : AV → OP} : sLen v op = op (I l.length) := by
 rcases h with ⟨rfl, rfl⟩ | ⟨rfl, _⟩
 ·exact jE
 ·exact zL ..
theorem LG.frz {v : AV} {l : List Sym} (h : LG v l) {N : Pa → Prop} {O : AV → Prop} {hh : T Blk} : Frz True N O hh v (encG l) := by
 rcases h with ⟨rfl, rfl⟩ | ⟨rfl, _⟩
 ·exact .lnils 2
 ·exact zJ (fixd_encG _)
theorem LG.call {P : Program} {f : Nat} {p : Pa} {v : AV} {rest : List AV} {l : List Sym} (h : LG v l) {hh : T Blk} {nx : Pa} {K : Kw Prop} (hk : (CS P B).fn f p (encG l :: rest) hh nx K = .ok True) : (CS P B).fn f p (v :: rest) hh nx K = .ok True := by
 rcases h with ⟨rfl, rfl⟩ | ⟨rfl, _⟩
 ·refine CS_args (fun E vs hv => ?_) hk
  simp only [VRL] at hv ⊢
  obtain ⟨a, m, q, r, s⟩ := hv
  exact ⟨a, m, q, VR_nil0 r, s⟩
 ·exact hk
theorem LG.halves {v : AV} {l : List Sym} {i : Nat} (h : LG v l) (hi : i ≤ l.length) : ∃ lo hi' : AV, (∀ op : AV → OP, uI 2 v none (some (I (i : Int))) none op = op lo) ∧ (∀ op : AV → OP, uI 2 v (some (I (i : Int))) none none op = op hi') ∧
  (∀ (h : T Blk) (no : OP) (K' : List AV → Nat → OP), gL lo h no K' = K' (zV (l.take i)) i) ∧ (∀ (h : T Blk) (no : OP) (K' : List AV → Nat → OP), gL hi' h no K' = K' (zV (l.drop i)) (l.length - i)) := by
 rcases h with ⟨rfl, rfl⟩ | ⟨rfl, h0⟩
 ·obtain rfl : i = 0 := by simpa using hi
  exact ⟨.nils, .nils, fun op => rfl, fun op => rfl, fun h no K' => rfl, fun h no K' => rfl⟩
 ·have hn : 1 ≤ l.length := by cases l with
   | nil => exact absurd rfl h0
   | cons _ _ => simp
  refine ⟨.lst 2 (i - 0) (((zV l).drop (0 * 2)).take ((i - 0) * 2)), .lst 2 (l.length - i) (((zV l).drop (i * 2)).take ((l.length - i) * 2)), fun op => ?_, fun op => ?_, fun h no K' => ?_, fun h no K' => ?_⟩
  ·show (bif Nat.beq 2 2 && Nat.ble 1 l.length then sliceF 2 l.length (zV l) none (some (I (i : Int))) none op else .no 17) = _
   rw [Nat.beq_refl, Nat.ble_eq_true_of_le hn]
   show (match bnd (some (I (i : Int))) l.length l.length with | none => Out.no 17 | some h => match bnd none h 0 with | none => .no 17 | some q => op (.lst 2 (h - q) (((zV l).drop (q * 2)).take ((h - q) * 2)))) = _
   rw [bnd_some hi]; rfl
  ·show (bif Nat.beq 2 2 && Nat.ble 1 l.length then sliceF 2 l.length (zV l) (some (I (i : Int))) none none op else .no 17) = _
   rw [Nat.beq_refl, Nat.ble_eq_true_of_le hn]
   show (match bnd (some (I (i : Int))) l.length 0 with | none => Out.no 17 | some q => op (.lst 2 (l.length - q) (((zV l).drop (q * 2)).take ((l.length - q) * 2)))) = _
   rw [bnd_some hi]
  ·show K' _ (i - 0) = _
   rw [Nat.sub_zero, Nat.zero_mul, List.drop_zero, flatG_take]
  ·show K' _ (l.length - i) = _
   rw [wW, List.take_of_length_le (by rw [j6, List.length_drop]; omega)]
theorem put125 {v : AV} {l : List Sym} {a : Sym} (hv : LG v l) (hl : l.length ≤ 100000) (hw : ∀ g ∈ l, g.1.length ≤ 1000000) (ha : a.1.length ≤ 1000000) : Pure Tryz.prog B 125 [v, encS a] (· = encG (putL l a)) := by
 refine yI fun h nx K H0 hK => zR zS dreg 1000000 fun hf' => ?_
 rw [F125.go, F125.t20, zA, F125.t0_s]
 refine H0.box (l := [encI a.1, .bool a.2]) rfl fun b2 h1 nx1 H1 => ?_
 rw [F125.t19, zA, F125.t5, zA, F125.t1_s, H1.loadN (k := 0) (n := 2) rfl rfl]
 refine hv.call (dT (a := a) (by omega) hw _ _ _ _ ?_)
 rintro _ ⟨r, rfl, hr⟩ _
 rw [sGeq, F125.t4, zH, F125.v5]
 by_cases c : r < 0
 case neg =>
  rw [decide_eq_true (by omega), zD, F125.t3, zA, F125.t2_s]
  simp only [zZ, yR]
  rw [F125.ret]
  have hin : a ∈ l := Decidable.byContradiction fun q => c (hr.2 q)
  exact hK _ _ _ _ _ H1 hv.frz (by rw [putL, if_pos hin])
 have hnin := hr.1 c
 rw [decide_eq_false (by omega), zE, zQ, F125.t18, zA, F125.t6_s, F125.t17, zA, F125.t14, zP]
 refine F125.t13_L (fun m x4 h' nx' => ∃ i : Nat, x4 = I i ∧ m = l.length - i ∧ i ≤ l.length ∧ (l.take i).all (befS · a) = true ∧ Hp h h' nx' [.arr b2 [encI a.1, .bool a.2]]) (m := l.length) (by omega) ⟨0, rfl, by omega, by omega, by simp, H1⟩ ?_
 rintro m z4 z6 h3 nx3 R ⟨i, rfl, rfl, hi, hal, H3⟩ hR
 have fin : (∀ h : i < l.length, befS l[i] a = false) → IR.run F125.t16 (CS Tryz.prog B) 1000000 (fnO F125.res K) (retK F125.res K) (F125.fr v (encS a) (.ptr b2 0) .nils (I i) (.bool false) (.bool false)) h3 nx3 = .ok True := by
  intro hn
  obtain ⟨lo, hi', e1, e2, r1, r2⟩ := hv.halves hi
  have f0 : (jY (repl 0 [AV.nils, .bool false]) []).isSome = true := rfl
  have f1 : (jY (repl 1 [AV.nils, .bool false]) [(0, 2, AV.agg [encI a.1, .bool a.2])]).isSome = true := rfl
  rw [F125.t16, zA, F125.t15_s, f0, Bool.and_self, jQ, e1, H3.loadN (k := 0) (n := 2) rfl rfl, f1, Bool.and_self, jQ, e2]
  refine H3.bslice (l := []) rfl fun e0 h4 nx4 H4 => ?_
  have ld4 : ∀ op : AV → OP, zI 2 (.ptr b2 0) h4 op = op (.agg [encI a.1, .bool a.2]) := fun op => H4.loadN (k := 1) (n := 2) rfl rfl
  try simp only [e1, e2, ld4, zB]
  have q0 : ∀ (x : AV) (g : T Blk) (n : Pa) (K' : KW3), kP (CS Tryz.prog B) 2 32 (.sl e0 0 0 (some 0) 2) x g n K' = sApp 2 32 (.sl e0 0 0 (some 0) 2) x g n K' := fun _ _ _ _ => rfl
  rw [q0]
  refine H4.app0Q (by decide) (fun no K' => r1 _ no K') (by rw [j6, List.length_take]; omega) (scal_flatG _) (by decide) (by omega) fun w X h5 nx5 H5 hp hq => ?_
  have ld5 : ∀ op : AV → OP, zI 2 (.ptr b2 0) h5 op = op (.agg [encI a.1, .bool a.2]) := fun op => H5.loadN (k := 1) (n := 2) rfl rfl
  try simp only [e1, e2, ld5, zB]
  refine H5.bslice (l := [encI a.1, .bool a.2]) rfl fun b h6 nx6 H6 => ?_
  try simp only [e1, e2, zB]
  rw [hq]
  refine hp _ _ _ _ [encI a.1, .bool a.2] b _ H6 rfl rfl fun id h7 nx7 H7 => ?_
  try simp only [e1, e2, zB]
  have q1 : ∀ (x : AV) (g : T Blk) (n : Pa) (K' : KW3), kP (CS Tryz.prog B) 2 32 (.sl id 0 (i + 1) none 2) x g n K' = sApp 2 32 (rowV (some id) 2 (i + 1)) x g n K' := fun _ _ _ _ => rfl
  rw [q1]
  refine H7.appN (k := 0) (o := some id) (n := i + 1) (c := l.length - i) (new := zV (l.drop i)) rfl (fun no K' => r2 _ no K') (by rw [j6, List.length_drop]) (scal_flatG _) (by decide) (by decide) (by omega) fun o' h8 nx8 _ H8 => ?_
  simp only [zZ, yR]
  rw [F125.ret]
  have hp := putL_at hi hal hn hnin
  have e3 : i + 1 + (l.length - i) = (putL l a).length := by
   rw [hp]; simp only [List.length_append, List.length_take, List.length_drop, List.length_cons, List.length_nil]; omega
  have e4 : zV (l.take i) ++ [encI a.1, .bool a.2] ++ zV (l.drop i) = zV (putL l a) := by
   rw [hp]; unfold zV; rw [List.flatMap_append, List.flatMap_append]; rfl
  have H9 : Hp h h8 nx8 (.gro o' 2 (putL l a).length (zV (putL l a)) :: [.arr b2 [encI a.1, .bool a.2]]) := by
   have := H8
   rw [e3] at this
   simp only [List.set_cons_zero, e4] at this
   exact this
  rw [e3]
  exact hK _ _ _ _ _ H9 (H9.frzGro (k := 0) rfl qM) rfl
 rw [F125.t12, zA, F125.t9, zA, F125.t7_s, hv.len, sLss]
 by_cases hlt : i < l.length
 case neg =>
  simp only [show ¬ (i : Int) < (l.length : Int) by omega, decide_false, kB, gW_ft, yT]
  rw [F125.t8, zH, F125.v6, zE, yX, jT]
  exact fin fun q => absurd q hlt
 have hvl : v = encG l := by
  rcases hv with ⟨_, rfl⟩ | ⟨q, _⟩
  ·simp at hlt
  ·exact q
 subst hvl
 simp only [show (i : Int) < (l.length : Int) by omega, decide_true, gX]
 rw [sIxL rfl hlt, yN hlt, y5, H3.loadN (k := 0) (n := 2) rfl rfl, gW_tt]
 refine mA (a := l[i]) (b := a) (hw _ (List.getElem_mem hlt)) ha _ _ _ _ ?_
 rintro _ rfl _
 rw [yO, F125.t8, zH, F125.v6]
 cases c2 : befS l[i] a with
 | false =>
  rw [zE, yX, jT]
  exact fin fun _ => c2
 | true =>
  rw [zD, zQ, F125.t11, zP, F125.t10_s, sAdd (by omega)]
  refine hR _ _ _ _ _ (by omega) ⟨i + 1, rfl, rfl, by omega, ?_, H3⟩
  exact gE (List.getElem?_eq_getElem hlt) hal c2
theorem subset42 {S G : List Sym} (hS : S.length ≤ 1000000) (hG : G.length ≤ 1000000) (hw : ∀ g ∈ G, g.1.length ≤ 1000000) : Pure Tryz.prog B 42 [encG S, encG G] (· = .bool (S.all fun a => decide (a ∈ G))) := by
 refine yI fun h nx K H0 hK => zR zS dreg 10000000 fun hf' => ?_
 rw [F42.go, F42.t20, zA, F42.t0_s, F42.t19, zA, F42.t16, zA, F42.t1_s, F42.t15, zP]
 refine F42.t14_L (fun m x3 h' nx' => ∃ i : Nat, x3 = I i ∧ m = S.length - i ∧ i ≤ S.length ∧ (S.take i).all (fun a => decide (a ∈ G)) = true ∧ Hp h h' nx' []) (m := S.length) (by omega) ⟨0, rfl, by omega, by omega, by simp, H0⟩ ?_
 rintro m z2 z3 z4 z5 h3 nx3 R ⟨i, rfl, rfl, hi, ha, H3⟩ hR
 rw [F42.t13, zA, F42.t4, zA, F42.t2_s, zL, sLss]
 by_cases hlt : i < S.length
 case neg =>
  rw [decide_eq_false (by omega), F42.t3, zH, F42.v4, zE, yX, jT, F42.t18, zA, F42.t17_s]
  simp only [zZ, yR]
  rw [F42.ret]
  obtain rfl : i = S.length := by omega
  exact hK _ _ _ _ _ H3 (zJ rfl) (by rw [uZ ha])
 rw [decide_eq_true (by omega), F42.t3, zH, F42.v4, zD, zQ, F42.t12, zA, F42.t10, zP, F42.t9, zA, F42.t5_s, sIxL rfl hlt, yN hlt, y5]
 refine dT (a := S[i]) hG hw _ _ _ _ ?_
 rintro _ ⟨r, rfl, hr⟩ _
 rw [sLss, F42.t8, zH, F42.v5]
 by_cases c : r < 0
 ·rw [decide_eq_true c, zD, F42.t7, zA, F42.t6_s]
  simp only [zZ, p9, yR]
  rw [F42.ret]
  refine hK _ _ _ _ _ H3 (zJ rfl) (congrArg AV.bool ?_)
  refine (Bool.eq_false_iff.2 fun q => ?_).symm
  exact hr.1 c (of_decide_eq_true (List.all_eq_true.1 q _ (List.getElem_mem hlt)))
 ·rw [decide_eq_false c, zE, zQ, F42.t11_s, sAdd (by omega)]
  exact hR _ _ _ _ _ _ _ (by omega) ⟨i + 1, rfl, rfl, by omega, gE (List.getElem?_eq_getElem hlt) ha (decide_eq_true (Decidable.byContradiction fun q => c (hr.2 q))), H3⟩
theorem cosets43 {G S : List Sym} {n : Nat} (hG : GrOk G n) (hS : GrOk S n) (hs : ∀ a ∈ S, a ∈ G) : Pure Tryz.prog B 43 [encG G, encG S] (· = encG (cosR G S)) := by
 have hn := hG.n256
 have hGl := hG.len
 have hSl := hS.len
 refine yI fun h nx K H0 hK => zR zS dreg 1000000 fun hf' => ?_
 rw [F43.go, F43.t38, zA, F43.t0_s, F43.t37, zA, F43.t1_s, F43.t36, zA, F43.t33, zA, F43.t2_s, F43.t32, zP]
 have hlc : ∀ (x : Sym) (T : List Sym), x ∈ G → (∀ b ∈ T, b ∈ S) → T.foldl (fun m b => if befS (zF x b) m then zF x b else m) x ∈ G := fun x T hx hT => by
  obtain ⟨_, q, _⟩ := qS x T x
  rcases q with q | ⟨b, hb, q⟩
  ·rw [q]; exact hx
  ·rw [q]; exact hG.cl x hx b (hs b (hT b hb))
 have hfm : ∀ (i : Nat), (∀ y ∈ ((G.take i).map (jR S)).foldl putL [], y ∈ G) ∧ (((G.take i).map (jR S)).foldl putL []).length ≤ i := fun i => by
  refine ⟨fun y hy => ?_, ?_⟩
  ·rw [(fold_put _ [] .nil).2] at hy
   rcases hy with q | q
   ·cases q
   ·obtain ⟨x, hx, rfl⟩ := List.mem_map.1 q
    exact hlc x S (List.mem_of_mem_take hx) fun b hb => hb
  ·have := fold_put_len ((G.take i).map (jR S)) []
   simp only [List.length_nil, List.length_map, List.length_take] at this
   omega
 refine F43.t31_L (fun m x3 x4 h' nx' => ∃ i : Nat, x4 = I i ∧ m = G.length - i ∧ i ≤ G.length ∧ LG x3 (((G.take i).map (jR S)).foldl putL []) ∧ ∃ L', Hp h h' nx' L') (m := G.length) (by omega) ⟨0, rfl, by omega, by omega, .inl ⟨rfl, by simp⟩, [], H0⟩ ?_
 rintro m z3 z4 z5 z6 z7 z8 z9 z10 h3 nx3 R ⟨i, rfl, rfl, hi, hlg, L3, H3⟩ hR
 rw [F43.t30, zA, F43.t5, zA, F43.t3_s, zL, sLss]
 by_cases hlt : i < G.length
 case neg =>
  rw [decide_eq_false (by omega), F43.t4, zH, F43.v8, zE, yX, jT, F43.t35, zA, F43.t34_s]
  simp only [zZ, yR]
  rw [F43.ret]
  obtain rfl : i = G.length := by omega
  rw [List.take_of_length_le (Nat.le_refl _)] at hlg
  exact hK _ _ _ _ _ H3 hlg.frz rfl
 have hx : G[i]? = some G[i] := List.getElem?_eq_getElem hlt
 have hxm := List.getElem_mem hlt
 have hdx := hG.dp _ hxm
 rw [decide_eq_true (by omega), F43.t4, zH, F43.v8, zD, zQ, F43.t29, zA, F43.t27, zP, F43.t26, zA, F43.t6_s, sIxL rfl hlt, yN hlt, y5]
 refine H3.alloc fun b5 h4 nx4 H4 => ?_
 refine H4.storeN (k := 0) (n := 2) rfl rfl rfl fun h5 H5 => ?_
 rw [F43.t25, zA, F43.t23, zA, F43.t7_s, F43.t22, zP]
 refine F43.t21_L (fun m x6 h' nx' => ∃ k : Nat, x6 = I k ∧ m = S.length - k ∧ k ≤ S.length ∧ ∃ L', Hp h h' nx' (L' ++ .arr b5 [encI ((S.take k).foldl (fun m b => if befS (zF G[i] b) m then zF G[i] b else m) G[i]).1, .bool ((S.take k).foldl (fun m b => if befS (zF G[i] b) m then zF G[i] b else m) G[i]).2] :: L3)) (m := S.length) (by omega) ⟨0, rfl, by omega, by omega, [], H5⟩ ?_
 rintro m y6 y7 y9 y10 h6 nx6 R' ⟨k, rfl, rfl, hk, L6, H6⟩ hR'
 rw [F43.t20, zA, F43.t10, zA, F43.t8_s, zL, sLss]
 by_cases hlt2 : k < S.length
 case neg =>
  obtain rfl : k = S.length := by omega
  rw [List.take_of_length_le (Nat.le_refl _)] at H6
  rw [decide_eq_false (by omega), F43.t9, zH, F43.v9, zE, yX, jT, F43.t24_s, H6.loadN (k := L6.length) (n := 2) (xN _ _ _) rfl]
  have hlm := hlc G[i] S hxm fun b hb => hb
  have hdl := hG.dp _ hlm
  refine put125 (a := jR S G[i]) hlg (by have := (hfm i).2; omega) (fun g hg => by have := (hG.dp g ((hfm i).1 g hg)).1.1; omega) (by have := hdl.1.1; show (jR S G[i]).1.length ≤ _; unfold jR; omega) _ _ _ _ ?_
  rintro _ rfl _
  rw [F43.t28_s, sAdd (by omega)]
  have ht : ((G.take (i + 1)).map (jR S)).foldl putL [] = putL (((G.take i).map (jR S)).foldl putL []) (jR S G[i]) := by
   rw [List.take_add_one, hx, List.map_append, List.foldl_append]; rfl
  refine hR _ _ _ _ _ _ _ _ _ _ _ (by omega) ⟨i + 1, rfl, rfl, by omega, .inr ⟨by rw [ht], ?_⟩, _, H6⟩
  rw [ht]
  intro q
  have := (mem_putL (l := ((G.take i).map (jR S)).foldl putL []) (a := jR S G[i]) (x := jR S G[i])).2 (.inl rfl)
  rw [q] at this; cases this
 have hy : S[k]? = some S[k] := List.getElem?_eq_getElem hlt2
 have hym := List.getElem_mem hlt2
 have hdy := hS.dp _ hym
 have e1 : ∀ op : AV → OP, zO 2 (encG G) (I (i : Int)) op = op (.fp (encI G[i].1 :: .bool G[i].2 :: (zV G).drop ((i + 1) * 2))) := fun op => by rw [sIxL rfl hlt, yN hlt]
 have e2 : ∀ op : AV → OP, zO 2 (encG S) (I (k : Int)) op = op (.fp (encI S[k].1 :: .bool S[k].2 :: (zV S).drop ((k + 1) * 2))) := fun op => by rw [sIxL rfl hlt2, yN hlt2]
 rw [decide_eq_true (by omega), F43.t9, zH, F43.v9, zD, zQ, F43.t19, zA, F43.t17, zP, F43.t16, zA, F43.t11_s, show (true && true) = true from rfl, jQ, e1, y5, e2, y5]
 refine wX (a := G[i]) (b := S[k]) (fun z hz => by rw [hdx.1.1]; exact hdy.1.2 z hz) (by rw [hdy.1.1]; omega) _ _ _ _ ?_
 rintro _ rfl _
 try simp only [e1, e2, y5, zB]
 refine H6.alloc fun b7 h7 nx7 H7 => ?_
 try simp only [e1, e2, y5, zB]
 refine H7.storeN (k := 0) (n := 2) rfl rfl rfl fun h8 H8 => ?_
 have H8 : Hp h h8 nx7 ((.arr b7 [encI (zF G[i] S[k]).1, .bool (zF G[i] S[k]).2] :: L6) ++ .arr b5 [encI ((S.take k).foldl (fun m b => if befS (zF G[i] b) m then zF G[i] b else m) G[i]).1, .bool ((S.take k).foldl (fun m b => if befS (zF G[i] b) m then zF G[i] b else m) G[i]).2] :: L3) := H8
 rw [F43.t15, zA, F43.t12_s, H8.loadN (k := 0) (n := 2) rfl rfl, H8.loadN (k := (L6.length + 1)) (n := 2) (xN (_ :: L6) _ _) rfl]
 have hcm := hG.cl _ hxm _ (hs _ hym)
 have hfk := hlc G[i] (S.take k) hxm fun b hb => List.mem_of_mem_take hb
 refine mA (a := zF G[i] S[k]) (b := (S.take k).foldl (fun m b => if befS (zF G[i] b) m then zF G[i] b else m) G[i]) (by have := (hG.dp _ hcm).1.1; omega) (by have := (hG.dp _ hfk).1.1; omega) _ _ _ _ ?_
 rintro _ rfl _
 have ht : (S.take (k + 1)).foldl (fun m b => if befS (zF G[i] b) m then zF G[i] b else m) G[i] = if befS (zF G[i] S[k]) ((S.take k).foldl (fun m b => if befS (zF G[i] b) m then zF G[i] b else m) G[i]) then zF G[i] S[k] else (S.take k).foldl (fun m b => if befS (zF G[i] b) m then zF G[i] b else m) G[i] := by
  rw [List.take_add_one, hy, List.foldl_append]; rfl
 rw [F43.t14, zH, F43.v10]
 cases c : befS (zF G[i] S[k]) ((S.take k).foldl (fun m b => if befS (zF G[i] b) m then zF G[i] b else m) G[i]) with
 | true =>
  rw [c, if_pos rfl] at ht
  rw [zD, F43.t13_s, H8.loadN (k := 0) (n := 2) rfl rfl]
  refine H8.storeN (k := L6.length + 1) (n := 2) (xN (_ :: L6) _ _) rfl rfl fun h9 H9 => ?_
  rw [F43.t18_s, sAdd (by omega)]
  refine hR' _ _ _ _ _ _ _ (by omega) ⟨k + 1, rfl, rfl, by omega, .arr b7 [encI (zF G[i] S[k]).1, .bool (zF G[i] S[k]).2] :: L6, ?_⟩
  rw [ht]
  have e := dH (.arr b7 [encI (zF G[i] S[k]).1, .bool (zF G[i] S[k]).2] :: L6) (.arr b5 [encI ((S.take k).foldl (fun m b => if befS (zF G[i] b) m then zF G[i] b else m) G[i]).1, .bool ((S.take k).foldl (fun m b => if befS (zF G[i] b) m then zF G[i] b else m) G[i]).2]) (Ob.arr b5 [encI (zF G[i] S[k]).1, .bool (zF G[i] S[k]).2]) L3
  exact e ▸ H9
 | false =>
  rw [c] at ht
  rw [zE, zQ, F43.t18_s, sAdd (by omega)]
  refine hR' _ _ _ _ _ _ _ (by omega) ⟨k + 1, rfl, rfl, by omega, .arr b7 [encI (zF G[i] S[k]).1, .bool (zF G[i] S[k]).2] :: L6, ?_⟩
  rw [ht]
  exact H8
theorem isNormal44 {G S : List Sym} {n : Nat} (hG : GrOk G n) (hS : GrOk S n) : Pure Tryz.prog B 44 [encG G, encG S] (· = .bool (normB G S)) := by
 have hn := hG.n256
 have hGl := hG.len
 have hSl := hS.len
 refine yI fun h nx K H0 hK => zR zS dreg 1000000 fun hf' => ?_
 rw [F44.go, F44.t31, zA, F44.t0_s, F44.t30, zA, F44.t27, zA, F44.t1_s, F44.t26, zP]
 refine F44.t25_L (fun m x3 h' nx' => ∃ i : Nat, x3 = I i ∧ m = G.length - i ∧ i ≤ G.length ∧ (G.take i).all (fun a => S.all fun b => decide (conj a b ∈ S)) = true ∧ Hp h h' nx' []) (m := G.length) (by omega) ⟨0, rfl, by omega, by omega, by simp, H0⟩ ?_
 rintro m z2 z3 z4 z5 z6 z7 h3 nx3 R ⟨i, rfl, rfl, hi, ha, H3⟩ hR
 rw [F44.t24, zA, F44.t4, zA, F44.t2_s, zL, sLss]
 by_cases hlt : i < G.length
 case neg =>
  rw [decide_eq_false (by omega), F44.t3, zH, F44.v5, zE, yX, jT, F44.t29, zA, F44.t28_s]
  simp only [zZ, yR]
  rw [F44.ret]
  obtain rfl : i = G.length := by omega
  exact hK _ _ _ _ _ H3 (zJ rfl) (by rw [normB, uZ ha])
 have hx : G[i]? = some G[i] := List.getElem?_eq_getElem hlt
 have hxm := List.getElem_mem hlt
 have hdx := hG.dp _ hxm
 rw [decide_eq_true (by omega), F44.t3, zH, F44.v5, zD, zQ, F44.t23, zA, F44.t21, zP, F44.t20, zA, F44.t5_s, F44.t19, zP]
 refine F44.t18_L (fun m x4 h' nx' => ∃ k : Nat, x4 = I k ∧ m = S.length - k ∧ k ≤ S.length ∧ (S.take k).all (fun b => decide (conj G[i] b ∈ S)) = true ∧ Hp h h' nx' []) (m := S.length) (by omega) ⟨0, rfl, by omega, by omega, by simp, H3⟩ ?_
 rintro m y2 y4 y6 y7 h6 nx6 R' ⟨k, rfl, rfl, hk, ha2, H6⟩ hR'
 rw [F44.t17, zA, F44.t8, zA, F44.t6_s, zL, sLss]
 by_cases hlt2 : k < S.length
 case neg =>
  obtain rfl : k = S.length := by omega
  rw [decide_eq_false (by omega), F44.t7, zH, F44.v6, zE, yX, jT, F44.t22_s, sAdd (by omega)]
  exact hR _ _ _ _ _ _ _ _ _ (by omega) ⟨i + 1, rfl, rfl, by omega, gE hx ha (uZ ha2), H6⟩
 have hy : S[k]? = some S[k] := List.getElem?_eq_getElem hlt2
 have hym := List.getElem_mem hlt2
 have hdy := hS.dp _ hym
 have e1 : ∀ op : AV → OP, zO 2 (encG G) (I (i : Int)) op = op (.fp (encI G[i].1 :: .bool G[i].2 :: (zV G).drop ((i + 1) * 2))) := fun op => by rw [sIxL rfl hlt, yN hlt]
 have e2 : ∀ op : AV → OP, zO 2 (encG S) (I (k : Int)) op = op (.fp (encI S[k].1 :: .bool S[k].2 :: (zV S).drop ((k + 1) * 2))) := fun op => by rw [sIxL rfl hlt2, yN hlt2]
 rw [decide_eq_true (by omega), F44.t7, zH, F44.v6, zD, zQ, F44.t16, zA, F44.t14, zP, F44.t13, zA, F44.t9_s, e1, y5, e2, y5, e1, y5]
 refine wX (a := G[i]) (b := S[k]) (fun z hz => by rw [hdx.1.1]; exact hdy.1.2 z hz) (by rw [hdy.1.1]; omega) _ _ _ _ ?_
 rintro _ rfl _
 try simp only [e1, e2, y5, zB]
 refine inv63 (a := G[i]) hdx.perm (by rw [hdx.1.1]; omega) _ _ _ _ ?_
 rintro _ rfl _
 have hdi := wU hdx
 have hdxy := (jM n).dm _ _ hdx hdy
 try simp only [zB]
 refine wX (a := zF G[i] S[k]) (b := invS G[i]) (fun z hz => by rw [hdxy.1.1]; exact hdi.1.2 z hz) (by rw [hdi.1.1]; omega) _ _ _ _ ?_
 rintro _ rfl _
 try simp only [zB]
 refine dT (a := conj G[i] S[k]) (by omega) (fun g hg => by have := (hS.dp g hg).1.1; omega) _ _ _ _ ?_
 rintro _ ⟨r, rfl, hr⟩ _
 rw [sLss, F44.t12, zH, F44.v7]
 by_cases c : r < 0
 ·rw [decide_eq_true c, zD, F44.t11, zA, F44.t10_s]
  simp only [zZ, p9, yR]
  rw [F44.ret]
  refine hK _ _ _ _ _ H6 (zJ rfl) (congrArg AV.bool ?_)
  refine (Bool.eq_false_iff.2 fun q => ?_).symm
  exact hr.1 c (of_decide_eq_true (List.all_eq_true.1 (List.all_eq_true.1 q _ hxm) _ hym))
 ·rw [decide_eq_false c, zE, zQ, F44.t15_s, sAdd (by omega)]
  exact hR' _ _ _ _ _ _ _ (by omega) ⟨k + 1, rfl, rfl, by omega, gE hy ha2 (decide_eq_true (Decidable.byContradiction fun q => c (hr.2 q))), H6⟩
end Go.Ev
namespace Go.Ev
open Go Go.Proofs
variable {B : Nat}
set_option maxRecDepth 100000
theorem heavyB_no {G : List Sym} {n : Int} (h : kM G n = false) : (G.length : Int) ≤ n ∧ ∀ g ∈ G, g.1.length ≤ 16 := by
 simp only [kM, Bool.or_eq_false_iff, decide_eq_false_iff_not, List.any_eq_false, decide_eq_true_eq] at h
 exact ⟨by omega, fun g hg => by have := h.2 g hg; omega⟩
end Go.Ev
namespace Go.Ev
open Go Go.Proofs
variable {B : Nat}
set_option maxRecDepth 100000
theorem law7 {G S : List Sym} {n : Int} (haw : ∀ {B}, Pure Tryz.prog B 18 [] (· = .bool true)) : Pure Tryz.prog B 7 [encG G, encG S, I n] (· = .bool true) := by
 refine yI fun h nx K H0 hK => zR zS dreg 1000 fun hf => ?_
 have awk : ∀ (h : T Blk) (nx : Pa) (Z : Kw Prop), Z (.bool true) h nx = .ok True → (CS Tryz.prog B).fn 18 (.of 18) [] h nx Z = .ok True := fun h nx Z hZ => haw _ _ _ _ fun v hv _ => by rw [hv]; exact hZ
 have ret : ∀ {h1 nx1 L}, Hp h h1 nx1 L → K (.bool true) h1 nx1 = .ok True := fun H => hK _ _ _ _ _ H (zJ rfl) rfl
 rw [F7.go, F7.t26, zA, F7.t0_s, F7.t25, zA, F7.t5, zA, F7.t1_s, F7.r1_0, F7.r1_0_g]
 refine awk _ _ _ ?_
 rw [F7.r1_1, F7.r1_1_g, jB, Bool.not_true]
 simp only [gY, gW_ff]
 (refine heavy19 (by decide) _ _ _ _ ?_; rintro _ rfl _)
 by_cases c1 : kM G 24 = true
 ·rw [c1, F7.r1_2, F7.r1_2_g, yT]
  simp only [uD, gW_tf]
  rw [F7.r1_3, F7.r1_3_g, yO, F7.t4, zH, F7.v9, zD, F7.t3, zA, F7.t2_s]
  refine awk _ _ _ ?_
  simp only [zZ, yR]
  rw [F7.ret]
  exact ret H0
 have c1 : kM G 24 = false := by cases q : kM G 24 <;> simp_all
 rw [c1, F7.r1_2, F7.r1_2_g, yT]
 simp only [gY, gW_ff]
 (refine heavy19 (by decide) _ _ _ _ ?_; rintro _ rfl _)
 rw [F7.r1_3, F7.r1_3_g, yT, F7.t4, zH, F7.v9]
 by_cases c2 : kM S 24 = true
 ·rw [c2, zD, F7.t3, zA, F7.t2_s]
  refine awk _ _ _ ?_
  simp only [zZ, yR]
  rw [F7.ret]
  exact ret H0
 have c2 : kM S 24 = false := by cases q : kM S 24 <;> simp_all
 obtain ⟨hG1, hw⟩ := heavyB_no c1
 obtain ⟨hS1, hw2⟩ := heavyB_no c2
 rw [c2, zE, zQ, F7.t24, zA, F7.t6_s]
 refine cosets39 (by omega) (fun a ha => by have := hw a ha; omega) (by omega) (fun a ha => by have := hw2 a ha; omega) _ _ _ _ ?_
 rintro _ rfl _
 obtain ⟨cv, ce, hcv⟩ : ∃ cv ce, cosV G S n = .tup [cv, I ce] := by unfold cosV; split <;> exact ⟨_, _, rfl⟩
 obtain ⟨nv, ne, hnv⟩ : ∃ nv ne, nrmV G S n = .tup [.bool nv, I ne] := by unfold nrmV; split <;> exact ⟨_, _, rfl⟩
 rw [hcv, jD, jG, F7.t23, zA, F7.t7_s]
 refine isNormal40 (by omega) (fun a ha => by have := hw a ha; omega) (by omega) (fun a ha => by have := hw2 a ha; omega) _ _ _ _ ?_
 rintro _ rfl _
 rw [hnv, jD, jG, F7.t22, zA, F7.t8_s]
 refine mE (by omega) _ _ _ _ ?_
 rintro _ rfl _
 refine mE (by omega) _ _ _ _ ?_
 rintro _ rfl _
 refine H0.bslice (l := [I (yA G n), I (yA S n)]) rfl fun tb h5 nx5 H5 => ?_
 refine xX (l := [yA G n, yA S n]) H5 (k := 0) rfl (fun B => first41 (by simp)) (fun v hv => by rw [hv]; exact .int _ _) ?_
 rintro _ rfl
 have eF : gM [yA G n, yA S n] = if yA G n ≠ 0 then yA G n else if yA S n ≠ 0 then yA S n else 0 := rfl
 have rest : ∀ (x10 : AV) (bad : Int), bad = subE G S n → IR.run F7.t20 (CS Tryz.prog B) 1000 (fnO F7.res K) (retK F7.res K) (F7.fr (encG G) (encG S) (I n) (.bool false) cv (I ce) (.bool nv) (I ne) (I bad) (.bool false) x10 .undef) h5 nx5 = .ok True := by
  rintro x10 bad rfl
  rw [F7.t20, zA, F7.t17, zA, F7.t13_s, sNeq, F7.t16, zH, F7.v11]
  by_cases c3 : subE G S n = 0
  case neg =>
   rw [cosV, if_pos c3] at hcv
   rw [nrmV, if_pos c3] at hnv
   cases hcv
   cases hnv
   rw [decide_eq_false c3, Bool.not_false, zD, F7.t15, zA, F7.t14_s, F7.r9_0, F7.r9_0_g]
   refine symG_bad c3 _ _ _ _ ?_
   rintro _ rfl _
   rw [F7.r9_1, F7.r9_1_g]
   simp only [gX, jB, Bool.not_false, yO, sEql, decide_true]
   rw [F7.r9_2, F7.r9_2_g]
   simp only [yO, zZ, yR]
   rw [F7.ret]
   exact ret H5
  rw [cosV, if_neg (by simp [c3])] at hcv
  rw [nrmV, if_neg (by simp [c3])] at hnv
  cases hcv
  cases hnv
  have hsub := c3
  unfold subE at hsub
  split at hsub
  ·rename_i q; exact absurd hsub q
  rename_i g1
  split at hsub
  ·rename_i q; exact absurd hsub q
  rename_i g2
  split at hsub
  case isFalse => cases hsub
  rename_i g3
  obtain ⟨n1, hn1, ok1⟩ := pW (show yA G n = 0 from Decidable.byContradiction g1)
  obtain ⟨n2, hn2, ok2⟩ := pW (show yA S n = 0 from Decidable.byContradiction g2)
  obtain rfl : n1 = n2 := by omega
  have hs : ∀ a ∈ S, a ∈ G := fun a ha => of_decide_eq_true (List.all_eq_true.1 g3 a ha)
  rw [decide_eq_true c3, Bool.not_true, zE, zQ, F7.t19, zA, F7.t18_s, F7.r10_0, F7.r10_0_g]
  refine cosets43 ok1 ok2 hs _ _ _ _ ?_
  rintro _ rfl _
  rw [F7.r10_1, F7.r10_1_g, cosR_eq ok1 ok2 hs]
  have hcl : (cosL G S).length ≤ G.length := List.length_filter_le _ _
  refine symG_ok (by omega) (fun g hg => by have := hw g (List.mem_filter.1 hg).1; omega) _ _ _ _ ?_
  rintro _ rfl _
  rw [F7.r10_2, F7.r10_2_g]
  simp only [gX, sEql, decide_true, yO]
  rw [F7.r10_3, F7.r10_3_g, gW_tt]
  refine isNormal44 ok1 ok2 _ _ _ _ ?_
  rintro _ rfl _
  rw [F7.r10_4, F7.r10_4_g, gX, sEqlB', decide_eq_true rfl]
  simp only [yO, zZ, yR]
  rw [F7.ret]
  exact ret H5
 rw [F7.t21, zA, F7.t12, zA, F7.t9_s, sEql, F7.t11, zH, F7.v10]
 by_cases c3 : gM [yA G n, yA S n] = 0
 ·rw [decide_eq_true c3, zD, F7.t10_s]
  refine subset42 (by omega) (by omega) (fun g hg => by have := hw g hg; omega) _ _ _ _ ?_
  rintro _ rfl _
  rw [jB]
  (refine when37 _ _ _ _ _ _ ?_; rintro _ rfl _)
  refine rest _ _ ?_
  have z := mH c3
  have z1 : yA G n = 0 := z _ (by simp)
  have z2 : yA S n = 0 := z _ (by simp)
  rw [subE, if_neg (show ¬ yA G n ≠ 0 by simp [z1]), if_neg (show ¬ yA S n ≠ 0 by simp [z2])]
  cases S.all (fun a => decide (a ∈ G)) <;> rfl
 ·rw [decide_eq_false c3, zE, zQ]
  refine rest _ _ ?_
  rw [eF] at c3 ⊢
  unfold subE
  by_cases q1 : yA G n = 0
  ·have q1' : ¬ yA G n ≠ 0 := fun q => q q1
   rw [if_neg q1'] at c3 ⊢
   rw [if_neg q1']
   by_cases q2 : yA S n = 0
   ·rw [if_neg (show ¬ yA S n ≠ 0 from fun q => q q2)] at c3; exact absurd rfl c3
   ·rw [if_pos (show yA S n ≠ 0 from q2), if_pos (show yA S n ≠ 0 from q2)]
  ·rw [if_pos (show yA G n ≠ 0 from q1), if_pos (show yA G n ≠ 0 from q1)]
end Go.Ev
