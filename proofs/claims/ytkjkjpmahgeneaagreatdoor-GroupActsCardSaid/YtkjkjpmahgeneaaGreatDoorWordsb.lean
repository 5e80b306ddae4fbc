import Derived.Test.YtkjkjpmahgeneaaGreatDoorWordsa
import Derived.Test.YtkjkjpmahgeneaaGreatDoorCodea
import Derived.Test.YtkjkjpmahgeneaaGreatDoorEvD
import Derived.Test.YtkjkjpmahgeneaaGreatDoorLaws
import Derived.Shelf.SlSortCmp.Whole1
import Derived.Deep.Slices
import Derived.Sort.Grow
import Derived.Sort.Row
import GoSem.Core.Next
set_option linter.unusedSimpArgs false
set_option linter.unusedVariables false
namespace Go.Ev
theorem jU (c : Bool) (g f : List Int) : (yK c g f).length = f.length := jL _ _ _ _ _
theorem xOf_xOf (n : Nat) (a b : Bool) (x : Int) : xOf n a (xOf n b x) = xOf n (a != b) x := by
 cases a <;> cases b <;> simp [xOf] <;> omega
theorem DP.surj {n : Nat} {a : Sym} (ha : DP n a) {j : Nat} (hj : j < n) : ∃ i, i < n ∧ a.1.getD i 0 = (j : Int) := by
 have h1 := ha.1.1
 obtain ⟨i, hi, e⟩ := ha.perm.surj (show j < a.1.length by omega)
 exact ⟨i, by omega, by rw [List.getD_eq_getElem?_getD, e]; rfl⟩
theorem kX {n : Nat} {a : Sym} (ha : DP n a) {f : List Int} (hf : f.length = n) {k : Nat} (hk : k < n) : (yK a.2 a.1 f)[(a.1.getD k 0).toNat]? = some (xOf n a.2 (f.getD k 0)) := by
 have h1 := ha.1.1
 have := applyS_get (c := a.2) ha.perm (show a.1.length = f.length by omega) (show k < f.length by omega)
 rw [hf] at this
 exact this
theorem apply_comp {n : Nat} {a b : Sym} (ha : DP n a) (hb : DP n b) {f : List Int} (hf : f.length = n) : yK (zK a b).2 (zK a b).1 f = yK a.2 a.1 (yK b.2 b.1 f) := by
 have hc := (jG n).dm a b ha hb
 have hl := jU b.2 b.1 f
 refine u4 (n := n) (by rw [jU, hf]) (by rw [jU, jU, hf]) fun j hj => ?_
 obtain ⟨i, hi, e⟩ := hc.surj hj
 have g1 := kX hc hf hi
 obtain ⟨_, b1, b2⟩ := hb.1.get hi
 have hk : (b.1.getD i 0).toNat < n := by omega
 have g2 := kX hb hf hi
 have g3 := kX ha (show (yK b.2 b.1 f).length = n by omega) hk
 rw [List.getD_eq_getElem?_getD (l := yK b.2 b.1 f), g2] at g3
 have e2 : a.1.getD (b.1.getD i 0).toNat 0 = (j : Int) := by
  rw [← e, List.getD_eq_getElem?_getD (l := (zK a b).1), gX hb.1 hi]; rfl
 rw [e2, Int.toNat_natCast] at g3
 rw [e, Int.toNat_natCast] at g1
 rw [g1, g3]
 congr 1
 exact (xOf_xOf n a.2 b.2 _).symm
theorem apply_id {n : Nat} {f : List Int} (hf : f.length = n) : yK (idS n).2 (idS n).1 f = f := by
 have hd := (jG n).de
 refine u4 (n := n) (by rw [jU, hf]) hf fun j hj => ?_
 have e : (idS n).1.getD j 0 = (j : Int) := by
  show ((List.range n).map fun j : Nat => (j : Int)).getD j 0 = _
  rw [List.getD_eq_getElem?_getD, List.getElem?_map, List.getElem?_range hj]; rfl
 have := kX hd hf hj
 rw [e, Int.toNat_natCast] at this
 rw [this, List.getD_eq_getElem?_getD, List.getElem?_eq_getElem (by omega)]; rfl
def idL (n : Nat) : List Int := (List.range n).map fun j : Nat => (j : Int)
theorem m0 (n : Nat) : (idL n).length = n := by simp [idL]
theorem idL_get {n i : Nat} (h : i < n) : (idL n).getD i 0 = (i : Int) := by
 rw [idL, List.getD_eq_getElem?_getD, List.getElem?_map, List.getElem?_range h]; rfl
def invS (a : Sym) : Sym := (yK false a.1 (idL a.1.length), a.2)
theorem inv_get {n : Nat} {a : Sym} (ha : DP n a) {k : Nat} (hk : k < n) : (invS a).1[(a.1.getD k 0).toNat]? = some (k : Int) := by
 have h1 := ha.1.1
 have := applyS_get (c := false) ha.perm (f := idL a.1.length) (by rw [m0]) (k := k) (by rw [m0]; omega)
 rw [idL_get (by omega)] at this
 exact this
theorem wX {n : Nat} {a : Sym} (ha : DP n a) : DP n (invS a) := by
 have h1 := ha.1.1
 have hl : (invS a).1.length = n := by show (yK _ _ _).length = n; rw [jU, m0, h1]
 have hv : ∀ j, j < n → ∃ i, i < n ∧ a.1.getD i 0 = (j : Int) ∧ (invS a).1[j]? = some (i : Int) := fun j hj => by
  obtain ⟨i, hi, e⟩ := ha.surj hj
  have := inv_get ha hi
  rw [e, Int.toNat_natCast] at this
  exact ⟨i, hi, e, this⟩
 refine ⟨⟨hl, fun x hx => ?_⟩, ?_⟩
 ·obtain ⟨j, hj⟩ := List.getElem?_of_mem hx
  obtain ⟨i, hi, _, e⟩ := hv j (by rw [← hl]; exact (List.getElem?_eq_some_iff.1 hj).1)
  rw [hj] at e; cases e; omega
 ·rw [List.Nodup, List.pairwise_iff_getElem]
  intro i j hi hj hij e
  obtain ⟨a1, _, b1, c1⟩ := hv i (by omega)
  obtain ⟨a2, _, b2, c2⟩ := hv j (by omega)
  rw [List.getElem?_eq_getElem hi] at c1
  rw [List.getElem?_eq_getElem hj] at c2
  have e1 := Option.some.inj c1
  have e2 := Option.some.inj c2
  have : a1 = a2 := by omega
  subst this
  rw [b1] at b2
  omega
theorem inv_l {n : Nat} {a : Sym} (ha : DP n a) : zK (invS a) a = idS n := by
 refine Prod.ext (u4 (n := n) (by show (xG _ _).length = n; rw [gY, ha.1.1]) (by simp [idS]) fun i hi => ?_) (by show (a.2 != a.2) = false; cases a.2 <;> rfl)
 rw [gX ha.1 hi, List.getD_eq_getElem?_getD (l := (invS a).1), inv_get ha hi]
 show some (i : Int) = ((List.range n).map fun j : Nat => (j : Int))[i]?
 rw [List.getElem?_map, List.getElem?_range hi]; rfl
theorem inv_r {n : Nat} {a : Sym} (ha : DP n a) : zK a (invS a) = idS n := by
 have L := jG n
 have hb := wX ha
 have hc := wX hb
 have e1 := inv_l ha
 have e2 := inv_l hb
 have : a = invS (invS a) := by
  have q := L.assoc (invS (invS a)) (invS a) a hc hb ha
  rw [e2, e1, L.el a ha, L.er _ hc] at q
  exact q
 rw [show zK a (invS a) = zK (invS (invS a)) (invS a) by rw [← this]]
 exact e2
theorem inv_uniq {n : Nat} {a b : Sym} (ha : DP n a) (hb : DP n b) (h : zK a b = idS n) : b = invS a := by
 have L := jG n
 have hi := wX ha
 have q := L.assoc (invS a) a b hi ha hb
 rw [inv_l ha, h, L.el b hb, L.er _ hi] at q
 exact q
def conj (a b : Sym) : Sym := zK (zK a b) (invS a)
theorem conj_mul {n : Nat} {a b c : Sym} (ha : DP n a) (hb : DP n b) (hc : DP n c) : conj a (zK b c) = zK (conj a b) (conj a c) := by
 have L := jG n
 have hi := wX ha
 have hab := L.dm a b ha hb
 have hac := L.dm a c ha hc
 have hci := L.dm _ _ hac hi
 unfold conj
 rw [L.assoc (zK a b) (invS a) (zK (zK a c) (invS a)) hab hi hci, ← L.assoc (invS a) (zK a c) (invS a) hi hac hi, ← L.assoc (invS a) a c hi ha hc, inv_l ha, L.el c hc, ← L.assoc (zK a b) c (invS a) hab hc hi, L.assoc a b c ha hb hc]
theorem conj_comp {n : Nat} {a b c : Sym} (ha : DP n a) (hb : DP n b) (hc : DP n c) : conj (zK a b) c = conj a (conj b c) := by
 have L := jG n
 have hia := wX ha
 have hib := wX hb
 have hab := L.dm a b ha hb
 have e : invS (zK a b) = zK (invS b) (invS a) := by
  refine (inv_uniq hab (L.dm _ _ hib hia) ?_).symm
  rw [L.assoc a b _ ha hb (L.dm _ _ hib hia), ← L.assoc b (invS b) (invS a) hb hib hia, inv_r hb, L.el _ hia, inv_r ha]
 have hbc := L.dm b c hb hc
 unfold conj
 rw [e, L.assoc a b c ha hb hc, ← L.assoc (zK a (zK b c)) (invS b) (invS a) (L.dm _ _ ha hbc) hib hia, L.assoc a (zK b c) (invS b) ha hbc hib]
theorem conj_dp {n : Nat} {a b : Sym} (ha : DP n a) (hb : DP n b) : DP n (conj a b) := (jG n).dm _ _ ((jG n).dm _ _ ha hb) (wX ha)
def normB (G S : List Sym) : Bool := G.all fun a => S.all fun b => decide (conj a b ∈ S)
theorem normB_gen {G S u1 q1 u2 q2 : List Sym} {n : Nat} (hG : GrOk G n) (hS : GrOk S n) (hu1 : ∀ c ∈ u1, c ∈ G) (h1 : CloS n u1 q1) (hq1 : ∀ a, a ∈ q1 ↔ a ∈ G) (hu2 : ∀ c ∈ u2, c ∈ S) (h2 : CloS n u2 q2) (hq2 : ∀ a, a ∈ q2 ↔ a ∈ S) :
  (u1.all fun a => u2.all fun b => decide (conj a b ∈ S)) = normB G S := by
 rw [Bool.eq_iff_iff]
 simp only [normB, List.all_eq_true, decide_eq_true_eq]
 have L := jG n
 constructor
 ·intro h
  have k1 : ∀ a ∈ u1, ∀ b ∈ S, conj a b ∈ S := fun a ha b hb => by
   have da := hG.dp a (hu1 a ha)
   have := h2.ind (fun b => DP n b ∧ conj a b ∈ S) ⟨L.de, by unfold conj; rw [L.er a da, inv_r da]; exact hS.one⟩ (fun x hx c hc => by
    have dc := hS.dp c (hu2 c hc)
    exact ⟨L.dm _ _ dc hx.1, by rw [conj_mul da dc hx.1]; exact hS.cl _ (h a ha c hc) _ hx.2⟩) b ((hq2 b).2 hb)
   exact this.2
  intro a ha
  have := h1.ind (fun a => DP n a ∧ ∀ b ∈ S, conj a b ∈ S) ⟨L.de, fun b hb => by
   have e : invS (idS n) = idS n := (inv_uniq L.de L.de (L.el _ L.de)).symm
   unfold conj
   rw [e, L.er _ (L.dm _ _ L.de (hS.dp b hb)), L.el b (hS.dp b hb)]; exact hb⟩ (fun x hx c hc => by
    have dc := hG.dp c (hu1 c hc)
    exact ⟨L.dm _ _ dc hx.1, fun b hb => by rw [conj_comp dc hx.1 (hS.dp b hb)]; exact k1 c hc _ (hx.2 b hb)⟩) a ((hq1 a).2 ha)
  exact this.2
 ·intro h a ha b hb
  exact h a (hu1 a ha) b (hu2 b hb)
end Go.Ev
namespace Go.Ev
open Go Go.Proofs
variable {B : Nat}
set_option maxRecDepth 100000
theorem inv124 {a : Sym} {n : Nat} (ha : DP n a) (hn : n ≤ 1000) : Pure Tryz.prog B 124 [encS a] (· = encS (invS a)) := by
 have hl := ha.1.1
 refine yV fun h nx K H0 hK => zS zV dreg 10000 fun hf' => ?_
 rw [F124.go, F124.t20, zA, F124.t0_s]
 refine H0.box (l := [encI a.1, .bool a.2]) rfl fun b1 h1 nx1 H1 => ?_
 refine H1.alloc fun b2 h2 nx2 H2 => ?_
 have ld0 : ∀ {hh nn L'} (HH : Hp h hh nn (L' ++ [.arr b2 [.nils, .bool false], .arr b1 [encI a.1, .bool a.2]])) (op : AV → OP), zF (.ptr b1 (0 + 0)) hh op = op (encI a.1) := fun {hh nn L'} HH op => HH.load (k := L'.length + 1) (i := 0) (l := [encI a.1, .bool a.2]) (by rw [List.getElem?_append_right (by omega)]; simp) rfl
 have ld1 : ∀ {hh nn L'} (HH : Hp h hh nn (L' ++ [.arr b2 [.nils, .bool false], .arr b1 [encI a.1, .bool a.2]])) (op : AV → OP), zF (.ptr b1 (0 + 1)) hh op = op (.bool a.2) := fun {hh nn L'} HH op => HH.load (k := L'.length + 1) (i := 1) (l := [encI a.1, .bool a.2]) (by rw [List.getElem?_append_right (by omega)]; simp) rfl
 have mk : mkSl 8 (I (a.1.length : Int)) (I (a.1.length : Int)) = true := by
  show (Nat.ble a.1.length a.1.length && Nat.ble a.1.length 1000000 && Nat.ble (8 * a.1.length) 281474976710656) = true
  rw [Nat.ble_eq_true_of_le (Nat.le_refl _), Nat.ble_eq_true_of_le (by omega), Nat.ble_eq_true_of_le (by omega)]; rfl
 rw [F124.t19, zA, F124.t1_s]
 simp only [Bool.and_self, j8, sFx]
 rw [ld0 (L' := []) H2, zJ, mk]
 simp only [Bool.and_self, j8]
 rw [ld1 (L' := []) H2]
 refine H2.mk1 a.1.length rfl rfl (by omega) (by decide) fun tb h3 nx3 H3 => ?_
 rw [ld1 (L' := [_]) H3]
 simp only [zB, zJ]
 rw [ld0 (L' := [_]) H3]
 try simp only [zB]
 rw [dV rfl rfl]
 refine H3.alloc fun b3 h4 nx4 H4 => ?_
 rw [dV rfl rfl]
 try simp only [zB]
 rw [ld1 (L' := [_, _]) H4]
 try simp only [zB, zJ]
 rw [ld0 (L' := [_, _]) H4]
 try simp only [zB]
 refine H4.storeN (k := 0) (n := 2) rfl rfl rfl fun h5 H5 => ?_
 rw [F124.t18, zA, F124.t15, zA, F124.t2_s, sFx, ld0 (L' := [_, _]) H5, zJ]
 have e0 : List.replicate a.1.length (I 0) = (uN a.1.length false a.1 (idL a.1.length) 0).map I := by simp [uN]
 rw [e0] at H5
 rw [F124.t14, zQ]
 refine F124.t13_L (fun m x8 h' nx' => ∃ i : Nat, x8 = I i ∧ m = a.1.length - i ∧ i ≤ a.1.length ∧ Hp h h' nx' [.arr b3 [.sl tb 0 a.1.length (some a.1.length) 1, .bool a.2], .arr tb ((uN a.1.length false a.1 (idL a.1.length) i).map I), .arr b2 [.nils, .bool false], .arr b1 [encI a.1, .bool a.2]]) (m := a.1.length) (by omega)
  ⟨0, rfl, by omega, by omega, H5⟩ ?_
 rintro m z4 z5 z8 z9 h6 nx6 R ⟨i, rfl, rfl, hi, H6⟩ hR
 rw [F124.t12, zA, F124.t3_s, sLss]
 by_cases hlt : i < a.1.length
 case neg =>
  rw [decide_eq_false (by omega), F124.t11, zA, F124.t4, zG, F124.v9, zE, jM, gZ, F124.t17, zA, F124.t16_s, H6.loadN (k := 0) (n := 2) rfl rfl]
  refine H6.storeN (k := 2) (n := 2) rfl rfl rfl fun h7 H7 => ?_
  simp only [yA, yT]
  rw [F124.ret, H7.loadN (k := 2) (n := 2) rfl rfl]
  obtain rfl : i = a.1.length := by omega
  have hal := jL a.1.length false a.1 (idL a.1.length) a.1.length
  have e : invS a = (uN a.1.length false a.1 (idL a.1.length) a.1.length, a.2) := by
   unfold invS yK; rw [m0]
  refine hK _ _ _ _ (encS (invS a)) H7 (xQ ?_ (zI rfl) rfl) rfl
  rw [e]
  have := H7.frzArr (k := 1) (e := 1) (n := a.1.length) (cap := some a.1.length) rfl (Nat.le_refl _) (by simp [hal]) fixdI
  show FrzN h h7 _ (AV.lst 1 (uN _ _ _ _ _).length _)
  rw [hal]
  exact this
 rw [decide_eq_true (by omega), F124.t11, zA, F124.t4, zG, F124.v9, zD, zN]
 have hx : a.1[i]? = some a.1[i] := List.getElem?_eq_getElem hlt
 have hgb := ha.perm.2 _ (List.getElem_mem hlt)
 have hgd : a.1.getD i 0 = a.1[i] := by rw [List.getD_eq_getElem?_getD, hx]; rfl
 rw [F124.t10, zA, F124.t8, zQ, F124.t7, zA, F124.t5_s, sIxL rfl hlt, ldL (getI hx), F124.t6_s, sFx, H6.load (k := 0) (i := 0 + 0) rfl rfl, sIx (i := (a.1[i]).toNat) (by omega) (by omega)]
 refine H6.store (k := 1) rfl (by rw [List.length_map, jL]; omega) rfl fun h7 H7 => ?_
 rw [F124.t9_s, sAdd (by omega)]
 refine hR _ _ _ _ _ _ _ (by omega) ⟨i + 1, rfl, rfl, by omega, H7.cast ?_⟩
 rw [kE, hgd, idL_get hlt]
 simp [List.map_set, xOf]
def nrmV (G S : List Sym) (n : Int) : AV := if subE G S n ≠ 0 then .tup [.bool false, I (subE G S n)] else .tup [.bool (normB G S), I 0]
theorem qZ {α : Type} {l : List α} {p : α → Bool} {i : Nat} {x : α} (hx : l[i]? = some x) (h : (l.take i).all p = true) (hp : p x = true) : (l.take (i + 1)).all p = true := by
 rw [List.take_add_one, hx, List.all_append, h]; simp [hp]
theorem pO {α : Type} {l : List α} {p : α → Bool} (h : (l.take l.length).all p = true) : l.all p = true := by rwa [List.take_of_length_le (Nat.le_refl _)] at h
theorem isNormal40 {G S : List Sym} {n : Int} (hG : G.length ≤ 100000) (hw : ∀ g ∈ G, g.1.length ≤ 100000) (hS : S.length ≤ 100000) (hw2 : ∀ g ∈ S, g.1.length ≤ 100000) : Pure Tryz.prog B 40 [encG G, encG S, I n] (· = nrmV G S n) := by
 refine yV fun h nx K H0 hK => zS zV dreg 10000000 fun hf' => ?_
 rw [F40.go, F40.t43, zA, F40.t0_s, F40.t42, zA, F40.t1_s]
 refine mM hG hw hS hw2 H0 (fun e h2 nx2 X he hne H2 => ?_) fun n' u1 q1 u2 q2 g o1 o2 h2 nx2 X hn ok1 ok2 hse hu1 hul1 hC1 hq1 hu2 hul2 hC2 hq2 hsub H2 => ?_
 ·rw [yU, yX, j7]
  refine H2.alloc fun b6 h3 nx3 H3 => ?_
  refine H3.storeN (k := 0) (n := 2) rfl rfl rfl fun h4 H4 => ?_
  rw [F40.t41, zA, F40.t6, zA, F40.t2_s, sNeq, decide_eq_false hne, Bool.not_false, F40.t5, zG, F40.v10, zD, F40.t4, zA, F40.t3_s]
  simp only [yA, yT]
  rw [F40.ret]
  exact hK _ _ _ _ _ H4 (j6 (zI rfl) (zI rfl)) (by rw [nrmV, ← he, if_pos hne])
 subst hn
 have hn256 := ok1.n256
 have hgen := normB_gen ok1 ok2 hu1 hC1 hq1 hu2 hC2 hq2
 rw [yU, yX, j7]
 refine H2.alloc fun b6 h3 nx3 H3 => ?_
 refine H3.storeN (k := 0) (n := 2) rfl rfl rfl fun h4 H4 => ?_
 rw [F40.t41, zA, F40.t6, zA, F40.t2_s, sNeq, decide_eq_true rfl, Bool.not_true, F40.t5, zG, F40.v10, zE, zN, F40.t40, zA, F40.t37, zA, F40.t7_s, sAx0, H4.load (k := 0) (i := 0) rfl rfl, H4.groLen (k := 3) rfl]
 have hd2 : ∀ b ∈ q2, DS n' b := fun b hb => (ok2.dp b ((hq2 b).1 hb)).1
 have no : ∀ {h' nx' L'}, Hp h h' nx' L' → (∃ a ∈ u1, ∃ b ∈ u2, conj a b ∉ S) → K (.tup [.bool false, I 0]) h' nx' = .ok True := fun H' ⟨a, ha, b, hb, hc⟩ => by
  refine hK _ _ _ _ _ H' (j6 (zI rfl) (zI rfl)) ?_
  rw [nrmV, hse, if_neg (by decide), ← hgen]
  congr 3
  refine (Bool.eq_false_iff.2 fun q => ?_).symm
  have := List.all_eq_true.1 (List.all_eq_true.1 q a ha) b hb
  exact hc (of_decide_eq_true this)
 rw [F40.t36, zQ]
 refine F40.t35_L (fun m x13 h' nx' => ∃ i : Nat, x13 = I i ∧ m = u1.length - i ∧ i ≤ u1.length ∧ (u1.take i).all (fun a => u2.all fun b => decide (conj a b ∈ S)) = true ∧ Hp h h' nx' (.arr b6 [rowV o1 2 u1.length, rowV o2 2 u2.length] :: .map g (entS q2) :: .gro o2 2 u2.length (yL u2) :: .gro o1 2 u1.length (yL u1) :: (X ++ []))) (m := u1.length) (by omega)
  ⟨0, rfl, by omega, by omega, by simp, H4⟩ ?_
 rintro m z3 z4 z8 z9 z13 z14 z15 z16 z17 z18 z19 h6 nx6 R ⟨i, rfl, rfl, hi, hal, H6⟩ hR
 rw [F40.t34, zA, F40.t8_s, sLss]
 by_cases hlt : i < u1.length
 case neg =>
  rw [decide_eq_false (by omega), F40.t33, zA, F40.t9, zG, F40.v14, zE, jM, gZ, F40.t39, zA, F40.t38_s]
  simp only [yA, yT]
  rw [F40.ret]
  obtain rfl : i = u1.length := by omega
  exact hK _ _ _ _ _ H6 (j6 (zI rfl) (zI rfl)) (by rw [nrmV, hse, if_neg (by decide), ← hgen, pO hal])
 rw [decide_eq_true (by omega), F40.t33, zA, F40.t9, zG, F40.v14, zD, zN, F40.t32, zA, F40.t30, zQ, F40.t29, zA, F40.t10_s]
 have hx : u1[i]? = some u1[i] := List.getElem?_eq_getElem hlt
 have hxm := List.mem_of_getElem? hx
 have hdx := ok1.dp _ (hu1 _ hxm)
 obtain ⟨iu, ou, e1, e2⟩ := groIx2 (k := 3) H6 rfl hx
 rw [e1, e2]
 refine H6.alloc fun b8 h7 nx7 H7 => ?_
 refine H7.storeN (k := 0) (n := 2) rfl rfl rfl fun h8 H8 => ?_
 rw [F40.t28, zA, F40.t11_s, sAx1, H8.load (k := 1) (i := 0 + 1) rfl rfl, H8.groLen (k := 3) rfl, F40.t27, zQ]
 refine F40.t26_L (fun m x17 h' nx' => ∃ k : Nat, x17 = I k ∧ m = u2.length - k ∧ k ≤ u2.length ∧ (u2.take k).all (fun b => decide (conj u1[i] b ∈ S)) = true ∧ Hp h h' nx' (.arr b8 [encI u1[i].1, .bool u1[i].2] :: .arr b6 [rowV o1 2 u1.length, rowV o2 2 u2.length] :: .map g (entS q2) :: .gro o2 2 u2.length (yL u2) :: .gro o1 2 u1.length (yL u1) :: (X ++ []))) (m := u2.length) (by omega)
  ⟨0, rfl, by omega, by omega, by simp, H8⟩ ?_
 rintro m y3 y4 y9 y17 y18 y19 h9 nx9 R' ⟨k, rfl, rfl, hk, hal2, H9⟩ hR'
 rw [F40.t25, zA, F40.t12_s, sLss]
 by_cases hlt2 : k < u2.length
 case neg =>
  rw [decide_eq_false (by omega), F40.t24, zA, F40.t13, zG, F40.v18, zE, jM, gZ, F40.t31_s, sAdd (by omega)]
  obtain rfl : k = u2.length := by omega
  exact hR _ _ _ _ _ _ _ _ _ _ _ _ _ _ (by omega) ⟨i + 1, rfl, rfl, by omega, qZ hx hal (pO hal2), H9.drop⟩
 rw [decide_eq_true (by omega), F40.t24, zA, F40.t13, zG, F40.v18, zD, zN, F40.t23, zA, F40.t21, zQ, F40.t20, zA, F40.t14_s]
 have hy : u2[k]? = some u2[k] := List.getElem?_eq_getElem hlt2
 have hym := List.mem_of_getElem? hy
 have hdy := ok2.dp _ (hu2 _ hym)
 obtain ⟨iv, ov, e3, e4⟩ := groIx2 (k := 3) H9 rfl hy
 rw [e3, e4]
 refine H9.alloc fun b9 h10 nx10 H10 => ?_
 refine H10.storeN (k := 0) (n := 2) rfl rfl rfl fun h11 H11 => ?_
 rw [F40.t19, zA, F40.t15_s, H11.loadN (k := 1) (n := 2) rfl rfl, H11.loadN (k := 0) (n := 2) rfl rfl, H11.loadN (k := 1) (n := 2) rfl rfl]
 refine xY (a := u1[i]) (b := u2[k]) (fun z hz => by rw [hdx.1.1]; exact hdy.1.2 z hz) (by rw [hdy.1.1]; omega) _ _ _ _ ?_
 rintro _ rfl _
 rw [H11.loadN (k := 1) (n := 2) rfl rfl, zB, zB]
 refine inv124 (a := u1[i]) hdx (by omega) _ _ _ _ ?_
 rintro _ rfl _
 have hdi := wX hdx
 have hdxy := (jG n').dm _ _ hdx hdy
 rw [zB]
 refine xY (a := zK u1[i] u2[k]) (b := invS u1[i]) (fun z hz => by rw [hdxy.1.1]; exact hdi.1.2 z hz) (by rw [hdi.1.1]; omega) _ _ _ _ ?_
 rintro _ rfl _
 rw [zB]
 have hdc : DP n' (conj u1[i] u2[k]) := conj_dp hdx hdy
 refine has204 (a := conj u1[i] u2[k]) hn256 hdc.1 hd2 H11 (k := 3) rfl ?_
 rw [jA, F40.t18, zG, F40.v19]
 by_cases c : conj u1[i] u2[k] ∈ q2
 ·rw [decide_eq_true c, Bool.not_true, zE, zN, F40.t22_s, sAdd (by omega)]
  exact hR' _ _ _ _ _ _ _ _ _ (by omega) ⟨k + 1, rfl, rfl, by omega, qZ hy hal2 (decide_eq_true ((hq2 _).1 c)), H11.drop⟩
 ·rw [decide_eq_false c, Bool.not_false, zD, F40.t17, zA, F40.t16_s]
  simp only [yA, dO, yT]
  rw [F40.ret]
  exact no H11 ⟨_, hxm, _, hym, fun q => c ((hq2 _).2 q)⟩
end Go.Ev
namespace Go.Ev
abbrev AscS (l : List Sym) : Prop := l.Pairwise fun a b => befS a b = true
theorem AscS.nd {l : List Sym} (h : AscS l) : l.Nodup := h.imp fun hab e => by rw [e, qK] at hab; cases hab
theorem asc_uniq : ∀ {a b : List Sym}, AscS a → AscS b → (∀ x, x ∈ a ↔ x ∈ b) → a = b
 | [], [], _, _, _ => rfl
 | [], y :: b, _, _, h => by have := (h y).2 (by simp); cases this
 | x :: a, [], _, _, h => by have := (h x).1 (by simp); cases this
 | x :: a, y :: b, ha, hb, h => by
  have ha' := List.pairwise_cons.1 ha
  have hb' := List.pairwise_cons.1 hb
  have e : x = y := by
   have h1 := (h x).1 (by simp)
   have h2 := (h y).2 (by simp)
   rcases List.mem_cons.1 h1 with q | q
   ·exact q
   ·rcases List.mem_cons.1 h2 with r | r
    ·exact r.symm
    ·have h3 := hb'.1 x q
     have h4 := ha'.1 y r
     rw [befS_asymm h3] at h4; cases h4
  subst e
  congr 1
  refine asc_uniq ha'.2 hb'.2 fun z => ?_
  have hz := h z
  simp only [List.mem_cons] at hz
  constructor
  ·intro q
   rcases hz.1 (.inr q) with rfl | r
   ·have := ha'.1 z q; rw [qK] at this; cases this
   ·exact r
  ·intro q
   rcases hz.2 (.inr q) with rfl | r
   ·have := hb'.1 z q; rw [qK] at this; cases this
   ·exact r
end Go.Ev
namespace Go.Ev
open Go Go.Proofs
theorem ordS_bef {a b : Sym} (h : a ≠ b) (h2 : ordS a b ≤ 0) : befS a b = true := by
 rw [wE] at h2
 unfold befS
 by_cases c : a.1 = b.1
 ·rw [if_pos c] at h2 ⊢
  have : a.2 ≠ b.2 := fun q => h (Prod.ext c q)
  revert h2 this; cases a.2 <;> cases b.2 <;> simp
 ·rw [if_neg c] at h2 ⊢
  rw [wG]
  have := p7 c
  exact decide_eq_true (by omega)
theorem asc_of_ord {s : List Sym} (hn : s.Nodup) (h : s.Pairwise fun a b => ordS a b ≤ 0) : AscS s := (List.pairwise_and_iff.2 ⟨hn, h⟩).imp fun ⟨h1, h2⟩ => ordS_bef h1 h2
end Go.Ev
namespace Go.Ev
open Go Go.Proofs
variable {B : Nat}
set_option maxRecDepth 100000
theorem CS_args {P : Program} {f : Nat} {p : Pa} {args args' : List AV} {h : T Blk} {nx : Pa} {K : Kw Prop} (hv : ∀ (E : Env) (vs : List Value), VRL E args vs → VRL E args' vs) (hk : (CS P B).fn f p args' h nx K = .ok True) : (CS P B).fn f p args h nx K = .ok True := by
 rw [CS_fn] at hk ⊢
 exact ⟨fun E w vs H hv' => hk.1 E w vs H (hv _ _ hv'), rfl⟩
theorem VR_nil0 {E : Env} {e : Nat} {vv : Value} (h : VR E .nils vv) : VR E (.lst e 0 []) vv := by
 simp only [VR] at h ⊢
 exact ⟨rfl, by simp, none, 0, h, .inl (by simp)⟩
def LG (v : AV) (l : List Sym) : Prop := (v = .nils ∧ l = []) ∨ (v = encG l ∧ l ≠ [])
theorem LG.len {v : AV} {l : List Sym} (h : LG v l) {op : AV → OP} : sLen v op = op (I l.length) := by
 rcases h with ⟨rfl, rfl⟩ | ⟨rfl, _⟩
 ·exact jD
 ·exact zJ ..
theorem LG.frz {v : AV} {l : List Sym} (h : LG v l) {N : Pa → Prop} {O : AV → Prop} {hh : T Blk} : Frz True N O hh v (encG l) := by
 rcases h with ⟨rfl, rfl⟩ | ⟨rfl, _⟩
 ·exact .lnils 2
 ·exact zI (fixd_encG _)
theorem LG.call {P : Program} {f : Nat} {p : Pa} {v : AV} {rest : List AV} {l : List Sym} (h : LG v l) {hh : T Blk} {nx : Pa} {K : Kw Prop} (hk : (CS P B).fn f p (encG l :: rest) hh nx K = .ok True) : (CS P B).fn f p (v :: rest) hh nx K = .ok True := by
 rcases h with ⟨rfl, rfl⟩ | ⟨rfl, _⟩
 ·refine CS_args (fun E vs hv => ?_) hk
  simp only [VRL] at hv ⊢
  obtain ⟨a, m, q, r, s⟩ := hv
  exact ⟨a, m, q, VR_nil0 r, s⟩
 ·exact hk
end Go.Ev
namespace Go.Ev
open Go.Proofs (ordL xL qQ kU uF)
abbrev AscT (l : List (List Int)) : Prop := l.Pairwise fun a b => gM a b = true
end Go.Ev
namespace Go.Ev
open Go Go.Proofs Go.RowKit Go.Sort
end Go.Ev
namespace Go.Ev
open Go Go.Proofs
variable {B : Nat}
set_option maxRecDepth 100000
def Kept (s r : List (List Int)) (j : Nat) : Prop := AscT r ∧ (∀ x, x ∈ r ↔ x ∈ s.take j) ∧ 1 ≤ r.length ∧ r.length ≤ j ∧ r.getLast? = s[j - 1]?
theorem Kept.same {s r : List (List Int)} {j : Nat} (hj : 1 ≤ j) (h : Kept s r j) (hl : j < s.length) (e : s[j] = s[j - 1]) : Kept s r (j + 1) := by
 obtain ⟨h1, h2, h3, h4, h5⟩ := h
 have hp : s[j - 1]? = some s[j - 1] := List.getElem?_eq_getElem (by omega)
 refine ⟨h1, fun x => ?_, h3, by omega, ?_⟩
 ·rw [h2, List.take_add_one, List.getElem?_eq_getElem hl, List.mem_append]
  constructor
  ·exact .inl
  ·rintro (q | q)
   ·exact q
   ·have : x = s[j - 1] := by rw [← e]; simpa using q
    rw [this]
    exact List.mem_of_getElem? (i := j - 1) (by rw [List.getElem?_take_of_lt (by omega)]; exact hp)
 ·rw [h5, hp, Nat.add_sub_cancel, List.getElem?_eq_getElem hl, e]
theorem Kept.new {s r : List (List Int)} {j : Nat} (hj : 1 ≤ j) (h : Kept s r j) (hs : s.Pairwise fun a b => ordL a b ≤ 0) (hl : j < s.length) (e : s[j] ≠ s[j - 1]) : Kept s (r ++ [s[j]]) (j + 1) := by
 obtain ⟨h1, h2, h3, h4, h5⟩ := h
 have hlt : ∀ x ∈ s.take j, gM x s[j] = true := fun x hx => by
  have hpw := List.pairwise_iff_getElem.1 hs
  obtain ⟨i, hi⟩ := List.getElem?_of_mem hx
  have hil := (List.getElem?_eq_some_iff.1 hi).1
  rw [List.length_take] at hil
  rw [List.getElem?_take_of_lt (by omega), List.getElem?_eq_getElem (by omega)] at hi
  obtain rfl := Option.some.inj hi
  have a1 := hpw i j (by omega) hl (by omega)
  have a2 := hpw (j - 1) j (by omega) hl (by omega)
  have a3 : ordL s[j - 1] s[j] ≠ 0 := fun q => e (qQ q).symm
  rw [wG]
  by_cases q : i = j - 1
  ·subst q; exact decide_eq_true (by omega)
  ·have a4 := hpw i (j - 1) (by omega) (by omega) (by omega)
   by_cases z : ordL s[i] s[j - 1] = 0
   ·rw [qQ z]; exact decide_eq_true (by omega)
   ·exact decide_eq_true (uF (b := s[j - 1]) (by omega) (by omega))
 refine ⟨List.pairwise_append.2 ⟨h1, by simp, fun x hx y hy => ?_⟩, fun x => ?_, by simp, by simp; omega, ?_⟩
 ·rw [List.mem_singleton.1 hy]; exact hlt x ((h2 x).1 hx)
 ·rw [List.mem_append, h2, List.take_add_one, List.getElem?_eq_getElem hl, List.mem_append]; simp
 ·rw [Nat.add_sub_cancel, List.getElem?_eq_getElem hl]; simp
end Go.Ev
namespace Go.Ev
open Go Go.Proofs
variable {B : Nat}
set_option maxRecDepth 100000
theorem qV {a b c : List Int} (h1 : ordL a b ≤ 0) (h2 : ordL b c ≤ 0) : ordL a c ≤ 0 := by
 by_cases z1 : ordL a b = 0
 ·rw [qQ z1]; exact h2
 ·by_cases z2 : ordL b c = 0
  ·rw [← qQ z2]; exact h1
  ·have := uF (a := a) (b := b) (c := c) (by omega) (by omega); omega
end Go.Ev
namespace Go.Ev
open Go Go.Proofs
variable {B : Nat}
set_option maxRecDepth 100000
end Go.Ev
namespace Go.Ev
open Go Go.Proofs
variable {B : Nat}
set_option maxRecDepth 100000
def LT (v : AV) (l : List (List Int)) : Prop := (v = .nils ∧ l = []) ∨ (v = encT l ∧ l ≠ [])
theorem LT.len {v : AV} {l : List (List Int)} (h : LT v l) {op : AV → OP} : sLen v op = op (I l.length) := by
 rcases h with ⟨rfl, rfl⟩ | ⟨rfl, _⟩
 ·exact jD
 ·exact zJ ..
theorem LT.frz {v : AV} {l : List (List Int)} (h : LT v l) {N : Pa → Prop} {O : AV → Prop} {hh : T Blk} : Frz True N O hh v (encT l) := by
 rcases h with ⟨rfl, rfl⟩ | ⟨rfl, _⟩
 ·exact .lnils 1
 ·exact zI (fixd_encT _)
end Go.Ev
namespace Go.Ev
open Go.Proofs
theorem mJ {n : Nat} {a : Sym} (ha : DP n a) {f : List Int} (hf : f.length = n) {M : Int} (hM : ∀ x ∈ f, -M ≤ x ∧ x ≤ M) (h0 : 0 ≤ M) : ∀ y ∈ yK a.2 a.1 f, -(M + n + 1) ≤ y ∧ y ≤ M + n + 1 := by
 intro y hy
 obtain ⟨j, hj⟩ := List.getElem?_of_mem hy
 have hjl := (List.getElem?_eq_some_iff.1 hj).1
 rw [jU, hf] at hjl
 obtain ⟨i, hi, e⟩ := ha.surj hjl
 have g := kX ha hf hi
 rw [e, Int.toNat_natCast, hj] at g
 have hx : f.getD i 0 ∈ f := by
  rw [List.getD_eq_getElem?_getD, List.getElem?_eq_getElem (by omega)]
  exact List.getElem_mem _
 have := hM _ hx
 have e := Option.some.inj g
 rw [e, xOf]
 split <;> omega
end Go.Ev
namespace Go.Ev
open Go.Proofs
section
variable {G S : List Sym} {n : Nat}
end
end Go.Ev
namespace Go.Ev
section
variable {G : List Sym} {n : Nat}
end
end Go.Ev
namespace Go.Ev
open Go Go.Proofs Go.RowKit Go.Sort
end Go.Ev
namespace Go.Ev
open Go Go.Proofs
variable {B : Nat}
set_option maxRecDepth 100000
end Go.Ev
namespace Go.Ev
def lcmL (l : List Nat) : Nat := l.foldl Nat.lcm 1
theorem lcmL_init : ∀ (l : List Nat) (a : Nat), a ∣ l.foldl Nat.lcm a
 | [], a => Nat.dvd_refl a
 | x :: l, a => Nat.dvd_trans (Nat.dvd_lcm_left a x) (lcmL_init l _)
theorem dvd_foldl : ∀ (l : List Nat) (a x : Nat), x ∈ l → x ∣ l.foldl Nat.lcm a
 | y :: l, a, x, h => by
  rcases List.mem_cons.1 h with rfl | h
  ·exact Nat.dvd_trans (Nat.dvd_lcm_right a x) (lcmL_init l _)
  ·exact dvd_foldl l _ x h
theorem foldl_dvd : ∀ (l : List Nat) (a m : Nat), a ∣ m → (∀ x ∈ l, x ∣ m) → l.foldl Nat.lcm a ∣ m
 | [], a, m, h, _ => h
 | y :: l, a, m, h, hl => foldl_dvd l _ m (Nat.lcm_dvd h (hl y (by simp))) fun x hx => hl x (by simp [hx])
theorem dvd_lcmL {l : List Nat} {x : Nat} (h : x ∈ l) : x ∣ lcmL l := dvd_foldl l 1 x h
theorem d8 {l : List Nat} {m : Nat} (h : ∀ x ∈ l, x ∣ m) : lcmL l ∣ m := foldl_dvd l 1 m (Nat.one_dvd m) h
theorem foldl_pos : ∀ (l : List Nat) (a : Nat), 0 < a → (∀ x ∈ l, 0 < x) → 0 < l.foldl Nat.lcm a
 | [], a, h, _ => h
 | y :: l, a, h, hl => foldl_pos l _ (Nat.lcm_pos h (hl y (by simp))) fun x hx => hl x (by simp [hx])
theorem lcmL_pos {l : List Nat} (h : ∀ x ∈ l, 0 < x) : 0 < lcmL l := foldl_pos l 1 (by decide) h
def expo (p : Nat) : Nat → Nat → Nat
 | 0, _ => 0
 | f + 1, x => if x % p = 0 then expo p f (x / p) + 1 else 0
theorem expo_dvd {p : Nat} : ∀ (f x : Nat), p ^ expo p f x ∣ x
 | 0, x => by rw [expo]; exact Nat.one_dvd x
 | f + 1, x => by
  rw [expo]
  by_cases c : x % p = 0
  ·rw [if_pos c, Nat.pow_succ]
   have h1 := Nat.mul_dvd_mul_right (expo_dvd (p := p) f (x / p)) p
   rwa [Nat.div_mul_cancel (Nat.dvd_of_mod_eq_zero c)] at h1
  ·rw [if_neg c]; exact Nat.one_dvd x
def rst (p x : Nat) : Nat := x / p ^ expo p 9 x
theorem rst_eq (p x : Nat) : p ^ expo p 9 x * rst p x = x := Nat.mul_div_cancel' (expo_dvd 9 x)
def cst (x : Nat) : Nat := if x = 1 then 0 else x
theorem cst_mul {a b : Nat} (ha : 0 < a) (hb : 0 < b) : cst a + cst b ≤ cst (a * b) := by
 unfold cst
 by_cases c1 : a = 1
 ·subst c1; rw [if_pos rfl, Nat.one_mul, Nat.zero_add]; exact Nat.le_refl _
 by_cases c2 : b = 1
 ·subst c2; rw [if_pos rfl, Nat.mul_one, Nat.add_zero]; exact Nat.le_refl _
 have h1 : a * 2 ≤ a * b := Nat.mul_le_mul_left a (by omega)
 have h2 : 2 * b ≤ a * b := Nat.mul_le_mul_right b (by omega)
 rw [if_neg c1, if_neg c2, if_neg (by omega)]
 omega
def cstS (l : List Nat) : Nat := (l.map cst).sum
theorem cstS_le : ∀ l : List Nat, cstS l ≤ l.sum
 | [] => Nat.le_refl _
 | x :: l => by
  have := cstS_le l
  have h : cst x ≤ x := by unfold cst; split <;> omega
  simp only [cstS, List.map_cons, List.sum_cons] at *
  omega
theorem split_all {p : Nat} (hp : 0 < p) : ∀ (l : List Nat), (∀ x ∈ l, 0 < x) → ∃ A, (∀ x ∈ l, expo p 9 x ≤ A) ∧ cst (p ^ A) + cstS (l.map (rst p)) ≤ cstS l ∧ (A = 0 ∨ ∃ x ∈ l, p ^ A ≤ x) ∧ A ≤ 9
  | [], _ => ⟨0, by simp, by simp [cstS, cst], .inl rfl, by omega⟩
  | x :: l, h => by
    obtain ⟨A, h1, h2, h3, h4⟩ := split_all hp l fun y hy => h y (by simp [hy])
    have hx := h x (by simp)
    have e := rst_eq p x
    have hpp : 0 < p ^ expo p 9 x := Nat.pow_pos hp
    have hr : 0 < rst p x := Nat.pos_of_ne_zero fun q => by rw [q] at e; omega
    have hc := cst_mul hpp hr
    rw [e] at hc
    have hle : p ^ expo p 9 x ≤ x := Nat.le_of_dvd hx (expo_dvd 9 x)
    have he9 : ∀ (f y : Nat), expo p f y ≤ f := fun f => by
      induction f with
      | zero => intro y; exact Nat.le_refl _
      | succ f ih => intro y; rw [expo]; split
                     · have := ih (y / p); omega
                     · omega
    have e1 : cstS ((x :: l).map (rst p)) = cst (rst p x) + cstS (l.map (rst p)) := rfl
    have e2 : cstS (x :: l) = cst x + cstS l := rfl
    by_cases c : expo p 9 x ≤ A
    · refine ⟨A, fun y hy => ?_, by rw [e1, e2]; omega, ?_, h4⟩
      · rcases List.mem_cons.1 hy with rfl | hy
        · exact c
        · exact h1 y hy
      · rcases h3 with q | ⟨y, hy, q⟩
        · exact .inl q
        · exact .inr ⟨y, by simp [hy], q⟩
    · refine ⟨expo p 9 x, fun y hy => ?_, by rw [e1, e2]; omega, .inr ⟨x, by simp, hle⟩, he9 9 x⟩
      rcases List.mem_cons.1 hy with rfl | hy
      · exact Nat.le_refl _
      · have := h1 y hy; omega
def pows (p : Nat) : List Nat := ((List.range 10).map (p ^ ·)).filter fun q => decide (2 ≤ q ∧ q ≤ 256)
def qU (T : List Nat) (q : Nat) : List Nat := List.replicate q 0 ++ T.map (q * ·)
def stepT (p : Nat) (T : List Nat) : List Nat := (pows p).foldl (fun acc q => List.zipWith max acc (qU T q)) T
def tabT (P : List Nat) : List Nat := P.foldr stepT (List.replicate 257 1)
theorem zip_get {A B : List Nat} {s : Nat} (ha : s < A.length) (hb : s < B.length) : (List.zipWith max A B).getD s 0 = max (A.getD s 0) (B.getD s 0) := by
 simp [List.getD_eq_getElem?_getD, List.getElem?_zipWith, List.getElem?_eq_getElem ha, List.getElem?_eq_getElem hb]
theorem mF {T : List Nat} (hT : T.length = 257) {s : Nat} (hs : s < 257) : ∀ (Q acc : List Nat), acc.length = 257 → (Q.foldl (fun acc q => List.zipWith max acc (qU T q)) acc).length = 257 ∧ acc.getD s 0 ≤ (Q.foldl (fun acc q => List.zipWith max acc (qU T q)) acc).getD s 0 ∧ ∀ q ∈ Q, q ≤ s → q * T.getD (s - q) 0 ≤ (Q.foldl (fun acc q => List.zipWith max acc (qU T q)) acc).getD s 0
 | [], acc, h => ⟨h, Nat.le_refl _, by simp⟩
 | q :: Q, acc, h => by
  have hl : (qU T q).length = q + 257 := by simp [qU, hT]
  have h2 : (List.zipWith max acc (qU T q)).length = 257 := by rw [List.length_zipWith, h, hl]; omega
  obtain ⟨g1, g2, g3⟩ := mF hT hs Q _ h2
  rw [zip_get (by omega) (by omega)] at g2
  refine ⟨g1, Nat.le_trans (Nat.le_max_left _ _) g2, fun r hr hrs => ?_⟩
  rcases List.mem_cons.1 hr with rfl | hr
  ·refine Nat.le_trans ?_ (Nat.le_trans (Nat.le_max_right _ _) g2)
   have e : (qU T r).getD s 0 = r * T.getD (s - r) 0 := by
    rw [qU, List.getD_eq_getElem?_getD, List.getElem?_append_right (by simpa using hrs), List.length_replicate, List.getElem?_map, List.getD_eq_getElem?_getD, List.getElem?_eq_getElem (by omega)]; rfl
   rw [e]
   exact Nat.le_refl _
  ·exact g3 r hr hrs
theorem mX : ∀ P : List Nat, (tabT P).length = 257
 | [] => List.length_replicate
 | p :: P => (mF (s := 0) (mX P) (by decide) (pows p) (tabT P) (mX P)).1
def stripP : List Nat → Nat → Nat
 | [], x => x
 | p :: P, x => stripP P (rst p x)
theorem wI : ∀ (P : List Nat), (∀ p ∈ P, 2 ≤ p) → ∀ (l : List Nat) (s : Nat), s < 257 → (∀ x ∈ l, 0 < x ∧ x ≤ 256) → (∀ x ∈ l, stripP P x = 1) → cstS l ≤ s → lcmL l ≤ (tabT P).getD s 0
 | [], _, l, s, hs, hl, h1, hc => by
  have : lcmL l ∣ 1 := d8 fun x hx => by rw [show x = 1 from h1 x hx]; exact Nat.dvd_refl 1
  have e : (tabT []).getD s 0 = 1 := by
   show (List.replicate 257 1).getD s 0 = 1
   rw [List.getD_eq_getElem?_getD, List.getElem?_replicate, if_pos hs]; rfl
  rw [e]
  exact Nat.le_of_dvd (by decide) this
 | p :: P, hP, l, s, hs, hl, h1, hc => by
  have hp := hP p (by simp)
  obtain ⟨A, a1, a2, a3, a4⟩ := split_all (p := p) (by omega) l fun x hx => (hl x hx).1
  have hpos : ∀ y ∈ l.map (rst p), 0 < y ∧ y ≤ 256 := fun y hy => by
   obtain ⟨x, hx, rfl⟩ := List.mem_map.1 hy
   obtain ⟨q1, q2⟩ := hl x hx
   have e := rst_eq p x
   refine ⟨Nat.pos_of_ne_zero fun q => by rw [q] at e; omega, Nat.le_trans (Nat.div_le_self _ _) q2⟩
  have hdvd : lcmL l ∣ p ^ A * lcmL (l.map (rst p)) := d8 fun x hx => by
   have e := rst_eq p x
   rw [← e]
   exact Nat.mul_dvd_mul (Nat.pow_dvd_pow p (a1 x hx)) (dvd_lcmL (List.mem_map.2 ⟨x, hx, rfl⟩))
  have hA : 0 < p ^ A := Nat.pow_pos (by omega)
  have hle : lcmL l ≤ p ^ A * lcmL (l.map (rst p)) := Nat.le_of_dvd (Nat.mul_pos hA (lcmL_pos fun y hy => (hpos y hy).1)) hdvd
  have hstr : ∀ y ∈ l.map (rst p), stripP P y = 1 := fun y hy => by
   obtain ⟨x, hx, rfl⟩ := List.mem_map.1 hy
   exact h1 x hx
  obtain ⟨_, g2, g3⟩ := mF (mX P) hs (pows p) (tabT P) (mX P)
  have ht : tabT (p :: P) = (pows p).foldl (fun acc q => List.zipWith max acc (qU (tabT P) q)) (tabT P) := rfl
  rw [ht]
  rcases a3 with rfl | ⟨x, hx, hxA⟩
  ·have := wI P (fun q hq => hP q (by simp [hq])) (l.map (rst p)) s hs hpos hstr (by omega)
   rw [Nat.pow_zero, Nat.one_mul] at hle
   omega
  ·have h256 := (hl x hx).2
   by_cases c0 : A = 0
   ·subst c0
    have := wI P (fun q hq => hP q (by simp [hq])) (l.map (rst p)) s hs hpos hstr (by omega)
    rw [Nat.pow_zero, Nat.one_mul] at hle
    omega
   have h2A : 2 ≤ p ^ A := Nat.le_trans hp (by have := Nat.pow_le_pow_right (n := p) (by omega) (show 1 ≤ A by omega); rwa [Nat.pow_one] at this)
   have ec : cst (p ^ A) = p ^ A := if_neg (by omega)
   rw [ec] at a2
   have hq : p ^ A ∈ pows p := List.mem_filter.2 ⟨List.mem_map.2 ⟨A, List.mem_range.2 (by omega), rfl⟩, decide_eq_true ⟨h2A, by omega⟩⟩
   have := wI P (fun q hq => hP q (by simp [hq])) (l.map (rst p)) (s - p ^ A) (by omega) hpos hstr (by omega)
   have h3 := g3 _ hq (by omega)
   exact Nat.le_trans hle (Nat.le_trans (Nat.mul_le_mul_left _ this) h3)
def prims : List Nat := [2, 3, 5, 7, 11, 13, 17, 19, 23, 29, 31, 37, 41, 43, 47, 53, 59, 61, 67, 71, 73, 79, 83, 89, 97, 101, 103, 107, 109, 113, 127, 131, 137, 139, 149, 151, 157, 163, 167, 173, 179, 181, 191, 193, 197, 199, 211, 223, 227, 229, 233, 239, 241, 251]
theorem prims_all : ((List.range 257).all fun x => x == 0 || stripP prims x == 1) = true := by decide +kernel
theorem prims_top : (tabT prims).getD 256 0 < 4611686018427387904 := by decide +kernel
theorem landau {l : List Nat} (h : ∀ x ∈ l, 0 < x) (hs : l.sum ≤ 256) : lcmL l < 4611686018427387904 := by
 have hle : ∀ (l : List Nat), ∀ x ∈ l, x ≤ l.sum := fun l => by
  induction l with
  | nil => simp
  | cons a l ih =>
   intro x hx
   rw [List.sum_cons]
   rcases List.mem_cons.1 hx with rfl | hx
   ·omega
   ·have := ih x hx; omega
 have h256 : ∀ x ∈ l, 0 < x ∧ x ≤ 256 := fun x hx => ⟨h x hx, Nat.le_trans (hle l x hx) hs⟩
 refine Nat.lt_of_le_of_lt (wI prims (by decide) l 256 (by decide) h256 (fun x hx => ?_) (Nat.le_trans (cstS_le l) hs)) prims_top
 have := List.all_eq_true.1 prims_all x (List.mem_range.2 (by have := (h256 x hx).2; omega))
 have h0 := h x hx
 simp only [Bool.or_eq_true, beq_iff_eq] at this
 rcases this with q | q
 ·omega
 ·exact q
end Go.Ev
namespace Go.Ev
abbrev nxt (p : List Int) (c : Nat) : Nat := (p.getD c 0).toNat
def orbF (p : List Int) : Nat → Nat → List Nat → List Nat
 | 0, _, S => S
 | f + 1, c, S => if c ∈ S then S else orbF p f (nxt p c) (S ++ [c])
def orbW (p : List Int) (c : Nat) (S : List Nat) : List Nat := orbF p (p.length - S.length) c S
theorem orbF_in {p : List Int} {c : Nat} {S : List Nat} (h : c ∈ S) : ∀ f, orbF p f c S = S
 | 0 => rfl
 | f + 1 => by rw [orbF, if_pos h]
theorem orbW_in {p : List Int} {c : Nat} {S : List Nat} (h : c ∈ S) : orbW p c S = S := orbF_in h _
theorem orbW_step {p : List Int} {c : Nat} {S : List Nat} (h : c ∉ S) (hl : S.length < p.length) : orbW p c S = orbW p (nxt p c) (S ++ [c]) := by
 obtain ⟨f, hf⟩ : ∃ f, p.length - S.length = f + 1 := ⟨p.length - S.length - 1, by omega⟩
 unfold orbW
 rw [hf, orbF, if_neg h, List.length_append, List.length_singleton, show p.length - (S.length + 1) = f by omega]
theorem orbF_pre {p : List Int} : ∀ (f c : Nat) (S : List Nat), ∃ T, orbF p f c S = S ++ T ∧ T.length ≤ f
 | 0, c, S => ⟨[], by simp [orbF], by simp⟩
 | f + 1, c, S => by
  rw [orbF]
  by_cases h : c ∈ S
  ·rw [if_pos h]; exact ⟨[], by simp, by simp⟩
  ·rw [if_neg h]
   obtain ⟨T, h1, h2⟩ := orbF_pre (p := p) f (nxt p c) (S ++ [c])
   exact ⟨c :: T, by rw [h1]; simp, by simp; omega⟩
theorem orbW_pre (p : List Int) (c : Nat) (S : List Nat) : ∃ T, orbW p c S = S ++ T ∧ T.length ≤ p.length - S.length := orbF_pre _ c S
def stT (p : List Int) (s : List Nat × List (List Nat)) (i : Nat) : List Nat × List (List Nat) := (orbW p i s.1, if s.1.length < (orbW p i s.1).length then s.2 ++ [(orbW p i s.1).drop s.1.length] else s.2)
def cycS (p : List Int) (k : Nat) : List Nat × List (List Nat) := (List.range k).foldl (stT p) ([], [])
theorem vK (p : List Int) (k : Nat) : cycS p (k + 1) = stT p (cycS p k) k := by unfold cycS; rw [List.range_succ, List.foldl_append]; rfl
theorem cycS_sum (p : List Int) : ∀ k, (cycS p k).1.length = ((cycS p k).2.map List.length).sum ∧ (cycS p k).1.length ≤ p.length ∧ ∀ T ∈ (cycS p k).2, T ≠ []
 | 0 => ⟨rfl, Nat.zero_le _, by simp [cycS]⟩
 | k + 1 => by
  obtain ⟨h1, h2, h3⟩ := cycS_sum p k
  rw [vK]
  generalize cycS p k = s at *
  obtain ⟨T, e1, e2⟩ := orbW_pre p k s.1
  unfold stT
  simp only
  rw [e1]
  by_cases c : s.1.length < (s.1 ++ T).length
  ·rw [if_pos c, List.drop_left]
   have hT : T ≠ [] := fun q => by rw [q] at c; simp at c
   refine ⟨by rw [List.map_append, List.sum_append, ← h1]; simp, by rw [List.length_append]; omega, fun U hU => ?_⟩
   rcases List.mem_append.1 hU with q | q
   ·exact h3 U q
   ·rw [List.mem_singleton.1 q]; exact hT
  ·have hT : T = [] := List.eq_nil_of_length_eq_zero (by rw [List.length_append] at c; omega)
   rw [if_neg c, hT, List.append_nil]
   exact ⟨h1, h2, h3⟩
theorem cyc_len (p : List Int) : ∀ k, (cycS p k).2.length ≤ k
 | 0 => Nat.le_refl _
 | k + 1 => by
  have := cyc_len p k
  rw [vK]
  unfold stT
  simp only
  split
  ·simp; omega
  ·omega
def gE (p : List Int) : List Nat := (cycS p p.length).2.map List.length
theorem wH {p : List Int} : ∀ x ∈ gE p, 0 < x := fun x hx => by
 obtain ⟨T, hT, rfl⟩ := List.mem_map.1 hx
 exact List.length_pos_iff.2 ((cycS_sum p _).2.2 T hT)
theorem lensZ_sum (p : List Int) : (gE p).sum ≤ p.length := by
 obtain ⟨h1, h2, _⟩ := cycS_sum p p.length
 unfold gE; omega
def ordZ (p : List Int) (c : Bool) : Nat := if c = true ∧ lcmL (gE p) % 2 = 1 then 2 * lcmL (gE p) else lcmL (gE p)
theorem lcm_div (a b : Nat) : a / Nat.gcd a b * b = Nat.lcm a b := by
 unfold Nat.lcm
 rw [Nat.div_mul_right_comm (Nat.gcd_dvd_left a b)]
theorem lcm_two (m : Nat) : Nat.lcm m 2 = if m % 2 = 1 then 2 * m else m := by
 by_cases c : m % 2 = 1
 ·rw [if_pos c, ← lcm_div]
  have : Nat.gcd m 2 = 1 := by
   rw [Nat.gcd_comm, Nat.gcd_rec, c]; rfl
  rw [this, Nat.div_one, Nat.mul_comm]
 ·rw [if_neg c]
  exact Nat.dvd_antisymm (Nat.lcm_dvd (Nat.dvd_refl m) (Nat.dvd_of_mod_eq_zero (by omega))) (Nat.dvd_lcm_left m 2)
theorem lcmL_snoc (l : List Nat) (x : Nat) : lcmL (l ++ [x]) = Nat.lcm (lcmL l) x := by unfold lcmL; rw [List.foldl_append]; rfl
def jT (p : List Int) (c : Bool) : List Nat := if c then gE p ++ [2] else gE p
theorem ordZ_eq (p : List Int) (c : Bool) : lcmL (jT p c) = ordZ p c := by
 unfold jT ordZ
 cases c with
 | false => rw [if_neg (by decide), if_neg (fun q => by cases q.1)]
 | true =>
  rw [if_pos rfl, lcmL_snoc, lcm_two]
  by_cases h : lcmL (gE p) % 2 = 1
  ·rw [if_pos h, if_pos ⟨rfl, h⟩]
  ·rw [if_neg h, if_neg fun q => h q.2]
theorem landauP {p : List Int} (h : p.length ≤ 256) : lcmL (gE p) < 4611686018427387904 := landau wH (Nat.le_trans (lensZ_sum p) h)
theorem take_lcm {l : List Nat} (hl : ∀ x ∈ l, 0 < x) (i : Nat) : lcmL (l.take i) ≤ lcmL l := Nat.le_of_dvd (lcmL_pos hl) (d8 fun x hx => dvd_lcmL (List.mem_of_mem_take hx))
theorem tab9 : (tabT prims).getD 9 0 = 20 := by decide +kernel
theorem land9 {p : List Int} (h : p.length ≤ 9) : lcmL (gE p) ≤ 20 := by
 have hle : ∀ (l : List Nat), ∀ x ∈ l, x ≤ l.sum := fun l => by
  induction l with
  | nil => simp
  | cons a l ih =>
   intro x hx
   rw [List.sum_cons]
   rcases List.mem_cons.1 hx with rfl | hx
   ·omega
   ·have := ih x hx; omega
 have hs := lensZ_sum p
 have h256 : ∀ x ∈ gE p, 0 < x ∧ x ≤ 256 := fun x hx => ⟨wH x hx, by have := hle _ x hx; omega⟩
 rw [← tab9]
 refine wI prims (by decide) (gE p) 9 (by decide) h256 (fun x hx => ?_) (Nat.le_trans (cstS_le _) (by omega))
 have := List.all_eq_true.1 prims_all x (List.mem_range.2 (by have := (h256 x hx).2; omega))
 have h0 := (h256 x hx).1
 simp only [Bool.or_eq_true, beq_iff_eq] at this
 rcases this with q | q
 ·omega
 ·exact q
end Go.Ev
namespace Go.Ev
def itN (p : List Int) : Nat → Nat → Nat
 | 0, c => c
 | k + 1, c => nxt p (itN p k c)
theorem d9 (p : List Int) : ∀ a b c, itN p (a + b) c = itN p a (itN p b c)
 | 0, b, c => by rw [Nat.zero_add]; rfl
 | a + 1, b, c => by rw [Nat.succ_add]; show nxt p (itN p (a + b) c) = nxt p (itN p a (itN p b c)); rw [d9 p a b c]
structure PN (p : List Int) : Prop where
 lt : ∀ i, i < p.length → nxt p i < p.length
 inj : ∀ i j, i < p.length → j < p.length → nxt p i = nxt p j → i = j
theorem PN.itlt {p : List Int} (h : PN p) : ∀ k i, i < p.length → itN p k i < p.length
 | 0, _, hi => hi
 | k + 1, i, hi => h.lt _ (h.itlt k i hi)
structure Cl (p : List Int) (S : List Nat) : Prop where
 nd : S.Nodup
 lt : ∀ x ∈ S, x < p.length
 cl : ∀ x ∈ S, nxt p x ∈ S
theorem Cl.back {p : List Int} (h : PN p) {S : List Nat} (C : Cl p S) {x : Nat} (hx : x < p.length) (hn : nxt p x ∈ S) : x ∈ S := by
 have nd : (S.map (nxt p)).Nodup := by
  rw [List.Nodup, List.pairwise_map]
  refine (List.Pairwise.and_mem.1 C.nd).imp ?_
  rintro a b ⟨ha, hb, hab⟩ q
  exact hab (h.inj a b (C.lt a ha) (C.lt b hb) q)
 have := allG nd (fun y hy => by obtain ⟨z, hz, rfl⟩ := List.mem_map.1 hy; exact C.cl z hz) (by simp) _ hn
 obtain ⟨y, hy, e⟩ := List.mem_map.1 this
 rw [← h.inj y x (C.lt y hy) hx e]
 exact hy
theorem Cl.backN {p : List Int} (h : PN p) {S : List Nat} (C : Cl p S) {i : Nat} (hi : i < p.length) : ∀ k, itN p k i ∈ S → i ∈ S
 | 0, q => q
 | k + 1, q => C.backN h hi k (C.back h (h.itlt k i hi) q)
abbrev tN (p : List Int) (i k : Nat) : List Nat := (List.range k).map fun j => itN p j i
theorem tN_succ (p : List Int) (i k : Nat) : tN p i (k + 1) = tN p i k ++ [itN p k i] := by unfold tN; rw [List.range_succ, List.map_append]; rfl
theorem tN_inj {p : List Int} {i k a b : Nat} (h : (tN p i k).Nodup) (ha : a < k) (hb : b < k) (e : itN p a i = itN p b i) : a = b := by
 have := List.pairwise_map.1 h
 rcases Nat.lt_trichotomy a b with q | q | q
 ·have := List.pairwise_iff_getElem.1 this a b (by simpa using ha) (by simpa using hb) q
  simp at this
  exact absurd e this
 ·exact q
 ·have := List.pairwise_iff_getElem.1 this b a (by simpa using hb) (by simpa using ha) q
  simp at this
  exact absurd e.symm this
structure IsCyc (p : List Int) (r h : Nat) : Prop where
 pos : 0 < r
 back : itN p r h = h
 min : ∀ j, 0 < j → j < r → itN p j h ≠ h
theorem len_lt {n : Nat} {l : List Nat} (hn : l.Nodup) (hl : ∀ x ∈ l, x < n) : l.length ≤ n := by
 have := lenG hn (r := List.range n) fun x hx => List.mem_range.2 (hl x hx)
 simpa using this
theorem cycWalk {p : List Int} (h : PN p) {S : List Nat} (C : Cl p S) {i : Nat} (hi : i < p.length) (hS : i ∉ S) : ∀ (f k : Nat), f = p.length - (S.length + k) → (S ++ tN p i k).Nodup →
  ∃ r, orbW p (itN p k i) (S ++ tN p i k) = S ++ tN p i r ∧ (S ++ tN p i r).Nodup ∧ IsCyc p r i := by
 intro f
 induction f with
 | zero =>
  intro k hf hn
  have hall : ∀ x ∈ S ++ tN p i k, x < p.length := fun x hx => by
   rcases List.mem_append.1 hx with q | q
   ·exact C.lt x q
   ·obtain ⟨j, _, rfl⟩ := List.mem_map.1 q; exact h.itlt j i hi
  exact cycWalkEnd h C hi hS hn (Decidable.byContradiction fun q => by
   have := len_lt (l := (S ++ tN p i k) ++ [itN p k i]) (List.nodup_append.2 ⟨hn, by simp, by rintro a ha b hb rfl; rw [List.mem_singleton.1 hb] at ha; exact q ha⟩) (fun x hx => by
    rcases List.mem_append.1 hx with q | q
    ·exact hall x q
    ·rw [List.mem_singleton.1 q]; exact h.itlt k i hi)
   simp at this; omega)
 | succ f ih =>
  intro k hf hn
  by_cases c : itN p k i ∈ S ++ tN p i k
  ·exact cycWalkEnd h C hi hS hn c
  ·have hn2 : (S ++ tN p i (k + 1)).Nodup := by
    rw [tN_succ, ← List.append_assoc]
    exact List.nodup_append.2 ⟨hn, by simp, by rintro a ha b hb rfl; rw [List.mem_singleton.1 hb] at ha; exact c ha⟩
   rw [orbW_step c (by simp; omega), List.append_assoc, ← tN_succ]
   exact ih (k + 1) (by omega) hn2
where
 cycWalkEnd {p : List Int} (h : PN p) {S : List Nat} (C : Cl p S) {i k : Nat} (hi : i < p.length) (hS : i ∉ S) (hn : (S ++ tN p i k).Nodup) (c : itN p k i ∈ S ++ tN p i k) : ∃ r, orbW p (itN p k i) (S ++ tN p i k) = S ++ tN p i r ∧ (S ++ tN p i r).Nodup ∧ IsCyc p r i := by
  rw [orbW_in c]
  have hk0 : 0 < k := Nat.pos_of_ne_zero fun q => by
   subst q
   have : i ∈ S := by simpa [tN, itN] using c
   exact hS this
  have hnT := (List.nodup_append.1 hn).2.1
  rcases List.mem_append.1 c with q | q
  ·exact absurd (C.backN h hi k q) hS
  ·obtain ⟨j, hj, e⟩ := List.mem_map.1 q
   have hj := List.mem_range.1 hj
   have e : itN p j i = itN p k i := e
   have hj0 : j = 0 := Decidable.byContradiction fun q => by
    obtain ⟨j', rfl⟩ : ∃ j', j = j' + 1 := ⟨j - 1, by omega⟩
    obtain ⟨k', rfl⟩ : ∃ k', k = k' + 1 := ⟨k - 1, by omega⟩
    have := h.inj _ _ (h.itlt j' i hi) (h.itlt k' i hi) e
    have := tN_inj hnT (by omega) (by omega) this
    omega
   subst hj0
   refine ⟨k, rfl, hn, hk0, e.symm, fun a ha hak q => ?_⟩
   have := tN_inj hnT hak hk0 (show itN p a i = itN p 0 i from q)
   omega
theorem cyc_inv {p : List Int} (h : PN p) : ∀ k, k ≤ p.length → Cl p (cycS p k).1 ∧ (∀ j, j < k → j ∈ (cycS p k).1) ∧ (∀ x ∈ (cycS p k).1, ∃ T ∈ (cycS p k).2, ∃ b a, x = itN p a b ∧ IsCyc p T.length b ∧ b < p.length) ∧ ∀ T ∈ (cycS p k).2, ∃ b, b < p.length ∧ IsCyc p T.length b
 | 0, _ => ⟨⟨by simp [cycS], by simp [cycS], by simp [cycS]⟩, fun j hj => by omega, by simp [cycS], by simp [cycS]⟩
 | k + 1, hk => by
  obtain ⟨C, h1, h2, h3⟩ := cyc_inv h k (by omega)
  rw [vK]
  generalize cycS p k = s at *
  unfold stT
  simp only
  by_cases c : k ∈ s.1
  ·rw [orbW_in c, if_neg (by omega)]
   refine ⟨C, fun j hj => ?_, h2, h3⟩
   by_cases e : j = k
   ·rw [e]; exact c
   ·exact h1 j (by omega)
  ·obtain ⟨r, e1, e2, e3⟩ := cycWalk h C (show k < p.length by omega) c _ 0 rfl (by simpa [tN] using C.nd)
   have e1 : orbW p k s.1 = s.1 ++ tN p k r := by simpa [tN, itN] using e1
   have hr := e3.pos
   have hlen : (tN p k r).length = r := by simp
   rw [e1, if_pos (by simp; omega), List.drop_left]
   have hmemT : ∀ x ∈ tN p k r, ∃ j, j < r ∧ x = itN p j k := fun x hx => by
    obtain ⟨j, hj, rfl⟩ := List.mem_map.1 hx
    exact ⟨j, List.mem_range.1 hj, rfl⟩
   refine ⟨⟨e2, fun x hx => ?_, fun x hx => ?_⟩, fun j hj => ?_, fun x hx => ?_, fun T hT => ?_⟩
   ·rcases List.mem_append.1 hx with q | q
    ·exact C.lt x q
    ·obtain ⟨j, _, rfl⟩ := hmemT x q; exact h.itlt j k (by omega)
   ·rcases List.mem_append.1 hx with q | q
    ·exact List.mem_append_left _ (C.cl x q)
    ·obtain ⟨j, hj, rfl⟩ := hmemT x q
     refine List.mem_append_right _ ?_
     by_cases hj1 : j + 1 < r
     ·exact List.mem_map.2 ⟨j + 1, List.mem_range.2 hj1, rfl⟩
     ·have : itN p (j + 1) k = k := by rw [show j + 1 = r by omega]; exact e3.back
      exact List.mem_map.2 ⟨0, List.mem_range.2 hr, this.symm⟩
   ·by_cases e : j = k
    ·rw [e]; exact List.mem_append_right _ (List.mem_map.2 ⟨0, List.mem_range.2 hr, rfl⟩)
    ·exact List.mem_append_left _ (h1 j (by omega))
   ·rcases List.mem_append.1 hx with q | q
    ·obtain ⟨T, hT, b, a, q1, q2, q3⟩ := h2 x q
     exact ⟨T, by simp [hT], b, a, q1, q2, q3⟩
    ·obtain ⟨j, hj, rfl⟩ := hmemT x q
     exact ⟨tN p k r, by simp, k, j, rfl, by rw [hlen]; exact e3, by omega⟩
   ·rcases List.mem_append.1 hT with q | q
    ·exact h3 T q
    ·rw [List.mem_singleton.1 q, hlen]; exact ⟨k, by omega, e3⟩
theorem IsCyc.mul {p : List Int} {r b : Nat} (c : IsCyc p r b) : ∀ q, itN p (q * r) b = b
 | 0 => by rw [Nat.zero_mul]; rfl
 | q + 1 => by rw [Nat.succ_mul, d9, c.back, c.mul q]
theorem IsCyc.dvd {p : List Int} {r b k : Nat} (c : IsCyc p r b) : itN p k b = b ↔ r ∣ k := by
 constructor
 ·intro e
  have h1 : itN p (k % r) b = b := by
   have : k = k % r + k / r * r := by rw [Nat.mul_comm]; exact (Nat.mod_add_div k r).symm
   rw [this, d9, c.mul] at e
   exact e
  have h2 := Nat.mod_lt k c.pos
  exact Nat.dvd_of_mod_eq_zero (Decidable.byContradiction fun q => c.min _ (by omega) h2 h1)
 ·rintro ⟨q, rfl⟩
  rw [Nat.mul_comm]
  exact c.mul q
theorem pow_id {p : List Int} (h : PN p) (k : Nat) : (∀ i, i < p.length → itN p k i = i) ↔ lcmL (gE p) ∣ k := by
 obtain ⟨C, h1, h2, h3⟩ := cyc_inv h p.length (Nat.le_refl _)
 constructor
 ·intro e
  refine d8 fun x hx => ?_
  obtain ⟨T, hT, rfl⟩ := List.mem_map.1 hx
  obtain ⟨b, hb, c⟩ := h3 T hT
  exact c.dvd.1 (e b hb)
 ·intro e i hi
  obtain ⟨T, hT, b, a, rfl, c, hb⟩ := h2 i (h1 i hi)
  have : itN p k b = b := c.dvd.2 (Nat.dvd_trans (dvd_lcmL (List.mem_map.2 ⟨T, hT, rfl⟩)) e)
  rw [← d9, Nat.add_comm, d9, this]
theorem ord_dvd (p : List Int) (c : Bool) (k : Nat) : ordZ p c ∣ k ↔ lcmL (gE p) ∣ k ∧ (c = true → k % 2 = 0) := by
 unfold ordZ
 generalize lcmL (gE p) = m
 by_cases h : c = true ∧ m % 2 = 1
 ·rw [if_pos h]
  constructor
  ·rintro ⟨q, rfl⟩
   refine ⟨⟨2 * q, by rw [← Nat.mul_assoc, Nat.mul_comm m 2]⟩, fun _ => ?_⟩
   rw [Nat.mul_assoc]; omega
  ·rintro ⟨⟨q, rfl⟩, h2⟩
   have h2 := h2 h.1
   have : q % 2 = 0 := by
    have h3 := Nat.mul_mod m q 2
    rw [h2, h.2] at h3
    have := Nat.mod_lt q (show 0 < 2 by omega)
    rcases (by omega : q % 2 = 0 ∨ q % 2 = 1) with q1 | q1
    ·exact q1
    ·rw [q1] at h3; omega
   obtain ⟨q', rfl⟩ := Nat.dvd_of_mod_eq_zero this
   exact ⟨q', by rw [← Nat.mul_assoc, Nat.mul_comm m 2]⟩
 ·rw [if_neg h]
  refine ⟨fun e => ⟨e, fun hc => ?_⟩, fun e => e.1⟩
  have hm : m % 2 = 0 := by
   rcases (by omega : m % 2 = 0 ∨ m % 2 = 1) with q1 | q1
   ·exact q1
   ·exact absurd ⟨hc, q1⟩ h
  obtain ⟨q, rfl⟩ := e
  rw [Nat.mul_mod, hm]; simp
end Go.Ev
namespace Go.Ev
open Go Go.Proofs
variable {B : Nat}
set_option maxRecDepth 100000
theorem sQuoT {a b : Int} {K : AV → OP} (h0 : b ≠ 0) (h : -9223372036854775808 ≤ a.tdiv b ∧ a.tdiv b ≤ 9223372036854775807) : sBin .quo .int (I a) (I b) K = K (I (a.tdiv b)) := by
 have e : sBin .quo .int (I a) (I b) K = (bif ieq b 0 then Out.no 5 else intK (IntKind.wrap .i64 (a.tdiv b)) fun z => K (.int .i64 z)) := rfl
 rw [e, xO]
 have hb : (b == 0) = false := by simpa using h0
 rw [hb, cond_false, wY]
 have hw : IntKind.wrap .i64 (a.tdiv b) = a.tdiv b := by simpa [dS] using xZ h
 rw [hw]
theorem sRemNN {a b : Nat} {K : AV → OP} (hb : 0 < b) : sBin .rem .int (I (a : Int)) (I (b : Int)) K = K (I ((a % b : Nat) : Int)) := by
 have e : sBin .rem .int (I (a : Int)) (I (b : Int)) K = (bif ieq (b : Int) 0 then Out.no 5 else intK ((a : Int).tmod b) fun z => K (.int .i64 z)) := rfl
 have h0 : ieq (b : Int) 0 = false := by rw [xO, beq_eq_false_iff_ne]; omega
 rw [e, h0, cond_false, wY]; rfl
theorem sQuoNN {a b : Nat} {K : AV → OP} (ha : a ≤ 9223372036854775807) (hb : 0 < b) : sBin .quo .int (I (a : Int)) (I (b : Int)) K = K (I ((a / b : Nat) : Int)) := by
 have h1 : (a : Int).tdiv b = ((a / b : Nat) : Int) := by rw [Int.tdiv_eq_ediv_of_nonneg (by omega)]; simp
 have h2 : a / b ≤ a := Nat.div_le_self a b
 rw [sQuoT (by omega) (by rw [h1]; generalize a / b = q at *; omega), h1]
theorem gcd139 {a b : Nat} : Pure Tryz.prog B 139 [I a, I b] (· = I (Nat.gcd a b)) := by
 refine yV fun h nx K H0 hK => zS zV dreg (b + 1) fun hf' => ?_
 rw [F139.go, F139.t12, zA, F139.t0_s, F139.t11, zA, F139.t8, zQ]
 refine F139.t7_L (fun m x0 x1 h' nx' => ∃ a' b' : Nat, x0 = I a' ∧ x1 = I b' ∧ b' = m ∧ Nat.gcd a' b' = Nat.gcd a b ∧ Hp h h' nx' []) (m := b) (by omega) ⟨a, b, rfl, rfl, rfl, rfl, H0⟩ ?_
 rintro m z0 z1 z3 h3 nx3 R ⟨a', b', rfl, rfl, rfl, hg, H3⟩ hR
 rw [F139.t6, zA, F139.t3, zA, F139.t1_s, sNeq]
 by_cases c : b' = 0
 ·subst c
  rw [decide_eq_true (by omega), Bool.not_true, F139.t2, zG, F139.v3, zE, jM, gZ, F139.t10, zA, F139.t9_s]
  simp only [yA, yT]
  rw [F139.ret]
  exact hK _ _ _ _ _ H3 (zI rfl) (by rw [← hg, Nat.gcd_zero_right])
 ·rw [decide_eq_false (by omega), Bool.not_false, F139.t2, zG, F139.v3, zD, zN, F139.t5, zQ, F139.t4_s, sRemNN (by omega)]
  exact hR (a' % b') _ _ _ _ _ (Nat.mod_lt _ (by omega)) ⟨b', a' % b', rfl, rfl, rfl, by rw [← hg, Nat.gcd_comm a' b', Nat.gcd_rec b' a', Nat.gcd_comm], H3⟩
abbrev nV (k : Nat) : AV := I (k : Int)
def vQ (n : Nat) (S : List Nat) : List AV := rowL n fun x : Nat => .bool (decide (x ∈ S))
theorem seenN_set {n : Nat} {S : List Nat} {c : Nat} : (vQ n S).set c (.bool true) = vQ n (S ++ [c]) := by
 unfold vQ
 rw [rowL_set]
 refine wT fun j _ => ?_
 by_cases e : j = c
 ·subst e; rw [if_pos rfl, decide_eq_true (by simp)]
 ·rw [if_neg e]
  have e2 : (j ∈ S ++ [c]) ↔ j ∈ S := by
   rw [List.mem_append, List.mem_singleton]
   exact ⟨fun q => q.resolve_right e, .inl⟩
  simp only [e2]
theorem seenN_get {n : Nat} {S : List Nat} {c : Nat} (hc : c < n) : (vQ n S)[c]? = some (.bool (decide (c ∈ S))) := xJ hc
theorem seenN_nil (n : Nat) : List.replicate n (AV.bool false) = vQ n [] := by
 rw [rowL_const, vQ]
 exact wT fun j _ => by simp
theorem PermL.pn {p : List Int} (h : PermL p) : PN p := {
 lt i hi := by
  have := h.2 _ (List.mem_of_getElem? (getD_some hi))
  show (p.getD i 0).toNat < _
  omega
 inj i j hi hj e := by
  have h1 := h.2 _ (List.mem_of_getElem? (getD_some hi))
  have h2 := h.2 _ (List.mem_of_getElem? (getD_some hj))
  have e : (p.getD i 0).toNat = (p.getD j 0).toNat := e
  have e2 : p.getD i 0 = p.getD j 0 := by omega
  exact nodup_get h.1 (getD_some hi) (e2 ▸ getD_some hj) }
theorem nxt_int {p : List Int} (h : PermL p) {c : Nat} (hc : c < p.length) : p.getD c 0 = ((nxt p c : Nat) : Int) := by
 have h1 := h.2 _ (List.mem_of_getElem? (getD_some hc))
 show _ = (((p.getD c 0).toNat : Nat) : Int)
 omega
theorem new_lt {n c : Nat} {S : List Nat} (h1 : S.Nodup) (h2 : ∀ x ∈ S, x < n) (hc : c < n) (hn : c ∉ S) : (S ++ [c]).Nodup ∧ (∀ x ∈ S ++ [c], x < n) ∧ S.length < n := by
 have a1 : (S ++ [c]).Nodup := List.nodup_append.2 ⟨h1, by simp, by rintro a ha b hb rfl; rw [List.mem_singleton.1 hb] at ha; exact hn ha⟩
 have a2 : ∀ x ∈ S ++ [c], x < n := fun x hx => by
  rcases List.mem_append.1 hx with q | q
  ·exact h2 x q
  ·rw [List.mem_singleton.1 q]; exact hc
 have := len_lt a1 a2
 simp at this
 exact ⟨a1, a2, by omega⟩
theorem cycles138 {p : List Int} {c : Bool} {h0 h : T Blk} {nx p0 : Pa} {L : List Ob} {K : Kw Prop} (H : Hp h0 h nx L) (hp : PermL p) (hn : p.length ≤ 1000)
  (hK : ∀ o b1 sb z h' nx', Hp h0 h' nx' (.gro o 1 (gE p).length ((gE p).map nV) :: .arr sb z :: .arr b1 [encI p, .bool c] :: L) → K (rowV o 1 (gE p).length) h' nx' = .ok True) : (CS Tryz.prog B).fn 138 p0 [.agg [encI p, .bool c]] h nx K = .ok True := by
 refine gC (p := .of 138) (K := K) (zS zV dreg 10000000 fun hf => ?_) fun _ _ _ _ q => q
 have hP := hp.pn
 rw [F138.go, F138.t42, zA, F138.t0_s]
 refine H.box (l := [encI p, .bool c]) rfl fun b1 h1 nx1 H1 => ?_
 rw [F138.t41, zA, F138.t1_s, F138.t40, zA, F138.t2_s, sFx, H1.load (k := 0) (i := 0 + 0) rfl rfl, zJ]
 refine H1.mk1 (z := .bool false) p.length rfl rfl (by omega) (by decide) fun sb h2 nx2 H2 => ?_
 rw [seenN_nil] at H2
 rw [F138.t39, zA, F138.t36, zA, F138.t3_s, sFx, H2.load (k := 1) (i := 0 + 0) rfl rfl, zJ, F138.t35, zQ]
 refine F138.t34_L (fun m x3 x9 h' nx' => ∃ (i : Nat) (o : Option Pa), x9 = I i ∧ x3 = rowV o 1 (cycS p i).2.length ∧ m = p.length - i ∧ i ≤ p.length ∧ Hp h0 h' nx' (.gro o 1 (cycS p i).2.length (((cycS p i).2.map List.length).map nV) :: .arr sb (vQ p.length (cycS p i).1) :: .arr b1 [encI p, .bool c] :: L)) (m := p.length) (by omega) ⟨0, none, rfl, rfl, by omega, by omega, H2.addGro 1⟩ ?_
 rintro m z3 z5 z6 z7 z9 z10 z11 z12 h3 nx3 R ⟨i, o, rfl, rfl, rfl, hi, H3⟩ hR
 have hle : (cycS p i).2.length ≤ i := cyc_len p i
 rw [F138.t33, zA, F138.t4_s, sLss]
 by_cases hlt : i < p.length
 case neg =>
  obtain rfl : i = p.length := by omega
  rw [decide_eq_false (by omega), F138.t32, zA, F138.t5, zG, F138.v10, zE, jM, gZ, F138.t38, zA, F138.t37_s]
  simp only [yA, yT]
  rw [F138.ret]
  have e : (gE p).length = (cycS p p.length).2.length := List.length_map _
  rw [← e] at H3 ⊢
  exact hK o b1 sb _ _ _ H3
 obtain ⟨C, _⟩ := cyc_inv hP i hi
 have hnx := vK p i
 unfold stT at hnx
 rw [decide_eq_true (by omega), F138.t32, zA, F138.t5, zG, F138.v10, zD, zN, F138.t31, zA, F138.t29, zQ, F138.t28, zA, F138.t6_s, F138.t27, zA, F138.t7_s, F138.t26, zA, F138.t21, zA, F138.t8_s, F138.t20, zQ]
 generalize hS : (cycS p i).1 = S at *
 generalize hT : (cycS p i).2 = Ts at *
 refine F138.t19_L (fun m x6 x7 h' nx' => ∃ (cc : Nat) (S' : List Nat), x6 = I ((S'.length - S.length : Nat) : Int) ∧ x7 = I cc ∧ m = p.length - S'.length ∧ S.length ≤ S'.length ∧ cc < p.length ∧ S'.Nodup ∧ (∀ x ∈ S', x < p.length) ∧ orbW p cc S' = orbW p i S ∧ Hp h0 h' nx' (.gro o 1 Ts.length ((Ts.map List.length).map nV) :: .arr sb (vQ p.length S') :: .arr b1 [encI p, .bool c] :: L)) (m := p.length - S.length) (by omega) ⟨i, S, by rw [Nat.sub_self]; rfl, rfl, rfl, Nat.le_refl _, hlt, C.nd, C.lt, rfl, H3⟩ ?_
 rintro m y6 y7 y11 h5 nx5 R2 ⟨cc, S', rfl, rfl, rfl, q0, q1, q2, q3, q4, H5⟩ hR2
 have hSl := len_lt q2 q3
 rw [F138.t18, zA, F138.t11, zA, F138.t9_s, sIx rfl q1, H5.load (k := 1) rfl (seenN_get q1), jA, F138.t10, zG, F138.v11]
 by_cases d : cc ∈ S'
 case neg =>
  obtain ⟨d1, d2, d3⟩ := new_lt q2 q3 q1 d
  rw [decide_eq_false d, Bool.not_false, zD, zN, F138.t17, zA, F138.t15, zQ, F138.t14, zA, F138.t12_s, sIx rfl q1]
  refine H5.store (k := 1) rfl (by rw [vQ]; simpa [rowL] using q1) rfl fun h6 H6 => ?_
  have H6 : Hp h0 h6 nx5 (.gro o 1 Ts.length ((Ts.map List.length).map nV) :: .arr sb (vQ p.length (S' ++ [cc])) :: .arr b1 [encI p, .bool c] :: L) := H6.cast (by rw [← seenN_set]; rfl)
  rw [F138.t13_s, sAdd (by omega), F138.t16_s, sFx, H6.load (k := 2) (i := 0 + 0) rfl rfl, sIxL (i := cc) rfl q1, ldL (getI (getD_some q1)), nxt_int hp q1]
  refine hR2 (p.length - (S' ++ [cc]).length) _ _ _ _ _ (by simp; omega) ⟨nxt p cc, S' ++ [cc], ?_, rfl, rfl, by simp; omega, hP.lt cc q1, d1, d2, ?_, H6⟩
  ·rw [List.length_append, List.length_singleton]; congr 1; omega
  ·rw [← orbW_step d (by omega)]; exact q4
 rw [decide_eq_true d, Bool.not_true, zE, jM, gZ, F138.t25, zA, F138.t22_s, sGtr]
 rw [orbW_in d] at q4
 rw [← q4] at hnx
 by_cases e : S.length < S'.length
 ·rw [if_pos e] at hnx
  have eT : (cycS p (i + 1)).2 = Ts ++ [S'.drop S.length] := by rw [hnx]
  have eS : (cycS p (i + 1)).1 = S' := by rw [hnx]
  rw [decide_eq_true (by omega), F138.t24, zG, F138.v12, zD, F138.t23_s]
  refine H5.bslice (l := [I ((S'.length - S.length : Nat) : Int)]) rfl fun tb h6 nx6 H6 => ?_
  refine H6.appN (k := 1) (o := o) (c := 1) (esz := 1) (new := [I ((S'.length - S.length : Nat) : Int)]) rfl (HasArr.rd (l := [I ((S'.length - S.length : Nat) : Int)]) (n := 1) (e := 1) (H6.own _ (List.mem_cons_self ..)) rfl) rfl rfl (by decide) (by decide) (by omega) fun o' h7 nx7 _ H7 => ?_
  rw [F138.t30_s, sAdd (by omega)]
  refine hR (p.length - (i + 1)) _ _ _ _ _ _ _ _ _ _ (by omega) ⟨i + 1, o', rfl, by rw [eT, List.length_append]; rfl, rfl, by omega, ?_⟩
  rw [eT, eS]
  refine H7.drop.cast ?_
  rw [List.length_append, List.map_append, List.map_append]
  simp
 ·rw [if_neg e] at hnx
  have eT : (cycS p (i + 1)).2 = Ts := by rw [hnx]
  have eS : (cycS p (i + 1)).1 = S' := by rw [hnx]
  rw [decide_eq_false (by omega), F138.t24, zG, F138.v12, zE, zN, F138.t30_s, sAdd (by omega)]
  refine hR (p.length - (i + 1)) _ _ _ _ _ _ _ _ _ _ (by omega) ⟨i + 1, o, rfl, by rw [eT], rfl, by omega, ?_⟩
  rw [eT, eS]
  exact H5
end Go.Ev
namespace Go.Ev
open Go Go.Proofs
variable {B : Nat}
set_option maxRecDepth 100000
end Go.Ev
namespace Go.Ev
open Go Go.Proofs
variable {B : Nat}
set_option maxRecDepth 100000
def xI (f : List Int) : Bool := decide (f.length ≤ 9) && f.all fun x => decide (-1000 ≤ x ∧ x ≤ 1000)
theorem small80 {f : List Int} : Pure Tryz.prog B 80 [encI f] (· = .bool (xI f)) := by
 refine yV fun h nx K H0 hK => zS zV dreg 1000 fun hf' => ?_
 rw [F80.go, F80.t26, zA, F80.t0_s, F80.t25, zA, F80.t5, zA, F80.t1_s, zJ, sGtr, F80.t4, zG, F80.v3]
 by_cases c : 9 < f.length
 ·rw [decide_eq_true (by omega), zD, F80.t3, zA, F80.t2_s]
  simp only [yA, yT]
  rw [F80.ret]
  exact hK _ _ _ _ _ H0 (zI rfl) (by rw [xI, decide_eq_false (by omega)]; rfl)
 rw [decide_eq_false (by omega), zE, zN, F80.t24, zA, F80.t21, zA, F80.t6_s, F80.t20, zQ]
 refine F80.t19_L (fun m x2 h' nx' => ∃ i : Nat, x2 = I i ∧ m = f.length - i ∧ i ≤ f.length ∧ (f.take i).all (fun x => decide (-1000 ≤ x ∧ x ≤ 1000)) = true ∧ Hp h h' nx' []) (m := f.length) (by omega) ⟨0, rfl, by omega, by omega, by simp, H0⟩ ?_
 rintro m z1 z2 z4 z5 h3 nx3 R ⟨i, rfl, rfl, hi, ha, H3⟩ hR
 rw [F80.t18, zA, F80.t9, zA, F80.t7_s, zJ, sLss]
 by_cases hlt : i < f.length
 case neg =>
  rw [List.take_of_length_le (by omega)] at ha
  rw [decide_eq_false (by omega), F80.t8, zG, F80.v4, zE, jM, gZ, F80.t23, zA, F80.t22_s, yA, yT, F80.ret]
  exact hK _ _ _ _ _ H3 (zI rfl) (by rw [xI, ha, decide_eq_true (by omega)]; rfl)
 have hx : f[i]? = some f[i] := List.getElem?_eq_getElem hlt
 have hno : ¬ (-1000 ≤ f[i] ∧ f[i] ≤ 1000) → xI f = false := fun q => by
  rw [xI]
  refine Bool.and_eq_false_iff.2 (.inr (Bool.eq_false_iff.2 fun z => ?_))
  exact q (of_decide_eq_true (List.all_eq_true.1 z _ (List.getElem_mem hlt)))
 rw [decide_eq_true (by omega), F80.t8, zG, F80.v4, zD, zN, F80.t17, zA, F80.t15, zQ, F80.t14, zA, F80.t10_s, F80.r5_0, F80.r5_0_g, sIxL rfl hlt, ldL (getI hx), sLss]
 by_cases c1 : f[i] < -1000
 ·simp only [c1, decide_true, jZ]
  rw [F80.r5_1, F80.r5_1_g]
  simp only [jZ, yQ]
  rw [F80.t13, zG, F80.v5, zD, F80.t12, zA, F80.t11_s]
  simp only [yA, dO, yT]
  rw [F80.ret]
  exact hK _ _ _ _ _ H3 (zI rfl) (by rw [hno (by omega)])
 ·simp only [c1, decide_false, jC]
  rw [F80.r5_1, F80.r5_1_g]
  simp only [jC]
  rw [sIxL rfl hlt, ldL (getI hx), sGtr, yD, F80.t13, zG, F80.v5]
  by_cases c2 : 1000 < f[i]
  ·rw [decide_eq_true c2, zD, F80.t12, zA, F80.t11_s]
   simp only [yA, dO, yT]
   rw [F80.ret]
   exact hK _ _ _ _ _ H3 (zI rfl) (by rw [hno (by omega)])
  ·rw [decide_eq_false c2, zE, zN, F80.t16_s, sAdd (by omega)]
   exact hR (f.length - (i + 1)) _ _ _ _ _ _ (by omega) ⟨i + 1, rfl, rfl, by omega, qZ hx ha (decide_eq_true (by omega)), H3⟩
theorem notFar {l : List Int} (h : ∀ x ∈ l, -900000 ≤ x ∧ x ≤ 900000) : l.any farB = false := by
 refine Bool.eq_false_iff.2 fun q => ?_
 obtain ⟨x, hx, e⟩ := List.any_eq_true.1 q
 have := h x hx
 simp only [farB, Bool.or_eq_true, decide_eq_true_eq] at e
 omega
theorem fill0 {f : List Int} (hl : f.length ≤ 256) (h : ∀ x ∈ f, -100000 ≤ x ∧ x ≤ 100000) : fillE f = 0 := by
 rw [fillE, if_neg (by omega), rangeE, notFar fun x hx => by have := h x hx; omega]; rfl
end Go.Ev
namespace Go.Ev
open Go Go.Proofs
variable {B : Nat}
set_option maxRecDepth 100000
theorem vO {a : Sym} {f : List Int} (hd : DP f.length a) (hl : f.length ≤ 256) (hb : ∀ x ∈ f, -100000 ≤ x ∧ x ≤ 100000) : Pure Tryz.prog B 52 [encS a, encI f] (· = .tup [encI (yK a.2 a.1 f), I 0]) := by
 refine yV fun h nx K H0 hK => zS zV dreg 1000 fun hf' => ?_
 have hal : (yK a.2 a.1 f).length = f.length := jU ..
 rw [F52.go, F52.t27, zA, F52.t0_s]
 refine H0.box (l := [encI a.1, .bool a.2]) rfl fun b2 h1 nx1 H1 => ?_
 rw [F52.t26, zA, F52.t7, zA, F52.t1_s]
 (refine fill134 (by omega) _ _ _ _ ?_; rintro _ rfl _)
 rw [fill0 hl hb, F52.t6, zA, F52.t2_s, sNeq, decide_eq_true rfl, Bool.not_true, F52.t5, zG, F52.v8, zE, zN, F52.t25, zA, F52.t14, zA, F52.t8_s, H1.loadN (k := 0) (n := 2) rfl rfl, zJ]
 refine pU (g := a.1) (c := a.2) (by rw [hd.1.1]; omega) _ _ _ _ ?_
 rintro _ rfl _
 have e : yG a.1 f.length = 0 := by rw [yG, if_neg (by omega), if_neg (by rw [hd.1.1]; omega), if_pos hd.perm]
 rw [e, F52.t13, zA, F52.t9_s, sNeq, decide_eq_true rfl, Bool.not_true, F52.t12, zG, F52.v9, zE, zN, F52.t24, zA, F52.t15_s, H1.loadN (k := 0) (n := 2) rfl rfl]
 refine image135 (g := a.1) (c := a.2) (by omega) (by rw [hd.1.1]) hd.perm (fun y hy => by have := hb y hy; omega) _ _ _ _ ?_
 rintro _ rfl _
 rw [F52.t23, zA, F52.t20, zA, F52.t16_s]
 refine contF131 (l := yK a.2 a.1 f) (by omega) (fun x _ K hK => far137 x _ _ _ _ fun v hv _ => by rw [hv]; exact hK) ?_
 have hnf : (yK a.2 a.1 f).any farB = false := notFar fun x hx => by have := mJ hd rfl hb (by decide) x hx; omega
 rw [F52.t19, zG, F52.v10, hnf, zE, zN, F52.t22, zA, F52.t21_s]
 simp only [yA, yT]
 rw [F52.ret]
 exact hK _ _ _ _ _ H1 (j6 (zI (gU _)) (zI rfl)) rfl
end Go.Ev
namespace Go.Ev
open Go Go.Proofs
variable {B : Nat}
set_option maxRecDepth 100000
theorem ordZ_lt {p : List Int} (c : Bool) (h : p.length ≤ 256) : ordZ p c < 9223372036854775807 := by
 have := landauP h
 unfold ordZ
 split <;> omega
theorem lensC_pos {p : List Int} {c : Bool} : ∀ x ∈ jT p c, 0 < x := fun x hx => by
 unfold jT at hx
 cases c with
 | false => exact wH x hx
 | true =>
  rcases List.mem_append.1 hx with q | q
  ·exact wH x q
  ·rw [List.mem_singleton.1 q]; decide
theorem lcm_step {l : List Nat} {i x : Nat} (hx : l[i]? = some x) : lcmL (l.take (i + 1)) = lcmL (l.take i) / Nat.gcd (lcmL (l.take i)) x * x := by
 rw [List.take_add_one, hx]
 show lcmL (l.take i ++ [x]) = _
 rw [lcmL_snoc, lcm_div]
def ordE (p : List Int) : Int := yG p p.length
def ordV (p : List Int) (c : Bool) : AV := if ordE p ≠ 0 then .tup [I 0, I (ordE p)] else .tup [I (ordZ p c), I 0]
theorem ordE_ok {p : List Int} (h : ordE p = 0) : PermL p ∧ p.length ≤ 256 := by
 obtain ⟨h1, h2, h3⟩ := uO h
 exact ⟨h3, by omega⟩
theorem order55 {p : List Int} {c : Bool} (hl : p.length ≤ 100000) : Pure Tryz.prog B 55 [.agg [encI p, .bool c]] (· = ordV p c) := by
 refine yV fun h nx K H0 hK => zS zV dreg 10000000 fun hf' => ?_
 rw [F55.go, F55.t35, zA, F55.t0_s]
 refine H0.box (l := [encI p, .bool c]) rfl fun b1 h1 nx1 H1 => ?_
 rw [F55.t34, zA, F55.t7, zA, F55.t1_s, H1.loadN (k := 0) (n := 2) rfl rfl, sFx, H1.load (k := 0) (i := 0 + 0) rfl rfl, zJ]
 refine pU hl _ _ _ _ ?_
 rintro _ rfl _
 rw [show yG p (p.length : Int) = ordE p from rfl, F55.t6, zA, F55.t2_s, sNeq, F55.t5, zG, F55.v8]
 by_cases z : ordE p = 0
 case neg =>
  rw [decide_eq_false z, Bool.not_false, zD, F55.t4, zA, F55.t3_s]
  simp only [yA, yT]
  rw [F55.ret]
  exact hK _ _ _ _ _ H1 (j6 (zI rfl) (zI rfl)) (by rw [ordV, if_pos z])
 obtain ⟨hp, h256⟩ := ordE_ok z
 rw [decide_eq_true z, Bool.not_true, zE, zN, F55.t33, zA, F55.t8_s, H1.loadN (k := 0) (n := 2) rfl rfl]
 refine cycles138 H1 hp (by omega) fun o b1' sb zz h3 nx3 H3 => ?_
 have hzl : (gE p).length ≤ 256 := by
  have := cyc_len p p.length
  rw [gE, List.length_map]; omega
 rw [F55.t32, zA, F55.t12, zA, F55.t9_s, sFx, H3.load (k := 3) (i := 0 + 1) rfl rfl, F55.t11, zG, F55.v9]
 have hcl : (jT p c).length ≤ 257 := by
  unfold jT
  split
  ·rw [List.length_append]; simp; omega
  ·omega
 have rest : ∀ (x4 x6 x7 x8 x10 x11 x12 x13 : AV) (o : Option Pa) (h4 : T Blk) (nx4 : Pa) (L : List Ob), Hp h h4 nx4 (.gro o 1 (jT p c).length ((jT p c).map nV) :: L) → IR.run F55.t31 (CS Tryz.prog B) 10000000 (fnO F55.res K) (retK F55.res K) (F55.fr (.agg [encI p, .bool c]) (.ptr b1 0) (I 0) (I 0) x4 (rowV o 1 (jT p c).length) x6 x7 x8 (.bool c) x10 x11 x12 x13) h4 nx4 = .ok True := by
  intro x4 x6 x7 x8 x10 x11 x12 x13 o h4 nx4 L H4
  rw [F55.t31, zA, F55.t13_s, F55.t30, zA, F55.t27, zA, F55.t14_s, H4.groLen (k := 0) rfl, F55.t26, zQ]
  refine F55.t25_L (fun m x6 x12 h' nx' => ∃ i : Nat, x12 = I i ∧ x6 = I ((lcmL ((jT p c).take i) : Nat) : Int) ∧ m = (jT p c).length - i ∧ i ≤ (jT p c).length ∧ Hp h h' nx' (.gro o 1 (jT p c).length ((jT p c).map nV) :: L)) (m := (jT p c).length) (by omega) ⟨0, rfl, rfl, by omega, by omega, H4⟩ ?_
  rintro m z6 z7 z12 z13 h5 nx5 R ⟨i, rfl, rfl, rfl, hi, H5⟩ hR
  have hM : ∀ i, lcmL ((jT p c).take i) < 9223372036854775807 := fun i => by
   have h1 := take_lcm (lensC_pos (p := p) (c := c)) i
   rw [ordZ_eq] at h1
   have := ordZ_lt c h256
   omega
  rw [F55.t24, zA, F55.t15_s, sLss]
  by_cases hlt : i < (jT p c).length
  case neg =>
   obtain rfl : i = (jT p c).length := by omega
   rw [decide_eq_false (by omega), F55.t23, zA, F55.t16, zG, F55.v13, zE, jM, gZ, F55.t29, zA, F55.t28_s]
   simp only [yA, yT]
   rw [F55.ret, List.take_length, ordZ_eq]
   exact hK _ _ _ _ _ H5 (j6 (zI rfl) (zI rfl)) (by rw [ordV, if_neg (fun q => q z)])
  have hx : (jT p c)[i]? = some (jT p c)[i] := List.getElem?_eq_getElem hlt
  have hpos := lensC_pos _ (List.getElem_mem hlt)
  have hst := lcm_step hx
  have hM1 := hM (i + 1)
  have hMi := hM i
  generalize (jT p c)[i] = x at *
  obtain ⟨id, q1, q2⟩ := H5.groIx (k := 0) rfl (show ((jT p c).map nV)[i]? = some (nV x) by rw [List.getElem?_map, hx]; rfl)
  have hg : 0 < Nat.gcd (lcmL ((jT p c).take i)) x := Nat.gcd_pos_of_pos_right _ hpos
  rw [decide_eq_true (by omega), F55.t23, zA, F55.t16, zG, F55.v13, zD, zN, F55.t22, zA, F55.t20, zQ, F55.t19, zA, F55.t17_s, q1, q2, F55.t18_s]
  refine gcd139 _ _ _ _ ?_
  rintro _ rfl _
  rw [hst] at hM1
  rw [sQuoNN (by omega) hg]
  generalize lcmL ((jT p c).take i) / Nat.gcd (lcmL ((jT p c).take i)) x = d at *
  have hmul : ((d : Nat) : Int) * ((x : Nat) : Int) = ((d * x : Nat) : Int) := (Int.natCast_mul d x).symm
  rw [sMul (by rw [hmul]; omega), hmul, F55.t21_s, sAdd (by omega)]
  exact hR ((jT p c).length - (i + 1)) _ _ _ _ _ _ (by omega) ⟨i + 1, rfl, by rw [hst], rfl, by omega, H5⟩
 cases c with
 | false =>
  rw [zE, zN]
  exact rest _ _ _ _ _ _ _ _ o _ _ _ H3
 | true =>
  rw [zD, F55.t10_s]
  refine H3.bslice (l := [I 2]) rfl fun tb h6 nx6 H6 => ?_
  refine H6.appN (k := 1) (o := o) (c := 1) (esz := 1) (new := [I 2]) rfl (HasArr.rd (l := [I 2]) (n := 1) (e := 1) (H6.own _ (List.mem_cons_self ..)) rfl) rfl rfl (by decide) (by decide) (by omega) fun o' h7 nx7 _ H7 => ?_
  have e1 : (gE p).length + 1 = (jT p true).length := by unfold jT; rw [if_pos rfl, List.length_append]; rfl
  have e2 : (gE p).map nV ++ [I 2] = (jT p true).map nV := by unfold jT; rw [if_pos rfl, List.map_append]; rfl
  rw [e1, e2] at H7
  rw [e1]
  exact rest _ _ _ _ _ _ _ _ o' _ _ _ H7.drop
end Go.Ev
namespace Go.Ev
open Go Go.Proofs
variable {B : Nat}
set_option maxRecDepth 100000
def cmpE (a b : Sym) : Int := qW [yG a.1 a.1.length, yG b.1 a.1.length]
def cmpV (a b : Sym) : AV := if cmpE a b ≠ 0 then .tup [encZ, I (cmpE a b)] else .tup [encS (zK a b), I 0]
def invV (a : Sym) : AV := if ordE a.1 ≠ 0 then .tup [encZ, I (ordE a.1)] else .tup [encS (invS a), I 0]
theorem cmpE_eq (a b : Sym) : cmpE a b = if yG a.1 a.1.length ≠ 0 then yG a.1 a.1.length else yG b.1 a.1.length := by
 show (if yG a.1 a.1.length ≠ 0 then yG a.1 a.1.length else if yG b.1 a.1.length ≠ 0 then yG b.1 a.1.length else 0) = _
 by_cases z : yG a.1 a.1.length = 0 <;> by_cases z2 : yG b.1 a.1.length = 0 <;> simp [z, z2]
theorem compose53 {a b : Sym} (ha : a.1.length ≤ 100000) (hb : b.1.length ≤ 100000) : Pure Tryz.prog B 53 [encS a, encS b] (· = cmpV a b) := by
 refine yV fun h nx K H0 hK => zS zV dreg 10000 fun hf' => ?_
 rw [F53.go, F53.t11, zA, F53.t0_s]
 refine H0.box (l := [encI a.1, .bool a.2]) rfl fun b2 h1 nx1 H1 => ?_
 refine H1.box (l := [encI b.1, .bool b.2]) rfl fun b3 h2 nx2 H2 => ?_
 refine H2.alloc fun b4 h3 nx3 H3 => ?_
 have l2 : ∀ op : AV → OP, zH 2 (.ptr b2 0) h3 op = op (encS a) := fun op => H3.loadN (k := 2) (n := 2) rfl rfl
 have l3 : ∀ op : AV → OP, zH 2 (.ptr b3 0) h3 op = op (encS b) := fun op => H3.loadN (k := 1) (n := 2) rfl rfl
 have m2 : ∀ op : AV → OP, zF (.ptr b2 (0 + 0)) h3 op = op (encI a.1) := fun op => H3.load (k := 2) (i := 0 + 0) rfl rfl
 rw [F53.t10, zA, F53.t7, zA, F53.t1_s]
 simp only [l2, l3, sFx, m2, zJ]
 refine pU ha _ _ _ _ ?_
 rintro _ rfl _
 simp only [l2, l3, sFx, m2, zJ, zB]
 refine pU hb _ _ _ _ ?_
 rintro _ rfl _
 refine H3.bslice (l := [I (yG a.1 a.1.length), I (yG b.1 a.1.length)]) rfl fun tb h5 nx5 H5 => ?_
 refine wD (l := [yG a.1 a.1.length, yG b.1 a.1.length]) H5 (k := 0) rfl (fun B => xS (by simp)) (fun v hv => by rw [hv]; exact .int _ _) ?_
 rintro _ rfl
 rw [show qW [yG a.1 a.1.length, yG b.1 a.1.length] = cmpE a b from rfl, F53.t6, zA, F53.t2_s, sNeq, F53.t5, zG, F53.v7]
 by_cases z : cmpE a b = 0
 case neg =>
  rw [decide_eq_false z, Bool.not_false, zD, F53.t4, zA, F53.t3_s, sBuild0]
  refine H5.storeN (k := 1) (n := 2) rfl rfl rfl fun h6 H6 => ?_
  simp only [yA, yT]
  rw [F53.ret, H6.loadN (k := 1) (n := 2) rfl rfl]
  exact hK _ _ _ _ _ H6 (j6 frz_encZ (zI rfl)) (by rw [cmpV, if_pos z])
 have z' := z
 rw [cmpE_eq] at z'
 by_cases za : yG a.1 a.1.length = 0
 case neg => rw [if_pos za] at z'; exact absurd z' za
 rw [if_neg (fun q => q za)] at z'
 obtain ⟨_, a2, a3⟩ := uO za
 obtain ⟨_, b2', b3'⟩ := uO z'
 rw [decide_eq_true z, Bool.not_true, zE, zN, F53.t9, zA, F53.t8_s, H5.loadN (k := 3) (n := 2) rfl rfl, H5.loadN (k := 2) (n := 2) rfl rfl]
 refine xY (a := a) (b := b) (fun x hx => by have := b3'.2 x hx; omega) (by omega) _ _ _ _ ?_
 rintro _ rfl _
 refine H5.storeN (k := 1) (n := 2) rfl rfl rfl fun h6 H6 => ?_
 simp only [yA, yT]
 rw [F53.ret, H6.loadN (k := 1) (n := 2) rfl rfl]
 exact hK _ _ _ _ _ H6 (j6 (frz_encS _) (zI rfl)) (by rw [cmpV, if_neg (fun q => q z)])
theorem invert54 {a : Sym} (ha : a.1.length ≤ 100000) : Pure Tryz.prog B 54 [encS a] (· = invV a) := by
 refine yV fun h nx K H0 hK => zS zV dreg 10000 fun hf' => ?_
 rw [F54.go, F54.t11, zA, F54.t0_s]
 refine H0.box (l := [encI a.1, .bool a.2]) rfl fun b1 h1 nx1 H1 => ?_
 refine H1.alloc fun b2 h2 nx2 H2 => ?_
 rw [F54.t10, zA, F54.t7, zA, F54.t1_s, H2.loadN (k := 1) (n := 2) rfl rfl, sFx, H2.load (k := 1) (i := 0 + 0) rfl rfl, zJ]
 refine pU ha _ _ _ _ ?_
 rintro _ rfl _
 rw [show yG a.1 (a.1.length : Int) = ordE a.1 from rfl, F54.t6, zA, F54.t2_s, sNeq, F54.t5, zG, F54.v5]
 by_cases z : ordE a.1 = 0
 case neg =>
  rw [decide_eq_false z, Bool.not_false, zD, F54.t4, zA, F54.t3_s, sBuild0]
  refine H2.storeN (k := 0) (n := 2) rfl rfl rfl fun h6 H6 => ?_
  simp only [yA, yT]
  rw [F54.ret, H6.loadN (k := 0) (n := 2) rfl rfl]
  exact hK _ _ _ _ _ H6 (j6 frz_encZ (zI rfl)) (by rw [invV, if_pos z])
 obtain ⟨hp, h256⟩ := ordE_ok z
 rw [decide_eq_true z, Bool.not_true, zE, zN, F54.t9, zA, F54.t8_s, H2.loadN (k := 1) (n := 2) rfl rfl]
 refine inv124 (DP.of hp rfl) (by omega) _ _ _ _ ?_
 rintro _ rfl _
 refine H2.storeN (k := 0) (n := 2) rfl rfl rfl fun h6 H6 => ?_
 simp only [yA, yT]
 rw [F54.ret, H6.loadN (k := 0) (n := 2) rfl rfl]
 exact hK _ _ _ _ _ H6 (j6 (frz_encS _) (zI rfl)) (by rw [invV, if_neg (fun q => q z)])
end Go.Ev
namespace Go.Ev
open Go Go.Proofs
variable {B : Nat}
set_option maxRecDepth 100000
end Go.Ev
namespace Go.Ev
open Go.Proofs
def pwS (a : Sym) (f : List Int) : Nat → List Int
 | 0 => f
 | k + 1 => yK a.2 a.1 (pwS a f k)
theorem dY (a : Sym) (f : List Int) : ∀ k, (pwS a f k).length = f.length
 | 0 => rfl
 | k + 1 => by show (yK a.2 a.1 (pwS a f k)).length = _; rw [jU, dY a f k]
def xk (n : Nat) (c : Bool) (k : Nat) (x : Int) : Int := if c = true ∧ k % 2 = 1 then (n : Int) + 1 - x else x
theorem xk_succ (n : Nat) (c : Bool) (k : Nat) (x : Int) : xOf n c (xk n c k x) = xk n c (k + 1) x := by
 unfold xk xOf
 cases c with
 | false => simp
 | true =>
  by_cases h : k % 2 = 1
  ·simp only [h, and_self, if_true]
   have : ¬ (k + 1) % 2 = 1 := by omega
   simp only [this, and_false, if_false]
   first | omega | (simp; omega)
  ·have h2 : (k + 1) % 2 = 1 := by omega
   simp [h, h2]
theorem pwS_get {n : Nat} {a : Sym} (ha : DP n a) {f : List Int} (hf : f.length = n) : ∀ (k i : Nat), i < n → (pwS a f k)[itN a.1 k i]? = some (xk n a.2 k (f.getD i 0))
 | 0, i, hi => by
  show f[i]? = some (xk n a.2 0 (f.getD i 0))
  have : xk n a.2 0 (f.getD i 0) = f.getD i 0 := by unfold xk; simp
  rw [this]
  exact getD_some (by omega)
 | k + 1, i, hi => by
  have hP := ha.perm.pn
  have hj : itN a.1 k i < n := by have := hP.itlt k i (by rw [ha.1.1]; exact hi); rw [ha.1.1] at this; exact this
  have ih := pwS_get ha hf k i hi
  have := kX ha (f := pwS a f k) (by rw [dY, hf]) hj
  rw [List.getD_eq_getElem?_getD (l := pwS a f k), ih] at this
  show (yK a.2 a.1 (pwS a f k))[nxt a.1 (itN a.1 k i)]? = _
  rw [← xk_succ]
  exact this
def y5 (n : Nat) : List Int := (List.range n).map fun j : Nat => 100 + 3 * (j : Int)
theorem uP (n : Nat) : (y5 n).length = n := by simp [y5]
theorem markL_get {n i : Nat} (h : i < n) : (y5 n).getD i 0 = 100 + 3 * (i : Int) := by
 rw [List.getD_eq_getElem?_getD, y5, List.getElem?_map, List.getElem?_range h]; rfl
theorem pwS_mark {n : Nat} {a : Sym} (ha : DP n a) (hn : 0 < n) (hn2 : n ≤ 50) (k : Nat) : pwS a (y5 n) k = y5 n ↔ ordZ a.1 a.2 ∣ k := by
 have hP := ha.perm.pn
 have hl := ha.1.1
 have hlt : ∀ i, i < n → itN a.1 k i < n := fun i hi => by have := hP.itlt k i (by rw [hl]; exact hi); rw [hl] at this; exact this
 rw [ord_dvd, ← pow_id hP]
 constructor
 ·intro e
  have key : ∀ i, i < n → 100 + 3 * ((itN a.1 k i : Nat) : Int) = xk n a.2 k (100 + 3 * (i : Int)) := fun i hi => by
   have h1 := pwS_get ha (uP n) k i hi
   rw [e, getD_some (by rw [uP]; exact hlt i hi), markL_get (hlt i hi), markL_get hi] at h1
   exact Option.some.inj h1
  have ev : a.2 = true → k % 2 = 0 := fun hc => by
   have := key 0 hn
   unfold xk at this
   by_cases h : k % 2 = 1
   ·rw [if_pos ⟨hc, h⟩] at this; omega
   ·omega
  refine ⟨fun i hi => ?_, ev⟩
  have := key i (by omega)
  unfold xk at this
  rw [if_neg (fun q => by have := ev q.1; omega)] at this
  omega
 ·rintro ⟨h1, h2⟩
  refine u4 (n := n) (by rw [dY, uP]) (uP n) fun i hi => ?_
  have := pwS_get ha (uP n) k i hi
  rw [h1 i (by omega)] at this
  rw [this, getD_some (by rw [uP]; exact hi)]
  unfold xk
  rw [if_neg (fun q => by have := h2 q.1; omega)]
theorem pwS_bnd {n : Nat} {a : Sym} (ha : DP n a) (hn : n ≤ 9) : ∀ (k : Nat), ∀ y ∈ pwS a (y5 n) k, -(130 + 11 * (k : Int)) ≤ y ∧ y ≤ 130 + 11 * (k : Int)
 | 0, y, hy => by
  obtain ⟨j, hj, rfl⟩ := List.mem_map.1 hy
  have := List.mem_range.1 hj
  omega
 | k + 1, y, hy => by
  have := mJ ha (f := pwS a (y5 n) k) (by rw [dY, uP]) (M := 130 + 11 * (k : Int)) (fun x hx => pwS_bnd ha hn k x hx) (by omega) y hy
  omega
theorem ordZ_40 {p : List Int} {c : Bool} (h : p.length ≤ 9) : ordZ p c ≤ 40 := by
 have := land9 h
 unfold ordZ
 split <;> omega
theorem ordZ_pos (p : List Int) (c : Bool) : 1 ≤ ordZ p c := by
 have : 0 < lcmL (gE p) := lcmL_pos wH
 unfold ordZ
 split <;> omega
theorem dvd_eq {m k : Nat} (h1 : 1 ≤ k) (h2 : k ≤ m) : m ∣ k ↔ k = m := by
 constructor
 ·intro h
  have := Nat.le_of_dvd (by omega) h
  omega
 ·rintro rfl; exact Nat.dvd_refl _
end Go.Ev
namespace Go.Ev
open Go Go.Proofs
variable {B : Nat}
set_option maxRecDepth 100000
theorem Hp.killA {h0 h : T Blk} {nx id : Pa} {L : List Ob} {l : List AV} (H : Hp h0 h nx (.arr id l :: L)) : Hp h0 (T.set .no .no id h) nx L := by
 have hid : T.get .no id h0 = .no := H.off id (by simp [Ob.names])
 have H3 := H.drop
 have nd := H.nd
 simp only [List.flatMap_cons, Ob.names] at nd
 have hni : id ∉ L.flatMap Ob.names := fun hi => (List.nodup_append.1 nd).2.2 id (by simp) id hi rfl
 have other : ∀ j, j ≠ id → T.get .no j (T.set .no .no id h) = T.get .no j h := fun j hj => T.get_set_ne _ _ _ _ _ hj
 refine ⟨fun j hj => ?_, fun y hy => ?_, H3.off, H3.nd, fun j hj => ?_⟩
 ·rw [other j (by rintro rfl; exact hj hid)]; exact H.keep j hj
 ·exact (H3.own y hy).congr fun m hm => other m (by rintro rfl; exact hni (List.mem_flatMap.2 ⟨y, hy, hm⟩))
 ·by_cases e : j = id
  ·subst e; exact T.get_set_same _ _ _ _
  ·rw [other j e]; exact H.fr j hj
theorem Hp.letArr {h0 h : T Blk} {nx id : Pa} {L : List Ob} {l : List AV} {n : Nat} {cap : Option Nat} (H : Hp h0 h nx (.arr id l :: L)) (hf : ∀ v ∈ l, fixd v = true) (hl : l.length = n) (hc : dA n cap) : ∃ h', uB h' h ∧ Hp h0 h' nx L ∧ FrzN h' h (.sl id 0 n cap 1) (.lst 1 n l) :=
 ⟨_, keeps_kill, H.killA, HasArr.frz (H.own _ (List.mem_cons_self ..)) (T.get_set_same _ _ _ _) hc (by omega) hf⟩
theorem fixI (l : List Int) : ∀ v ∈ l.map I, fixd v = true := fun v hv => by obtain ⟨x, _, rfl⟩ := List.mem_map.1 hv; rfl
theorem same82o {h0 h : T Blk} {nx p id : Pa} {L : List Ob} {k : Nat} {l a : List Int} {K : Kw Prop} (H : Hp h0 h nx L) (hk : L[k]? = some (.arr id (l.map I))) (ha : a.length ≤ 1000000000)
  (hK : K (.bool (decide (a = l))) h nx = .ok True) : (CS Tryz.prog B).fn 82 p [encI a, .sl id 0 l.length (some l.length) 1] h nx K = .ok True :=
 CS_plain (args' := [encI a, encI l]) (.cons (zI (gU a)) (.cons (HasArr.frz (H.own _ (List.mem_of_getElem? hk)) (T.get_e _ id) (Nat.le_refl _) (by simp) (fixI l)) .nil)) (by
  have h1 := gU a
  have h2 := gU l
  simp only [nns, fixd.nn h1, fixd.nn h2, Bool.and_self]) (fun B => dF ha) (fun v hv => by rw [hv]; exact .bool _) fun v hv _ => by rw [hv]; exact hK
theorem small_ok {f : List Int} (h : xI f = true) : f.length ≤ 9 ∧ ∀ x ∈ f, -1000 ≤ x ∧ x ≤ 1000 := by
 simp only [xI, Bool.and_eq_true, decide_eq_true_eq, List.all_eq_true] at h
 exact h
theorem law14 {a b : Sym} {f : List Int} (haw : ∀ {B}, Pure Tryz.prog B 18 [] (· = .bool true)) : Pure Tryz.prog B 14 [encS a, encS b, encI f] (· = .bool true) := by
 refine yV fun h nx K H0 hK => zS zV dreg 1000 fun hf => ?_
 have awk : ∀ (h : T Blk) (nx : Pa) (Z : Kw Prop), Z (.bool true) h nx = .ok True → (CS Tryz.prog B).fn 18 (.of 18) [] h nx Z = .ok True := fun h nx Z hZ => haw _ _ _ _ fun v hv _ => by rw [hv]; exact hZ
 have ret : ∀ {h1 nx1 L}, Hp h h1 nx1 L → K (.bool true) h1 nx1 = .ok True := fun H => hK _ _ _ _ _ H (zI rfl) rfl
 rw [F14.go, F14.t77, zA, F14.t0_s]
 refine H0.box (l := [encI a.1, .bool a.2]) rfl fun b3 h1 nx1 H1 => ?_
 refine H1.box (l := [encI b.1, .bool b.2]) rfl fun b4 h2 nx2 H2 => ?_
 have l3 : ∀ op : AV → OP, zH 2 (.ptr b3 0) h2 op = op (encS a) := fun op => H2.loadN (k := 1) (n := 2) rfl rfl
 have l4 : ∀ op : AV → OP, zH 2 (.ptr b4 0) h2 op = op (encS b) := fun op => H2.loadN (k := 0) (n := 2) rfl rfl
 have out : ∀ (x5 x6 x7 x8 x9 x10 x11 x12 x13 x14 x15 x16 x17 x18 x19 x20 x21 x22 x23 x24 x25 x26 x27 x28 x29 x30 x31 x32 x33 x34 x35 : AV), IR.run F14.t3 (CS Tryz.prog B) 1000 (fnO F14.res K) (IR.run F14.t75 (CS Tryz.prog B) 1000 (fnO F14.res K) (retK F14.res K)) (F14.fr (encS a) (encS b) (encI f) (.ptr b3 0) (.ptr b4 0) x5 x6 x7 x8 x9 x10 x11 x12 x13 x14 x15 x16 x17 x18 x19 x20 x21 x22 x23 x24 x25 x26 x27 x28 x29 x30 x31 x32 x33 x34 x35) h2 nx2 = .ok True := by
  intros
  rw [F14.t3, zA, F14.t2_s]
  refine awk _ _ _ ?_
  simp only [yA, yT]
  rw [F14.ret]
  exact ret H2
 rw [F14.t76, zA, F14.t5, zA, F14.t1_s, F14.r1_0, F14.r1_0_g]
 refine awk _ _ _ ?_
 rw [F14.r1_1, F14.r1_1_g, jA, Bool.not_true]
 simp only [jC, gW_ff]
 (refine small80 _ _ _ _ ?_; rintro _ rfl _)
 rw [F14.r1_2, F14.r1_2_g]
 cases c1 : xI f with
 | false =>
  simp only [jC, jA, Bool.not_false, yD, jZ, gW_tf]
  rw [F14.r1_3, F14.r1_3_g]
  simp only [jZ, gW_tf, yQ]
  rw [F14.r1_4, F14.r1_4_g]
  simp only [jZ, yQ]
  rw [F14.t4, zG, F14.v28, zD]
  exact out ..
 | true =>
 obtain ⟨hn9, hfb⟩ := small_ok c1
 simp only [jC, jA, Bool.not_true, yD, zJ, l3, gW_ff]
 (refine sym47x _ _ _ _ ?_; rintro _ rfl _)
 rw [F14.r1_3, F14.r1_3_g]
 by_cases c2 : yG a.1 f.length = 0
 case neg =>
  simp only [jC, sNeq, c2, decide_false, Bool.not_false, yD, jZ, gW_tf]
  rw [F14.r1_4, F14.r1_4_g]
  simp only [jZ, yQ]
  rw [F14.t4, zG, F14.v28, zD]
  exact out ..
 simp only [jC, sNeq, c2, decide_true, Bool.not_true, yD, zJ, l4, gW_ff]
 (refine sym47x _ _ _ _ ?_; rintro _ rfl _)
 rw [F14.r1_4, F14.r1_4_g]
 by_cases c3 : yG b.1 f.length = 0
 case neg =>
  simp only [jC, sNeq, c3, decide_false, Bool.not_false, yD]
  rw [F14.t4, zG, F14.v28, zD]
  exact out ..
 simp only [jC, sNeq, c3, decide_true, Bool.not_true, yD]
 obtain ⟨_, a2, a3⟩ := uO c2
 obtain ⟨_, b2, b3'⟩ := uO c3
 have hda : DP f.length a := DP.of a3 (by omega)
 have hdb : DP f.length b := DP.of b3' (by omega)
 have hdc := (jG f.length).dm a b hda hdb
 have hdi := wX hda
 have hb1 : ∀ x ∈ f, -100000 ≤ x ∧ x ≤ 100000 := fun x hx => by have := hfb x hx; omega
 have ap1 : ∀ (g : Sym), DP f.length g → (yK g.2 g.1 f).length = f.length ∧ ∀ x ∈ yK g.2 g.1 f, -2000 ≤ x ∧ x ≤ 2000 := fun g hg => ⟨jU .., fun x hx => by have := mJ hg rfl (M := 1000) (fun x hx => by have := hfb x hx; omega) (by decide) x hx; omega⟩
 obtain ⟨wl, wb⟩ := ap1 a hda
 obtain ⟨xl, xb⟩ := ap1 b hdb
 have e53 : cmpV a b = .tup [encS (zK a b), I 0] := by
  have z1 : yG a.1 a.1.length = 0 := by rw [a2]; exact c2
  have z2 : yG b.1 a.1.length = 0 := by rw [a2]; exact c3
  have : cmpE a b = 0 := by rw [cmpE_eq, if_neg (fun q => q z1)]; exact z2
  rw [cmpV, if_neg (fun q => q this)]
 have z0 : ordE a.1 = 0 := by unfold ordE; rw [a2]; exact c2
 have e54 : invV a = .tup [encS (invS a), I 0] := by rw [invV, if_neg (fun q => q z0)]
 have e55 : ordV a.1 a.2 = .tup [I (ordZ a.1 a.2), I 0] := by rw [ordV, if_neg (fun q => q z0)]
 rw [F14.t4, zG, F14.v28, zE, zN, F14.t75, zA, F14.t6_s, l3, l4]
 refine compose53 (by omega) (by omega) _ _ _ _ ?_
 rintro _ rfl _
 rw [e53, yU, yX]
 refine H2.alloc fun b6 h3 nx3 H3 => ?_
 refine H3.storeN (k := 0) (n := 2) rfl rfl rfl fun h4 H4 => ?_
 clear l3 l4 out
 have H4 : Hp h h4 nx3 [.arr b6 [encI (zK a b).1, .bool (zK a b).2], .arr b4 [encI b.1, .bool b.2], .arr b3 [encI a.1, .bool a.2]] := H4
 rw [F14.t74, zA, F14.t7_s, H4.loadN (k := 1) (n := 2) rfl rfl]
 refine vO (a := b) hdb (by omega) hb1 _ _ _ _ ?_
 rintro _ rfl _
 rw [yU, yX, F14.t73, zA, F14.t8_s, H4.loadN (k := 2) (n := 2) rfl rfl]
 refine vO (a := a) (f := yK b.2 b.1 f) (by rw [xl]; exact hda) (by omega) (fun x hx => by have := xb x hx; omega) _ _ _ _ ?_
 rintro _ rfl _
 rw [yU, yX, F14.t72, zA, F14.t9_s, H4.loadN (k := 0) (n := 2) rfl rfl]
 refine vO (a := zK a b) hdc (by omega) hb1 _ _ _ _ ?_
 rintro _ rfl _
 rw [yU, yX, apply_comp hda hdb rfl, F14.t71, zA, F14.t10_s, H4.loadN (k := 2) (n := 2) rfl rfl]
 refine invert54 (by omega) _ _ _ _ ?_
 rintro _ rfl _
 rw [e54, yU, yX]
 refine H4.alloc fun b14 h5 nx5 H5 => ?_
 refine H5.storeN (k := 0) (n := 2) rfl rfl rfl fun h6 H6 => ?_
 have H6 : Hp h h6 nx5 [.arr b14 [encI (invS a).1, .bool (invS a).2], .arr b6 [encI (zK a b).1, .bool (zK a b).2], .arr b4 [encI b.1, .bool b.2], .arr b3 [encI a.1, .bool a.2]] := H6
 rw [F14.t70, zA, F14.t11_s, H6.loadN (k := 3) (n := 2) rfl rfl]
 refine vO (a := a) hda (by omega) hb1 _ _ _ _ ?_
 rintro _ rfl _
 have eback : yK (invS a).2 (invS a).1 (yK a.2 a.1 f) = f := by
  rw [← apply_comp hdi hda rfl, inv_l hda, apply_id rfl]
 rw [yU, yX, F14.t69, zA, F14.t12_s, H6.loadN (k := 0) (n := 2) rfl rfl]
 refine vO (a := invS a) (f := yK a.2 a.1 f) (by rw [wl]; exact hdi) (by omega) (fun x hx => by have := wb x hx; omega) _ _ _ _ ?_
 rintro _ rfl _
 rw [eback, yU, yX, F14.t68, zA, F14.t13_s, H6.loadN (k := 3) (n := 2) rfl rfl]
 refine order55 (by omega) _ _ _ _ ?_
 rintro _ rfl _
 have ho1 := ordZ_pos a.1 a.2
 have ho2 := ordZ_40 (p := a.1) (c := a.2) (by omega)
 rw [e55, yU, yX, F14.t67, zA, F14.t18, zA, F14.t14_s, F14.r11_0, F14.r11_0_g]
 generalize hM : ordZ a.1 a.2 = M at *
 have s00 : ∀ op : AV → OP, sBin .add .int (I 0) (I 0) op = op (I 0) := fun op => by rw [sAdd (by decide)]; rfl
 simp only [s00]
 rw [F14.r11_1, F14.r11_1_g]
 simp only [s00, sNeq, decide_true, Bool.not_true]
 rw [F14.r11_2, F14.r11_2_g]
 simp only [jC, gW_ff]
 (refine dF (by rw [jU, jU]; omega) _ _ _ _ ?_; rintro _ rfl _)
 rw [F14.r11_3, F14.r11_3_g]
 simp only [decide_true, jC, jA, Bool.not_true, yD, gW_ff]
 (refine dF (by omega) _ _ _ _ ?_; rintro _ rfl _)
 rw [F14.r11_4, F14.r11_4_g]
 simp only [decide_true, jC, jA, Bool.not_true, yD, sLss, decide_eq_false (show ¬ ((M : Nat) : Int) < 1 by omega)]
 rw [F14.r11_5, F14.r11_5_g]
 simp only [jC, sGtr, yD, decide_eq_false (show ¬ (40 : Int) < ((M : Nat) : Int) by omega)]
 rw [F14.t17, zG, F14.v29, zE, zN, F14.t66, zA, F14.t19_s, zJ]
 refine H6.mk1 (z := I 0) f.length rfl rfl (by omega) (by decide) fun mb h7 nx7 H7 => ?_
 rw [F14.t65, zA, F14.t33, zA, F14.t20_s, gJ, F14.t32, zQ]
 refine F14.t31_L (fun m x31 h' nx' => ∃ i : Nat, x31 = I i ∧ m = f.length - i ∧ i ≤ f.length ∧ Hp h h' nx' [.arr mb (rowL f.length fun j : Nat => if j < i then I (100 + 3 * (j : Int)) else I 0), .arr b14 [encI (invS a).1, .bool (invS a).2], .arr b6 [encI (zK a b).1, .bool (zK a b).2], .arr b4 [encI b.1, .bool b.2], .arr b3 [encI a.1, .bool a.2]]) (m := f.length) (by omega) ⟨0, rfl, by omega, by omega, H7.cast (by rw [rowL_const]; rfl)⟩ ?_
 rintro m z23 z31 z32 h8 nx8 R ⟨i, rfl, rfl, hi, H8⟩ hR
 rw [F14.t30, zA, F14.t21_s, sLss]
 by_cases hlt : i < f.length
 case pos =>
  rw [decide_eq_true (by omega), F14.t29, zA, F14.t22, zG, F14.v32, zD, zN, F14.t28, zA, F14.t26, zQ, F14.t25, zA, F14.t23_s, F14.t24_s, sMul (by omega), sAdd (by omega), sIx (i := i) rfl hlt]
  refine H8.store (k := 0) rfl (by simpa [rowL] using hlt) rfl fun h9 H9 => ?_
  rw [F14.t27_s, sAdd (by omega)]
  refine hR (f.length - (i + 1)) _ _ _ _ _ (by omega) ⟨i + 1, rfl, rfl, by omega, H9.cast ?_⟩
  simp only [List.set_cons_zero]
  rw [rowL_set]
  congr 2
  refine wT fun j _ => ?_
  by_cases e : j = i
  ·subst e; rw [if_pos rfl, if_pos (by omega)]
  ·rw [if_neg e]
   by_cases e2 : j < i
   ·rw [if_pos e2, if_pos (by omega)]
   ·rw [if_neg e2, if_neg (by omega)]
 obtain rfl : i = f.length := by omega
 have em : (rowL f.length fun j : Nat => if j < f.length then I (100 + 3 * (j : Int)) else I 0) = (y5 f.length).map I := by
  rw [y5, List.map_map]
  exact wT fun j hj => if_pos hj
 rw [em] at H8
 rw [decide_eq_false (by omega), F14.t29, zA, F14.t22, zG, F14.v32, zE, jM, gZ, F14.t64, zA, F14.t34_s]
 have hml := uP f.length
 refine H8.copyArrO (new := (y5 f.length).map I) (c := f.length) (fun e h1 n1 H1 => HasArr.rd (H1.own (.arr mb ((y5 f.length).map I)) (by simp)) (by simp [hml])) (by simpa using hml) (List.all_eq_true.2 fun v hv => fixd.scal (fixI _ v hv)) (by decide) (by omega) fun cb cap h9 nx9 hcap H9 => ?_
 rw [F14.t63, zA, F14.t60, zA, F14.t35_s, F14.t59, zQ]
 have hpl : ∀ k, (pwS a (y5 f.length) k).length = f.length := fun k => by rw [dY, hml]
 have hmk : pwS a (y5 f.length) 0 = y5 f.length := rfl
 let M5 : List Ob := [.arr mb ((y5 f.length).map I), .arr b14 [encI (invS a).1, .bool (invS a).2], .arr b6 [encI (zK a b).1, .bool (zK a b).2], .arr b4 [encI b.1, .bool b.2], .arr b3 [encI a.1, .bool a.2]]
 refine F14.t58_L (fun m x24 x25 h' nx' => ∃ k : Nat, x25 = I ((k + 1 : Nat) : Int) ∧ m = M - k ∧ k ≤ M ∧ ((k = 0 ∧ x24 = .sl cb 0 f.length cap 1 ∧ Hp h h' nx' (.arr cb ((y5 f.length).map I) :: M5)) ∨ (x24 = encI (pwS a (y5 f.length) k) ∧ Hp h h' nx' M5))) (m := M) (by omega) ⟨0, rfl, by omega, by omega, .inl ⟨rfl, rfl, H9⟩⟩ ?_
 rintro m z5 z24 z25 z26 z27 z33 z34 z35 h10 nx10 R2 ⟨k, rfl, rfl, hk, hcase⟩ hR2
 rw [F14.t57, zA, F14.t38, zA, F14.t36_s, sLeq]
 by_cases hkM : k < M
 case neg =>
  have fin : ∀ {L}, Hp h h10 nx10 L → R2 = R2 → K (.bool true) h10 nx10 = .ok True := fun H _ => ret H
  rw [decide_eq_false (by omega), F14.t37, zG, F14.v33, zE, jM, gZ, F14.t62, zA, F14.t61_s]
  simp only [yA, yT]
  rw [F14.ret]
  rcases hcase with ⟨_, _, H⟩ | ⟨_, H⟩
  ·exact ret H
  ·exact ret H
 have hpb := pwS_bnd hda hn9 k
 have hpn : DP (pwS a (y5 f.length) k).length a := by rw [hpl]; exact hda
 have step : ∀ (h11 : T Blk) (H11 : Hp h h11 nx10 M5) (Kk : Kw Prop), (Kk (.tup [encI (pwS a (y5 f.length) (k + 1)), I 0]) h11 nx10 = .ok True) → (CS Tryz.prog B).fn 52 (.of 52) [encS a, encI (pwS a (y5 f.length) k)] h11 nx10 Kk = .ok True := fun h11 H11 Kk hKk => by
  refine vO hpn (by rw [hpl]; omega) (fun x hx => by have := hpb x hx; omega) _ _ _ _ ?_
  rintro _ rfl _
  exact hKk
 have behind : ∀ (h11 : T Blk) (H11 : Hp h h11 nx10 M5) (y24 : AV), IR.run F14.t52 (CS Tryz.prog B) 1000 (((fnO F14.res K).blk 2 (IR.run F14.t62 (CS Tryz.prog B) 1000 (fnO F14.res K) (retK F14.res K))).blk 3 (IR.run F14.t55 (CS Tryz.prog B) 1000 ((fnO F14.res K).blk 2 (IR.run F14.t62 (CS Tryz.prog B) 1000 (fnO F14.res K) (retK F14.res K))) R2)) (IR.run F14.t55 (CS Tryz.prog B) 1000 ((fnO F14.res K).blk 2 (IR.run F14.t62 (CS Tryz.prog B) 1000 (fnO F14.res K) (retK F14.res K))) R2) (F14.fr (encS a) (encS b) (encI f) (.ptr b3 0) (.ptr b4 0) z5 (.ptr b6 0) (I 0) (encI (yK b.2 b.1 f)) (I 0) (encI (yK a.2 a.1 (yK b.2 b.1 f))) (I 0) (encI (yK a.2 a.1 (yK b.2 b.1 f))) (I 0) (.ptr b14 0) (I 0) (encI (yK a.2 a.1 f)) (I 0) (encI f) (I 0) (I (M : Nat)) (I 0) (.sl mb 0 f.length (some f.length) 1) z23 y24 (I ((k + 1 : Nat) : Int)) (encI (pwS a (y5 f.length) (k + 1))) (I 0) (.bool false) (.bool false) (I f.length) (I f.length) (.bool false) (.bool true) z34 z35) h11 nx10 = .ok True := by
  intro h11 H11 y24
  have sm : ∀ (Kk : Kw Prop), Kk (.bool (decide (pwS a (y5 f.length) (k + 1) = y5 f.length))) h11 nx10 = .ok True → (CS Tryz.prog B).fn 82 (.of 82) [encI (pwS a (y5 f.length) (k + 1)), .sl mb 0 f.length (some f.length) 1] h11 nx10 Kk = .ok True := fun Kk hKk => by
   have := same82o (B := B) (p := .of 82) H11 (k := 0) (l := y5 f.length) (a := pwS a (y5 f.length) (k + 1)) (K := Kk) rfl (by rw [hpl]; omega) hKk
   rw [hml] at this
   exact this
  have next : ∀ (y35 : AV), IR.run F14.t55 (CS Tryz.prog B) 1000 ((fnO F14.res K).blk 2 (IR.run F14.t62 (CS Tryz.prog B) 1000 (fnO F14.res K) (retK F14.res K))) R2 (F14.fr (encS a) (encS b) (encI f) (.ptr b3 0) (.ptr b4 0) z5 (.ptr b6 0) (I 0) (encI (yK b.2 b.1 f)) (I 0) (encI (yK a.2 a.1 (yK b.2 b.1 f))) (I 0) (encI (yK a.2 a.1 (yK b.2 b.1 f))) (I 0) (.ptr b14 0) (I 0) (encI (yK a.2 a.1 f)) (I 0) (encI f) (I 0) (I (M : Nat)) (I 0) (.sl mb 0 f.length (some f.length) 1) z23 (encI (pwS a (y5 f.length) (k + 1))) (I ((k + 1 : Nat) : Int)) (encI (pwS a (y5 f.length) (k + 1))) (I 0) (.bool false) (.bool false) (I f.length) (I f.length) (.bool false) (.bool true) (.bool false) y35) h11 nx10 = .ok True := fun y35 => by
   rw [F14.t55_s, sAdd (by omega)]
   exact hR2 (M - (k + 1)) _ _ _ _ _ _ _ _ _ _ (by omega) ⟨k + 1, rfl, rfl, by omega, .inr ⟨rfl, H11⟩⟩
  rw [F14.t52, zA, F14.t44, zA, F14.t40_s, F14.r23_0, F14.r23_0_g, sNeq, decide_eq_true rfl, Bool.not_true]
  simp only [jC, zJ, hpl, sNeq, decide_true, Bool.not_true]
  rw [F14.r23_1, F14.r23_1_g, yD, F14.t43, zG, F14.v34, zE, zN, F14.t51, zA, F14.t45_s, F14.t50, zA, F14.t46_s]
  refine sm _ ?_
  rw [sEql, sNeqB]
  by_cases h0 : 0 < f.length
  ·have hiff : decide (pwS a (y5 f.length) (k + 1) = y5 f.length) = decide (((k + 1 : Nat) : Int) = (M : Int)) := by
    rw [decide_eq_decide, pwS_mark hda h0 (by omega) (k + 1), hM, dvd_eq (by omega) (by omega)]
    omega
   rw [hiff, bne_self_eq_false]
   simp only [qC, yD]
   rw [F14.t49, zG, F14.v35, zE, zN]
   exact next _
  ·cases (decide (pwS a (y5 f.length) (k + 1) = y5 f.length) != decide (((k + 1 : Nat) : Int) = (M : Int))) with
   | false =>
    simp only [qC, yD]
    rw [F14.t49, zG, F14.v35, zE, zN]
    exact next _
   | true =>
    simp only [qN, zJ, sGtr, yQ, decide_eq_false (show ¬ (0 : Int) < (f.length : Int) by omega)]
    rw [F14.t49, zG, F14.v35, zE, zN]
    exact next _
 rw [decide_eq_true (by omega), F14.t37, zG, F14.v33, zD, zN, F14.t56, zA, F14.t54, zQ, F14.t53, zA, F14.t39_s]
 rcases hcase with ⟨rfl, rfl, H10⟩ | ⟨rfl, H10⟩
 ·rw [H10.loadN (k := 5) (n := 2) rfl rfl]
  obtain ⟨h11, k1, H11, hfz⟩ := H10.letArr (fixI _) (by simpa using hml) hcap
  have ee : AV.lst 1 f.length ((y5 f.length).map I) = encI (pwS a (y5 f.length) 0) := by rw [hmk]; show AV.lst 1 _ _ = AV.lst 1 (y5 f.length).length _; rw [hml]
  rw [ee] at hfz
  refine CS_let (args' := [encS a, encI (pwS a (y5 f.length) 0)]) k1 (.cons (frz_encS a) (.cons hfz .nil)) (step h11 H11 _ ?_)
  rw [yU, yX]
  exact behind h11 H11 _
 ·rw [H10.loadN (k := 4) (n := 2) rfl rfl]
  refine step h10 H10 _ ?_
  rw [yU, yX]
  exact behind h10 H10 _
end Go.Ev
