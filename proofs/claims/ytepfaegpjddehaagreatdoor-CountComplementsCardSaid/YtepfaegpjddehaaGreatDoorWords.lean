import Derived.Test.YtepfaegpjddehaaGreatDoorEvD
import Derived.Deep.Matrix
import Derived.Lib.SmallJoins
import Derived.Test.YtepfaegpjddehaaGreatDoorCode
import GoSem.Core.Next
import Derived.Test.YtepfaegpjddehaaGreatDoorLaws
import Derived.KernelRfl
import Derived.IntWalk
set_option linter.unusedSimpArgs false
set_option linter.unusedVariables false
namespace Go.Ev
open Go Go.RowKit Go.ChangeShapes Go.WideShapes Go.Deep Go.Joins
variable {H : Type} {enc : TypeId × Value → H} {P : Program}
theorem cellOf_of_cell {w : World} {a : Addr} {i : Nat} {v : Value} (h : w.cell? (a.add i) = some v) : a = ⟨a.block, a.off, a.spot⟩ ∧ (i = 0 → a.spot = none) ∧ cellOf w a.block (a.off + i) = some v := by
 unfold Addr.add at h
 by_cases hi : i = 0
 ·subst hi
  rw [if_pos rfl] at h
  unfold World.cell? at h
  split at h
  ·rename_i c ty fr hb
   split at h
   ·cases h
   ·rename_i hs
    refine ⟨rfl, fun _ => by cases e : a.spot <;> simp_all, ?_⟩
    simp [cellOf, hb, h]
  ·cases h
 ·rw [if_neg hi] at h
  unfold World.cell? at h
  split at h
  ·rename_i c ty fr hb
   refine ⟨rfl, fun q => absurd q hi, ?_⟩
   simp at h hb
   simp [cellOf, hb, h]
  ·cases h
theorem VRF_mk {E : Env} {b : Nat} : ∀ {l : List AV} {off : Nat}, (∀ i a, l[i]? = some a → ∃ v, E.fz b (off + i) = some v ∧ VR E a v) → VRF E l b off
 | [], _, _ => by simp only [VRF]
 | a :: l, off, h => by
  simp only [VRF]
  obtain ⟨v, h1, h2⟩ := h 0 a rfl
  refine ⟨v, h1, h2, VRF_mk fun i x hx => ?_⟩
  obtain ⟨v', h3, h4⟩ := h (i + 1) x (by simpa using hx)
  exact ⟨v', by rw [Nat.add_assoc, Nat.add_comm 1 i]; exact h3, h4⟩
theorem scalI2 (l : List Int) : (l.map I).all scal = true := by
 rw [List.all_eq_true]; intro v hv
 obtain ⟨x, _, rfl⟩ := List.mem_map.1 hv; rfl
theorem scalT2 (l : List (List Int)) : (l.map encI).all scal = true := by
 rw [List.all_eq_true]; intro v hv
 obtain ⟨x, _, rfl⟩ := List.mem_map.1 hv; rfl
theorem vr_row {w : World} {p : Option Addr} {L C : Nat} {Z : List Int} (hL : L ≤ C) (hZ : Z.length = C) (h0 : p = none → C = 0) (hc : ∀ a, p = some a → ∀ c, c < C → w.cell? (a.add c) = some (.int .i64 (Z.getD c 0))) :
  VR (allE w) (encI (Z.take L)) (.slice p L C) := by
 have hlen : (Z.take L).length = L := by rw [List.length_take]; omega
 simp only [VR]
 refine ⟨scalI2 _, by simp, p, C, by rw [hlen], ?_⟩
 rw [hlen]
 cases p with
 | none => exact .inl (by have := h0 rfl; omega)
 | some a =>
  by_cases hL0 : L = 0
  ·exact .inl hL0
  ·obtain ⟨_, hs, _⟩ := cellOf_of_cell (hc a rfl 0 (by omega))
   obtain ⟨b, off, sp⟩ := a
   have : sp = none := hs rfl
   subst this
   refine .inr ⟨b, off, rfl, hL, VRF_mk fun i x hx => ?_⟩
   rw [List.getElem?_map] at hx
   have hi : i < L := by
    cases e : (Z.take L)[i]? with
    | none => rw [e] at hx; cases hx
    | some y => have := (List.getElem?_eq_some_iff.1 e).1; omega
   obtain ⟨_, _, h3⟩ := cellOf_of_cell (hc _ rfl i (by omega))
   refine ⟨_, h3, ?_⟩
   rw [List.getElem?_take, if_pos hi] at hx
   cases e : Z[i]? with
   | none => rw [e] at hx; cases hx
   | some y =>
    rw [e] at hx
    have hx := Option.some.inj hx
    subst hx
    rw [List.getD_eq_getElem?_getD, e]
    simp only [VR, Option.getD_some]
theorem open_listT {t e q : TypeId} {w : World} {base : Nat} {held : Bool} {fuel : Nat} {cs : List Value} {x : DataW H × List MemPlace} (ht : P.underlying t = some (.slice e)) (he : P.underlying e = some (.slice q)) (hq : P.underlying q = some (.int .i64))
  (ce : P.cellsOf e = 1) (cq : P.cellsOf q = 1) (h : DataW.trod enc P w base (fun _ => true) held fuel t cs = some x) :
  ∃ (ll : List (List Int)) (v : Value), cs = [v] ∧ VR (allE w) (encT ll) v ∧ ll.length ≤ maxLen ∧ ∀ l ∈ ll, l.length ≤ maxLen ∧ ∀ n ∈ l, (Lit.int .i64 n).wf = true := by
 rcases open_int_rows ht he hq ce cq h with ⟨rfl, _⟩ | ⟨a, len, cap, A, L, C, Z, rfl, hb, hl, hm, _, hr⟩
 ·exact ⟨[], _, rfl, by simp only [VR]; exact ⟨rfl, rfl, none, 0, rfl, .inl rfl⟩, by simp, by simp⟩
 ·refine ⟨(List.range len).map fun r => (Z r).take (L r), _, rfl, ?_, by simp; omega, fun l hm' => ?_⟩
  ·simp only [VR]
   refine ⟨scalT2 _, by simp, some a, cap, by simp, ?_⟩
   by_cases h0 : len = 0
   ·exact .inl (by simp [h0])
   ·obtain ⟨_, hs, _⟩ := cellOf_of_cell (hr 0 (by omega)).1
    obtain ⟨b, off, sp⟩ := a
    have : sp = none := hs rfl
    subst this
    refine .inr ⟨b, off, rfl, by simpa using hl, VRF_mk fun i x hx => ?_⟩
    rw [List.map_map, List.getElem?_map] at hx
    have hi : i < len := by
     cases e : (List.range len)[i]? with
     | none => rw [e] at hx; cases hx
     | some y => have := (List.getElem?_eq_some_iff.1 e).1; simpa using this
    rw [List.getElem?_range hi] at hx
    have hx := Option.some.inj hx
    subst hx
    obtain ⟨g1, g2, g3, g4, _, g6, g7⟩ := hr i (by omega)
    obtain ⟨_, _, h3⟩ := cellOf_of_cell g1
    exact ⟨_, h3, vr_row g2 g4 g6 fun a' q c hc => (g7 a' q).2 c hc⟩
  ·obtain ⟨r, hr', rfl⟩ := List.mem_map.1 hm'
   obtain ⟨_, g2, g3, g4, g5, _⟩ := hr r (by have := List.mem_range.1 hr'; omega)
   exact ⟨by rw [List.length_take]; omega, fun n hn => g5 n (List.mem_of_mem_take hn)⟩
theorem open_system {r : Reach} {b0 base : Nat} {held : Bool} {w : World} {t ti tl tr : TypeId} {f0 f1 : Field} {v : Value} {d : DataW H} {p : List MemPlace} (hs : P.underlying t = some (.struct #[f0, f1])) (hone : oneCellFields P #[f0, f1] = true) (hC : P.cellsOf t = 2)
  (e0 : f0.type = ti) (e1 : f1.type = tl) (u0 : P.underlying ti = some (.int .i64)) (u1 : P.underlying tl = some (.slice tr)) (u2 : P.underlying tr = some (.slice ti)) (c1 : P.cellsOf tr = 1) (c2 : P.cellsOf ti = 1)
  (hv : Value.okWide P w r b0 t v) (h : DataW.Trod enc P w base (fun _ => true) held t v d p) :
  ∃ (cells : Int) (lines : List (List Int)), VR (allE w) (.agg [I cells, encT lines]) v ∧ (Lit.int .i64 cells).wf = true ∧ lines.length ≤ maxLen ∧ ∀ l ∈ lines, l.length ≤ maxLen ∧ ∀ n ∈ l, (Lit.int .i64 n).wf = true := by
 obtain ⟨v0, v1, y0, y1, n, rfl, _, _, h0, h1⟩ := open_agg2 hs hone hC hv h
 rw [e0] at h0
 rw [e1] at h1
 obtain ⟨x, hx, _, hw⟩ := DataW.trod_int u0 h0
 simp only [List.cons.injEq, and_true] at hx
 subst hx
 obtain ⟨ll, v', hv', g1, g2, g3⟩ := open_listT u1 u2 u0 c1 c2 h1
 simp only [List.cons.injEq, and_true] at hv'
 subst hv'
 refine ⟨x, ll, ?_, hw, g2, g3⟩
 simp only [VR]
 exact ⟨rfl, _, rfl, VRL.cons (by simp only [VR]) (VRL.cons g1 VRL.nil)⟩
end Go.Ev
namespace Go.Ev
open Go Go.Proofs
theorem dreg {B : Nat} : DregAll Tryz.prog B Prop := dreg_all mixed
variable {B : Nat}
theorem sameInts35 {a b : List Int} (ha : a.length ≤ 1000000000) : Pure Tryz.prog B 35 [encI a, encI b] (· = .bool (decide (a = b))) := by
 intro p h nx K hK
 refine by_body tbl_ok dreg (a.length + 2) fun hf => ?_
 rw [F35.go]
 simp (disch := omega) only [sAdd, sSub, sMul, sEql, sNeq, sLss, sLeq, sGtr, sGeq, sPick_t, sPick_f, sCond_t, sCond_f, sG_tt, sG_ff, sG_tf, sG_ft, sNot_b, sExt0, sExt1, sExt2, sPart0, sPart1, sPart2, sLen_lst, sLen_sl, sLen_nils, sSame_refl, decide_true, decide_false, Bool.not_true, Bool.not_false, sChk_t]
 by_cases hl : a.length = b.length
 ·simp only [hl, decide_true, Bool.not_true, sCond_f]
  refine F35.L2 (fun m z3 h' nx' => ∃ i : Nat, z3 = I i ∧ m = a.length - i ∧ i ≤ a.length ∧ h' = h ∧ nx' = nx ∧ a.take i = b.take i) (m := a.length) (by omega) ⟨0, rfl, by simp, by omega, rfl, rfl, by simp⟩ ?_
  rintro m z2 z3 z5 z6 _ _ R ⟨i, rfl, rfl, hi, rfl, rfl, htk⟩ hR
  simp (disch := omega) only [sAdd, sSub, sMul, sEql, sNeq, sLss, sLeq, sGtr, sGeq, sPick_t, sPick_f, sCond_t, sCond_f, sG_tt, sG_ff, sG_tf, sG_ft, sNot_b, sExt0, sExt1, sExt2, sPart0, sPart1, sPart2, sLen_lst, sLen_sl, sLen_nils, sSame_refl, decide_true, decide_false, Bool.not_true, Bool.not_false, sChk_t]
  by_cases hlt : i < a.length
  ·have h1 : (i : Int) < a.length := by omega
   have hb : i < b.length := by omega
   simp only [h1, decide_true, sCond_t]
   rw [sIxL rfl hlt, ldL (getI (List.getElem?_eq_getElem hlt)), sIxL rfl hb, ldL (getI (List.getElem?_eq_getElem hb))]
   simp (disch := omega) only [sAdd, sSub, sMul, sEql, sNeq, sLss, sLeq, sGtr, sGeq, sPick_t, sPick_f, sCond_t, sCond_f, sG_tt, sG_ff, sG_tf, sG_ft, sNot_b, sExt0, sExt1, sExt2, sPart0, sPart1, sPart2, sLen_lst, sLen_sl, sLen_nils, sSame_refl, decide_true, decide_false, Bool.not_true, Bool.not_false, sChk_t]
   by_cases he : a[i] = b[i]
   ·simp only [he, decide_true, Bool.not_true, sCond_f]
    refine hR (a.length - (i + 1)) _ _ _ _ _ _ (by omega) ⟨i + 1, rfl, rfl, by omega, rfl, rfl, ?_⟩
    rw [List.take_add_one, List.take_add_one, htk, List.getElem?_eq_getElem hlt, List.getElem?_eq_getElem hb, he]
   ·simp only [he, decide_false, Bool.not_false, sCond_t]
    refine hK _ ?_ hf
    rw [decide_eq_false]
    rintro rfl
    exact he rfl
  ·have h1 : ¬ (i : Int) < a.length := by omega
   simp only [h1, decide_false, sCond_f]
   rw [F35.k9]
   refine hK _ ?_ hf
   rw [List.take_of_length_le (by omega), List.take_of_length_le (by omega)] at htk
   rw [decide_eq_true htk]
 ·have h1 : ¬ (a.length : Int) = b.length := by omega
  simp only [h1, decide_false, Bool.not_false, sCond_t]
  refine hK _ ?_ hf
  rw [decide_eq_false]
  rintro rfl; exact hl rfl
end Go.Ev
namespace Go.Ev
def addAt (y : List Nat) (i k : Nat) : List Nat := y.set i ((y.getD i 0 + k) % 256)
def addL (y : List Nat) (idx : List Nat) (k : Nat) : List Nat := idx.foldl (fun y i => addAt y i k) y
@[simp] theorem addAt_length (y : List Nat) (i k : Nat) : (addAt y i k).length = y.length := by simp [addAt]
@[simp] theorem addL_length (idx : List Nat) (k : Nat) : ∀ y : List Nat, (addL y idx k).length = y.length := by
 induction idx with
 | nil => intro y; rfl
 | cons i l ih => intro y; show (addL (addAt y i k) l k).length = _; rw [ih]; simp
theorem addL_snoc (y : List Nat) (l : List Nat) (i k : Nat) : addL y (l ++ [i]) k = addAt (addL y l k) i k := by simp [addL]
def onP (lines : List (List Int)) (i c : Nat) : List Nat := (List.range i).flatMap fun j => ((lines.getD j []).filter (· = (c : Int))).map fun _ => j
abbrev onC (lines : List (List Int)) (c : Nat) : List Nat := onP lines lines.length c
theorem onP_succ (lines : List (List Int)) (i c : Nat) : onP lines (i + 1) c = onP lines i c ++ ((lines.getD i []).filter (· = (c : Int))).map fun _ => i := by
 simp [onP, List.range_succ, List.flatMap_append]
theorem onP_lt {lines : List (List Int)} {i c x : Nat} (h : x ∈ onP lines i c) : x < i := by
 simp only [onP, List.mem_flatMap, List.mem_range, List.mem_map] at h
 obtain ⟨j, h1, y, _, rfl⟩ := h
 exact h1
def tallyT (lines : List (List Int)) (most fr : Nat) : Nat → List (List Nat)
 | 0 => [List.replicate lines.length 0]
 | n + 1 => (tallyT lines most fr n).flatMap fun x => (List.range (most + 1)).map fun k => addL x (onC lines (fr + n)) k
theorem tallyT_length (lines : List (List Int)) (most fr : Nat) : ∀ n, (tallyT lines most fr n).length = (most + 1) ^ n
 | 0 => rfl
 | n + 1 => by
  simp only [tallyT, List.length_flatMap, List.length_map, List.length_range, List.map_const', List.sum_replicate_nat]
  rw [tallyT_length lines most fr n, Nat.pow_succ]
def blk (x : List Nat) (idx : List Nat) (n : Nat) : Nat → List (List Nat)
 | 0 => []
 | j + 1 => List.replicate n (addL x idx j) ++ blk x idx n j
theorem blk_length (x idx : List Nat) (n : Nat) : ∀ j, (blk x idx n j).length = j * n
 | 0 => by simp [blk]
 | j + 1 => by simp [blk, blk_length x idx n j, Nat.add_mul]; omega
theorem perm_self (ks G : List (List Nat)) (nd : ks.Nodup) (hm : ∀ y, y ∈ ks ↔ y ∈ G) : (ks.flatMap fun x => List.replicate (G.count x) x).Perm G := by
 rw [List.perm_iff_count]
 intro y
 have key : ∀ (l : List (List Nat)), l.Nodup → (l.flatMap fun x => List.replicate (G.count x) x).count y = if y ∈ l then G.count y else 0 := by
  intro l
  induction l with
  | nil => intro _; rfl
  | cons a l ih =>
   intro nd
   rw [List.flatMap_cons, List.count_append, ih (List.nodup_cons.1 nd).2, List.count_replicate]
   by_cases e : y = a
   ·subst e
    have : y ∉ l := (List.nodup_cons.1 nd).1
    simp [this]
   ·have : ¬ (a == y) = true := by simpa using fun q => e q.symm
    simp [this, e]
 rw [key ks nd]
 by_cases e : y ∈ ks
 ·rw [if_pos e]
 ·rw [if_neg e, List.count_eq_zero.2 fun q => e ((hm y).2 q)]
theorem blk_perm (x idx : List Nat) (n : Nat) : ∀ j, (blk x idx n j).Perm ((List.replicate n x).flatMap fun x => (List.range j).map fun k => addL x idx k)
 | 0 => by
  have : ((List.replicate n x).flatMap fun x => (List.range 0).map fun k => addL x idx k) = [] := by simp
  rw [this]; exact .refl _
 | j + 1 => by
  refine (List.Perm.append_left _ (blk_perm x idx n j)).trans ?_
  clear blk_perm
  induction n with
  | zero => simp
  | succ n ih =>
   rw [List.replicate_succ, List.replicate_succ, List.flatMap_cons, List.flatMap_cons, List.range_succ, List.map_append, List.map_singleton]
   rw [List.range_succ] at ih
   generalize addL x idx j = a at *
   generalize (List.range j).map (fun k => addL x idx k) = r at *
   have : (a :: List.replicate n a ++ (r ++ (List.replicate n x).flatMap fun x => (List.range j).map fun k => addL x idx k)).Perm (r ++ [a] ++ (List.replicate n a ++ (List.replicate n x).flatMap fun x => (List.range j).map fun k => addL x idx k)) := by
    rw [List.perm_iff_count]; intro y; simp only [List.count_append, List.count_cons, List.cons_append, List.nil_append, List.count_nil]; omega
   refine this.trans ?_
   exact List.Perm.append_left _ ih
theorem next_perm (ks G : List (List Nat)) (idx : List Nat) (j : Nat) (nd : ks.Nodup) (hm : ∀ y, y ∈ ks ↔ y ∈ G) : (ks.flatMap fun x => blk x idx (G.count x) j).Perm (G.flatMap fun x => (List.range j).map fun k => addL x idx k) := by
 refine List.Perm.trans ?_ ((perm_self ks G nd hm).flatMap_right _)
 rw [List.flatMap_assoc]
 clear hm nd
 induction ks with
 | nil => exact .refl _
 | cons a l ih =>
  rw [List.flatMap_cons, List.flatMap_cons]
  exact (blk_perm a idx _ j).append ih
theorem seen_perm {n : Nat} {seen : List Nat} (nd : seen.Nodup) (h1 : ∀ i ∈ seen, i < n) (h2 : ∀ i, i < n → i ∈ seen) : seen.Perm (List.range n) := by
 rw [List.perm_iff_count]
 intro a
 rw [nd.count, List.nodup_range.count]
 by_cases e : a < n
 ·rw [if_pos (h2 a e), if_pos (by simpa using e)]
 ·rw [if_neg fun q => e (h1 a q), if_neg (by simpa using e)]
end Go.Ev
namespace Go.Ev
open Go Go.Proofs
variable {B : Nat}
abbrev nI (x : Nat) : AV := I (x : Int)
noncomputable abbrev Lt (on bx : Pa) (cells : Nat) (lines : List (List Int)) (o : Nat → Option Pa) (D : Nat → List Nat) (L : List Ob) : List Ob :=
 .arr on (rowL cells fun c => rowV (o c) 1 (D c).length) :: .arr bx [I cells, encT lines] :: (rowL cells (fun c => Ob.gro (o c) 1 (D c).length ((D c).map nI)) ++ L)
theorem Lt_get {on bx : Pa} {cells c : Nat} {lines : List (List Int)} {o : Nat → Option Pa} {D : Nat → List Nat} {L : List Ob} (hc : c < cells) : (Lt on bx cells lines o D L)[c + 2]? = some (.gro (o c) 1 (D c).length ((D c).map nI)) := by
 show (rowL cells _ ++ L)[c]? = _
 rw [List.getElem?_append_left (by simpa using hc), rowL_get hc]
theorem F89.on {N : Nat} {K0 : Kw Prop} {K : Ks Prop} {h0 h : T Blk} {nx : Pa} {L : List Ob} {x0 x1 x2 x3 x5 x7 x8 x9 x10 x11 x12 x13 x14 x15 x16 x17 x21 x22 x23 x24 x25 x26 x27 x28 x29 x30 x31 x32 x33 : AV} {on bx : Pa} {cells : Nat} {lines : List (List Int)} (hN : 100000000 < N) (hm : lines.length ≤ 128) (hw : ∀ l ∈ lines, l.length ≤ 1000) (hl : ∀ l ∈ lines, ∀ c ∈ l, 0 ≤ c ∧ c < (cells : Int))
  (H : Hp h0 h nx (.arr on (List.replicate cells .nils) :: .arr bx [I cells, encT lines] :: L))
  (hK : ∀ x7 x8 x9 x20 x21 x22 x23 x24 x25 h' nx' o, Hp h0 h' nx' (Lt on bx cells lines o (onC lines) L) → K (F89.fr x0 x1 x2 x3 (.ptr bx 0) x5 (.sl on 0 cells (some cells) 1) x7 x8 x9 x10 x11 x12 x13 x14 x15 x16 x17 (encT lines) (I lines.length) x20 x21 x22 x23 x24 x25 x26 x27 x28 x29 x30 x31 x32 x33) h' nx' = .ok True) :
  IR.run F89.b1 (CS Tryz.prog B) N (fnO F89.res K0) K (F89.fr x0 x1 x2 x3 (.ptr bx 0) x5 (.sl on 0 cells (some cells) 1) x7 x8 x9 x10 x11 x12 x13 x14 x15 x16 x17 (encT lines) (I lines.length) (I 0) x21 x22 x23 x24 x25 x26 x27 x28 x29 x30 x31 x32 x33) h nx = .ok True := by
 refine F89.L1 (fun m x20 h' nx' => ∃ (i : Nat) (o : Nat → Option Pa), x20 = I i ∧ lines.length - i = m ∧ i ≤ lines.length ∧ Hp h0 h' nx' (Lt on bx cells lines o (onP lines i) L)) (m := lines.length) (by omega) ⟨0, fun _ => none, rfl, rfl, by omega, ?_⟩ ?_
 ·have H2 := (H.addE (E := rowL cells fun _ => Ob.gro none 1 0 []) fun x hx => by
   obtain ⟨j, _, rfl⟩ := rowL_mem hx
   exact ⟨rfl, fun _ => ⟨rfl, rfl⟩⟩).perm (List.perm_append_comm (l₂ := .arr on (List.replicate cells .nils) :: .arr bx [I cells, encT lines] :: L))
  refine (H2.perm (L' := .arr on (List.replicate cells .nils) :: .arr bx [I cells, encT lines] :: (rowL cells (fun _ => Ob.gro none 1 0 []) ++ L)) ?_).cast ?_
  ·exact (List.perm_append_comm.cons _).cons _
  ·rw [rowL_const]; rfl
 rintro m z7 z8 z9 z20 z21 z22 z23 z24 z25 h1 nx1 R ⟨i, o, rfl, rfl, hi, H1⟩ hR
 simp (disch := omega) only [sAdd, sSub, sMul, sEql, sNeq, sLss, sLeq, sGtr, sGeq, sPick_t, sPick_f, sCond_t, sCond_f, sG_tt, sG_ff, sG_tf, sG_ft, sNot_b, sExt0, sExt1, sExt2, sPart0, sPart1, sPart2, sLen_lst, sLen_sl, sLen_nils, sSame_refl, decide_true, decide_false, Bool.not_true, Bool.not_false, sChk_t]
 by_cases hlt : i < lines.length
 case neg =>
  simp only [show ¬ (i : Int) < (lines.length : Int) by omega, decide_false, sCond_f]
  obtain rfl : i = lines.length := by omega
  exact hK _ _ _ _ _ _ _ _ _ _ _ _ H1
 simp only [show (i : Int) < (lines.length : Int) by omega, decide_true, sCond_t]
 obtain ⟨line, hline⟩ : ∃ l, lines[i]? = some l := ⟨_, List.getElem?_eq_getElem hlt⟩
 have hmem := List.mem_of_getElem? hline
 have hgd : lines.getD i [] = line := by rw [List.getD_eq_getElem?_getD, hline]; rfl
 rw [sIxL rfl hlt, ldL (getT hline)]
 simp (disch := omega) only [sAdd, sSub, sMul, sEql, sNeq, sLss, sLeq, sGtr, sGeq, sPick_t, sPick_f, sCond_t, sCond_f, sG_tt, sG_ff, sG_tf, sG_ft, sNot_b, sExt0, sExt1, sExt2, sPart0, sPart1, sPart2, sLen_lst, sLen_sl, sLen_nils, sSame_refl, decide_true, decide_false, Bool.not_true, Bool.not_false, sChk_t]
 have hlw := hw _ hmem
 refine F89.L7 (fun m x24 h' nx' => ∃ (j : Nat) (o : Nat → Option Pa), x24 = I j ∧ line.length - j = m ∧ j ≤ line.length ∧ Hp h0 h' nx' (Lt on bx cells lines o (fun c => onP lines i c ++ ((line.take j).filter (· = (c : Int))).map fun _ => i) L)) (m := line.length) (by omega) ⟨0, o, rfl, rfl, by omega, H1.cast (by simp [Lt])⟩ ?_
 rintro m z9 z24 z25 h2 nx2 R2 ⟨j, o2, rfl, rfl, hj, H2⟩ hR2
 simp (disch := omega) only [sAdd, sSub, sMul, sEql, sNeq, sLss, sLeq, sGtr, sGeq, sPick_t, sPick_f, sCond_t, sCond_f, sG_tt, sG_ff, sG_tf, sG_ft, sNot_b, sExt0, sExt1, sExt2, sPart0, sPart1, sPart2, sLen_lst, sLen_sl, sLen_nils, sSame_refl, decide_true, decide_false, Bool.not_true, Bool.not_false, sChk_t]
 by_cases hjt : j < line.length
 case neg =>
  simp only [show ¬ (j : Int) < (line.length : Int) by omega, decide_false, sCond_f]
  rw [F89.k14]
  simp (disch := omega) only [sAdd, sSub, sMul, sEql, sNeq, sLss, sLeq, sGtr, sGeq, sPick_t, sPick_f, sCond_t, sCond_f, sG_tt, sG_ff, sG_tf, sG_ft, sNot_b, sExt0, sExt1, sExt2, sPart0, sPart1, sPart2, sLen_lst, sLen_sl, sLen_nils, sSame_refl, decide_true, decide_false, Bool.not_true, Bool.not_false, sChk_t]
  refine hR (lines.length - (i + 1)) _ _ _ _ _ _ _ _ _ _ _ (by omega) ⟨i + 1, o2, rfl, rfl, by omega, H2.cast ?_⟩
  have : ∀ c, onP lines (i + 1) c = onP lines i c ++ ((line.take j).filter (· = (c : Int))).map fun _ => i := fun c => by
   rw [onP_succ, hgd, List.take_of_length_le (by omega)]
  simp only [Lt, this]
 simp only [show (j : Int) < (line.length : Int) by omega, decide_true, sCond_t]
 obtain ⟨cz, hcz⟩ : ∃ c, line[j]? = some c := ⟨_, List.getElem?_eq_getElem hjt⟩
 have hcr := hl _ hmem cz (List.mem_of_getElem? hcz)
 obtain ⟨c, rfl⟩ : ∃ c : Nat, cz = c := ⟨cz.toNat, by omega⟩
 have hc : c < cells := by omega
 rw [sIxL rfl hjt, ldL (getI hcz), sIx (i := c) rfl hc, H2.load (k := 0) rfl (rowL_get hc)]
 refine H2.bslice (l := [I i]) rfl fun t h3 nx3 H3 => ?_
 refine H3.appN (k := c + 3) (o := o2 c) (c := 1) (new := [I i]) (by exact Lt_get (on := on) (bx := bx) (lines := lines) hc) (HasArr.rd (l := [I i]) (n := 1) (H3.own _ (List.mem_cons_self ..)) rfl) rfl rfl (by decide) (by decide) ?_ fun o' h4 nx4 _ H4 => ?_
 ·have h1 : (onP lines i c).length ≤ 128000 := by
   have : ∀ i, i ≤ lines.length → (onP lines i c).length ≤ i * 1000 := by
    intro i
    induction i with
    | zero => intro _; simp [onP]
    | succ i ih =>
     intro hi
     rw [onP_succ, List.length_append, List.length_map]
     have h2 := ih (by omega)
     have h3 : ((lines.getD i []).filter (· = (c : Int))).length ≤ 1000 := by
      refine Nat.le_trans (List.length_filter_le _ _) ?_
      rw [List.getD_eq_getElem?_getD, List.getElem?_eq_getElem (by omega)]
      exact hw _ (List.getElem_mem _)
     omega
   have h9 := this i hi
   clear this
   omega
  have h2 : (((line.take j).filter (· = (c : Int))).map fun _ => i).length ≤ 1000 := by
   rw [List.length_map]
   refine Nat.le_trans (List.length_filter_le _ _) ?_
   rw [List.length_take]; omega
  rw [List.length_append]; omega
 rw [sIx (i := c) rfl hc]
 refine H4.store (k := 1) rfl (by simpa using hc) (rowV_cells _ _ _) fun h5 H5 => ?_
 refine hR2 (line.length - (j + 1)) _ _ _ _ _ (by omega) ⟨j + 1, fun p => if p = c then o' else o2 p, rfl, rfl, by omega, H5.drop.cast ?_⟩
 have hD : ∀ p : Nat, (onP lines i p ++ ((line.take (j + 1)).filter (· = (p : Int))).map fun _ => i) = if p = c then (onP lines i c ++ ((line.take j).filter (· = (c : Int))).map fun _ => i) ++ [i] else onP lines i p ++ ((line.take j).filter (· = (p : Int))).map fun _ => i := fun p => by
  rw [List.take_add_one, hcz]
  by_cases e : p = c
  ·subst e; simp
  ·have : ¬ (c : Int) = (p : Int) := by omega
   simp [e, this]
 simp only [hD]
 simp only [Lt, List.set_cons_succ, List.set_cons_zero, List.tail_cons]
 have e1 : ∀ x : Ob, (rowL cells (fun p => Ob.gro (o2 p) 1 (onP lines i p ++ ((line.take j).filter (· = (p : Int))).map fun _ => i).length ((onP lines i p ++ ((line.take j).filter (· = (p : Int))).map fun _ => i).map nI)) ++ L).set c x = rowL cells (fun p => if p = c then x else Ob.gro (o2 p) 1 (onP lines i p ++ ((line.take j).filter (· = (p : Int))).map fun _ => i).length ((onP lines i p ++ ((line.take j).filter (· = (p : Int))).map fun _ => i).map nI)) ++ L := fun x => by
  rw [List.set_append_left _ _ (by simpa using hc), rowL_set]
 rw [e1, rowL_set]
 congr 1
 ·congr 1
  refine rowL_congr fun p _ => ?_
  by_cases e : p = c
  ·subst e; simp [Nat.add_assoc]
  ·simp [e]
 ·congr 2
  refine rowL_congr fun p _ => ?_
  by_cases e : p = c
  ·subst e; simp [Nat.add_assoc]
  ·simp [e]
theorem sConv_u8 {k : IntKind} {x : Nat} {K : AV → OP} : sConv .u8 (.int k (x : Int)) K = K (u8 (x % 256)) := by
 show intK (wrapF .u8 (x : Int)) (fun z => K (.int .u8 z)) = _
 rw [intK_eq, wrapF_eq, IntKind.wrap_u8]
 have : u8 (x % 256) = .int .u8 ((x : Int) % 256) := by unfold u8; congr 1
 rw [this]
theorem sAdd_u8 {x y : Nat} {K : AV → OP} : sBin .add .int (u8 x) (u8 y) K = K (u8 ((x + y) % 256)) := by
 rw [sAddW, IntKind.wrap_u8]
 have : u8 ((x + y) % 256) = .int .u8 (((x : Int) + (y : Int)) % 256) := by unfold u8; congr 1
 rw [this]
theorem F89.add {N : Nat} {K0 : Kw Prop} {E4 E5 E6 E7 E8 E9 K : Ks Prop} {h0 h : T Blk} {nx : Pa} {L : List Ob} {x0 x1 x2 x3 x4 x5 x6 x7 x8 x9 x10 x11 x12 x13 x14 x17 x18 x19 x20 x21 x22 x23 x24 x25 x26 x27 x28 x29 x33 : AV} {yb : Pa} {y : Key} {idx : List Nat} {o : Option Pa} {k c : Nat} (hN : 100000000 < N) (hy : y.length ≤ 128) (hi : ∀ x ∈ idx, x < y.length) (hn : idx.length ≤ 1000000)
  (H : Hp h0 h nx (.arr yb (cellsK y) :: L)) (hc : L[c]? = some (.gro o 1 idx.length (idx.map nI)))
  (hK : ∀ x17 x32 x33 h' nx', Hp h0 h' nx' (.arr yb (cellsK (addL y idx k)) :: L) → K (F89.fr x0 x1 x2 x3 x4 x5 x6 x7 x8 x9 x10 x11 x12 x13 x14 (I k) (.ptr yb 0) x17 x18 x19 x20 x21 x22 x23 x24 x25 x26 x27 x28 x29 (rowV o 1 idx.length) (I idx.length) x32 x33) h' nx' = .ok True) :
  IR.run F89.b33 (CS Tryz.prog B) N (((((((fnO F89.res K0).blk 4 E4).blk 5 E5).blk 6 E6).blk 7 E7).blk 8 E8).blk 9 E9) K (F89.fr x0 x1 x2 x3 x4 x5 x6 x7 x8 x9 x10 x11 x12 x13 x14 (I k) (.ptr yb 0) x17 x18 x19 x20 x21 x22 x23 x24 x25 x26 x27 x28 x29 (rowV o 1 idx.length) (I idx.length) (I 0) x33) h nx = .ok True := by
 refine F89.L33 (fun m x32 h' nx' => ∃ j : Nat, x32 = I j ∧ idx.length - j = m ∧ j ≤ idx.length ∧ Hp h0 h' nx' (.arr yb (cellsK (addL y (idx.take j) k)) :: L)) (m := idx.length) (by omega) ⟨0, rfl, rfl, by omega, H⟩ ?_
 rintro m z17 z32 z33 h1 nx1 R ⟨j, rfl, rfl, hj, H1⟩ hR
 simp (disch := omega) only [sAdd, sSub, sMul, sEql, sNeq, sLss, sLeq, sGtr, sGeq, sPick_t, sPick_f, sCond_t, sCond_f, sG_tt, sG_ff, sG_tf, sG_ft, sNot_b, sExt0, sExt1, sExt2, sPart0, sPart1, sPart2, sLen_lst, sLen_sl, sLen_nils, sSame_refl, decide_true, decide_false, Bool.not_true, Bool.not_false, sChk_t]
 by_cases hlt : j < idx.length
 case neg =>
  simp only [show ¬ (j : Int) < (idx.length : Int) by omega, decide_false, sCond_f]
  rw [List.take_of_length_le (by omega)] at H1
  exact hK _ _ _ _ _ H1
 simp only [show (j : Int) < (idx.length : Int) by omega, decide_true, sCond_t]
 obtain ⟨x, hx⟩ : ∃ x, idx[j]? = some x := ⟨_, List.getElem?_eq_getElem hlt⟩
 have hxl := hi x (List.mem_of_getElem? hx)
 obtain ⟨id, q1, q2⟩ := H1.groIx (k := c + 1) (by exact hc) (v := I x) (by rw [List.getElem?_map, hx]; rfl)
 have hyl : x < (addL y (idx.take j) k).length := by simpa using hxl
 rw [q1, q2, sAx (i := x) rfl (by omega), H1.load (k := 0) rfl (cellsK_get (List.getElem?_eq_getElem hyl)), sConv_u8, sAdd_u8, sAx (i := x) rfl (by omega)]
 refine H1.store (k := 0) rfl (by rw [cellsK_length (by simpa using hy)]; omega) rfl fun h2 H2 => ?_
 refine hR (idx.length - (j + 1)) _ _ _ _ _ (by omega) ⟨j + 1, rfl, rfl, by omega, H2.cast ?_⟩
 rw [List.set_cons_zero, cellsK_set hyl, List.take_add_one, hx]
 show _ = .arr yb (cellsK (addL y (idx.take j ++ [x]) k)) :: L
 rw [addL_snoc, addAt]
 congr 3
 congr 1
 rw [List.getD_eq_getElem?_getD, List.getElem?_eq_getElem hyl]
 simp
theorem Hp.dropL {h0 h : T Blk} {nx : Pa} : ∀ {A L : List Ob}, Hp h0 h nx (A ++ L) → Hp h0 h nx L
 | [], _, H => H
 | _ :: _, _, H => Hp.dropL H.drop
theorem Hp.dropMid {h0 h : T Blk} {nx : Pa} {A L : List Ob} {x : Ob} (H : Hp h0 h nx (x :: (A ++ L))) : Hp h0 h nx (x :: L) :=
 Hp.dropL (H.perm List.perm_middle.symm)
theorem F89.ks {N : Nat} {K0 : Kw Prop} {E4 E5 E6 E7 K : Ks Prop} {h0 h : T Blk} {nx : Pa} {Lr : List Ob} {x0 x1 x2 x4 x5 x7 x8 x9 x10 x16 x17 x18 x19 x20 x21 x22 x23 x24 x25 x26 x27 x28 x29 x30 x31 x32 x33 : AV} {xb nid on : Pa} {hdr : List AV} {x : Key} {idx : List Nat} {o : Option Pa} {ks G : List Key} {m most n p q r c cells : Nat} (hN : 100000000 < N) (hm : m ≤ 128) (hx : x.length = m) (hi : ∀ z ∈ idx, z < m) (hidx : idx.length ≤ 1000000) (hmost : most ≤ 1000) (hn : 1 ≤ n) (hG : G.length + (most + 2) * n ≤ 4000000000000000000)
  (H : Hp h0 h nx (.arr xb (cellsK x) :: Lr)) (hp : Lr[p]? = some (.map nid (ks.map (entK (cntV G))))) (O : KsOk m ks G) (hq : Lr[q]? = some (.arr on hdr)) (hqp : p ≠ q) (hh : hdr[c]? = some (rowV o 1 idx.length)) (hr : Lr[r]? = some (.gro o 1 idx.length (idx.map nI))) (hrp : p ≠ r) (hc : c < cells)
  (hK : ∀ x15 x16 x17 x29 x30 x31 x32 x33 h' nx' ks', KsOk m ks' (blk x idx n (most + 1) ++ G) → Hp h0 h' nx' (.arr xb (cellsK x) :: Lr.set p (.map nid (ks'.map (entK (cntV (blk x idx n (most + 1) ++ G)))))) → K (F89.fr x0 x1 x2 (I most) x4 x5 (.sl on 0 cells (some cells) 1) x7 x8 x9 x10 (I c) (.map nid) (.ptr xb 0) (I n) x15 x16 x17 x18 x19 x20 x21 x22 x23 x24 x25 x26 x27 x28 x29 x30 x31 x32 x33) h' nx' = .ok True) :
  IR.run F89.b27 (CS Tryz.prog B) N (((((fnO F89.res K0).blk 4 E4).blk 5 E5).blk 6 E6).blk 7 E7) K (F89.fr x0 x1 x2 (I most) x4 x5 (.sl on 0 cells (some cells) 1) x7 x8 x9 x10 (I c) (.map nid) (.ptr xb 0) (I n) (I 0) x16 x17 x18 x19 x20 x21 x22 x23 x24 x25 x26 x27 x28 x29 x30 x31 x32 x33) h nx = .ok True := by
 refine F89.L27 (fun m' x15 h' nx' => ∃ (k : Nat) (ks' : List Key), x15 = I k ∧ most + 1 - k = m' ∧ k ≤ most + 1 ∧ KsOk m ks' (blk x idx n k ++ G) ∧ Hp h0 h' nx' (.arr xb (cellsK x) :: Lr.set p (.map nid (ks'.map (entK (cntV (blk x idx n k ++ G))))))) (m := most + 1) (by omega) ⟨0, ks, rfl, rfl, by omega, O, H.cast ?_⟩ ?_
 ·have e : Lr.set p (.map nid (ks.map (entK (cntV G)))) = Lr := by rw [(getSplit hp).2]; exact (getSplit hp).1.symm
  exact congrArg _ e.symm
 rintro m' z15 z16 z17 z29 z30 z31 z32 z33 h1 nx1 R ⟨k, ks1, rfl, rfl, hk, O1, H1⟩ hR
 simp (disch := omega) only [sAdd, sSub, sMul, sEql, sNeq, sLss, sLeq, sGtr, sGeq, sPick_t, sPick_f, sCond_t, sCond_f, sG_tt, sG_ff, sG_tf, sG_ft, sNot_b, sExt0, sExt1, sExt2, sPart0, sPart1, sPart2, sLen_lst, sLen_sl, sLen_nils, sSame_refl, decide_true, decide_false, Bool.not_true, Bool.not_false, sChk_t]
 by_cases hlt : k ≤ most
 case neg =>
  simp only [show ¬ (k : Int) ≤ (most : Int) by omega, decide_false, sCond_f]
  obtain rfl : k = most + 1 := by omega
  exact hK _ _ _ _ _ _ _ _ _ _ _ O1 H1
 simp only [show (k : Int) ≤ (most : Int) by omega, decide_true, sCond_t]
 have hpl := (List.getElem?_eq_some_iff.1 hp).1
 rw [H1.loadN (k := 0) rfl (cellsK_length (by omega))]
 refine H1.alloc fun yb h2 nx2 H2 => ?_
 refine H2.storeN (k := 0) rfl rfl (cellsK_length (by omega)) fun h3 H3 => ?_
 have H3 : Hp h0 h3 nx2 (.arr yb (cellsK x) :: .arr xb (cellsK x) :: Lr.set p (.map nid (ks1.map (entK (cntV (blk x idx n k ++ G)))))) := H3
 have hq3 : (Lr.set p (.map nid (ks1.map (entK (cntV (blk x idx n k ++ G))))))[q]? = some (.arr on hdr) := by rw [List.getElem?_set_ne hqp]; exact hq
 have hr3 : (Lr.set p (.map nid (ks1.map (entK (cntV (blk x idx n k ++ G))))))[r]? = some (.gro o 1 idx.length (idx.map nI)) := by rw [List.getElem?_set_ne hrp]; exact hr
 rw [sIx (i := c) rfl hc, H3.load (k := q + 2) hq3 hh, H3.groLen (k := r + 2) hr3]
 refine F89.add (k := k) hN (by omega) (fun z hz => by rw [hx]; exact hi z hz) hidx H3 (c := r + 1) hr3 fun y17 y32 y33 h4 nx4 H4 => ?_
 rw [F89.k40]
 rw [H4.loadN (k := 0) rfl (cellsK_length (by rw [addL_length]; omega))]
 have hlen : (blk x idx n k ++ G).length + n ≤ 4000000000000000000 := by
  rw [List.length_append, blk_length]
  have : k * n + n ≤ (most + 2) * n := by
   have := Nat.mul_le_mul_right n (show k + 1 ≤ most + 2 by omega)
   rw [Nat.add_mul] at this; omega
  omega
 refine H4.mapAdd (k := p + 2) (nn := n) (y := addL x idx k) hm (by exact List.getElem?_set_self hpl) O1 (by rw [addL_length]; exact hx) hn (by omega) (K := fun h9 n10 => IR.run F89.b41 (CS Tryz.prog B) N ((((((fnO F89.res K0).blk 4 E4).blk 5 E5).blk 6 E6).blk 7 E7).blk 8 K) R _ h9 n10) fun h5 ks2 O2 H5 => ?_
 rw [F89.k41, sAdd (by omega)]
 refine hR (most + 1 - (k + 1)) _ _ _ _ _ _ _ _ _ _ (by omega) ⟨k + 1, ks2, rfl, rfl, by omega, O2.perm (by simp [blk]), H5.drop.cast ?_⟩
 simp only [List.set_cons_succ, List.tail_cons, List.set_set]
 rw [blk, List.append_assoc]
abbrev blkAt (ks G : List Key) (idx : List Nat) (most : Nat) (i : Nat) : List Key := blk (ks.getD i []) idx (G.count (ks.getD i [])) (most + 1)
theorem flatMap_len {α : Type} {f : α → List Key} {M : Nat} : ∀ (l : List α), (∀ i ∈ l, (f i).length ≤ M) → (l.flatMap f).length ≤ l.length * M
 | [], _ => by simp
 | a :: l, h => by
  have h1 := h a (by simp)
  have h2 := flatMap_len l fun i hi => h i (by simp [hi])
  rw [List.flatMap_cons, List.length_append, List.length_cons, Nat.add_mul]; omega
theorem F89.ents {N : Nat} {K0 : Kw Prop} {E4 E5 K : Ks Prop} {h0 h : T Blk} {nx : Pa} {L : List Ob} {x0 x1 x2 x4 x5 x7 x8 x9 x10 x13 x14 x15 x16 x17 x18 x19 x20 x21 x22 x23 x24 x25 x26 x28 x29 x30 x31 x32 x33 : AV} {it mid nid on bx : Pa} {o : Nat → Option Pa} {lines : List (List Int)} {ksM GM : List Key} {most c cells : Nat} (hN : 100000000 < N) (hm : lines.length ≤ 128) (hD : ∀ c, (onC lines c).length ≤ 1000000) (hmost : most ≤ 1000) (hGM : GM.length ≤ 1000000) (O : KsOk lines.length ksM GM) (hkl : ksM.length ≤ 1000000) (hc : c < cells)
  (H : Hp h0 h nx (.iter it mid (ksM.map (entK (cntV GM))).length [] (ksM.map (entK (cntV GM))).length :: .map nid [] :: .map mid (ksM.map (entK (cntV GM))) :: Lt on bx cells lines o (onC lines) L))
  (hK : ∀ x13 x14 x15 x16 x17 x28 x29 x30 x31 x32 x33 h' nx' ks' G', KsOk lines.length ks' G' → G'.Perm (GM.flatMap fun x => (List.range (most + 1)).map fun k => addL x (onC lines c) k) → Hp h0 h' nx' (.map nid (ks'.map (entK (cntV G'))) :: .map mid (ksM.map (entK (cntV GM))) :: Lt on bx cells lines o (onC lines) L) → K (F89.fr x0 x1 x2 (I most) x4 x5 (.sl on 0 cells (some cells) 1) x7 x8 x9 x10 (I c) (.map nid) x13 x14 x15 x16 x17 x18 x19 x20 x21 x22 x23 x24 x25 x26 (.ptr it 0) x28 x29 x30 x31 x32 x33) h' nx' = .ok True) :
  IR.run F89.b22 (CS Tryz.prog B) N (((fnO F89.res K0).blk 4 E4).blk 5 E5) K (F89.fr x0 x1 x2 (I most) x4 x5 (.sl on 0 cells (some cells) 1) x7 x8 x9 x10 (I c) (.map nid) x13 x14 x15 x16 x17 x18 x19 x20 x21 x22 x23 x24 x25 x26 (.ptr it 0) x28 x29 x30 x31 x32 x33) h nx = .ok True := by
 refine F89.L22 (fun m' h' nx' => ∃ (seen : List Nat) (ks' : List Key), (leftA ksM.length seen).length = m' ∧ seen.length + m' = ksM.length ∧ seen.Nodup ∧ (∀ i ∈ seen, i < ksM.length) ∧ KsOk lines.length ks' (seen.flatMap (blkAt ksM GM (onC lines c) most)) ∧
  Hp h0 h' nx' (.iter it mid (ksM.map (entK (cntV GM))).length seen (ksM.map (entK (cntV GM))).length :: .map nid (ks'.map (entK (cntV (seen.flatMap (blkAt ksM GM (onC lines c) most))))) :: .map mid (ksM.map (entK (cntV GM))) :: Lt on bx cells lines o (onC lines) L)) (m := ksM.length) (by omega) ⟨[], [], by (have e : leftA ksM.length [] = List.range ksM.length := List.filter_eq_self.2 (by simp)); rw [e]; simp, by simp, by simp, by simp, KsOk.nil _, H⟩ ?_
 rintro m' z13 z14 z15 z16 z17 z28 z29 z30 z31 z32 z33 h1 nx1 R ⟨seen, ks1, rfl, hsl, hnd, hlt, O1, H1⟩ hR
 refine H1.next (k := 0) (j := 2) rfl rfl (fun hall => ?_) fun i a b h2 hi hns hab H2 => ?_
 ·simp (disch := omega) only [sAdd, sSub, sMul, sEql, sNeq, sLss, sLeq, sGtr, sGeq, sPick_t, sPick_f, sCond_t, sCond_f, sG_tt, sG_ff, sG_tf, sG_ft, sNot_b, sExt0, sExt1, sExt2, sPart0, sPart1, sPart2, sLen_lst, sLen_sl, sLen_nils, sSame_refl, decide_true, decide_false, Bool.not_true, Bool.not_false, sChk_t]
  refine hK _ _ _ _ _ _ _ _ _ _ _ _ _ ks1 _ O1 ?_ H1.drop
  have hsp := seen_perm hnd hlt fun i hi => hall i (by simpa using hi)
  refine (hsp.flatMap_right _).trans ?_
  have e : (List.range ksM.length).flatMap (blkAt ksM GM (onC lines c) most) = ksM.flatMap fun x => blk x (onC lines c) (GM.count x) (most + 1) := by
   have : ksM = (List.range ksM.length).map fun i => ksM.getD i [] := by
    have := rowL_self ksM []
    exact this
   conv => rhs; rw [this]
   rw [List.flatMap_map]
  rw [e]
  exact next_perm ksM GM (onC lines c) (most + 1) O.nd O.mem
 ·have hi' : i < ksM.length := by simpa using hi
  obtain ⟨x, hx⟩ : ∃ x, ksM[i]? = some x := ⟨_, List.getElem?_eq_getElem hi'⟩
  have hxm := List.mem_of_getElem? hx
  rw [List.getElem?_map, hx] at hab
  obtain ⟨rfl, rfl⟩ : encK x = a ∧ cntV GM x = b := by simpa [entK] using hab
  have hgx : ksM.getD i [] = x := by rw [List.getD_eq_getElem?_getD, hx]; rfl
  have hxl := O.klen x hxm
  have hcx : 1 ≤ GM.count x := List.count_pos_iff.2 ((O.mem x).1 hxm)
  have hcx2 : GM.count x ≤ GM.length := List.count_le_length
  simp (disch := omega) only [sAdd, sSub, sMul, sEql, sNeq, sLss, sLeq, sGtr, sGeq, sPick_t, sPick_f, sCond_t, sCond_f, sG_tt, sG_ff, sG_tf, sG_ft, sNot_b, sExt0, sExt1, sExt2, sPart0, sPart1, sPart2, sLen_lst, sLen_sl, sLen_nils, sSame_refl, decide_true, decide_false, Bool.not_true, Bool.not_false, sChk_t]
  have hent : (ksM.map (entK (cntV GM)))[i]? = some (encK x, cntV GM x) := by rw [List.getElem?_map, hx]; rfl
  rw [H2.entry (k := 0) (j := 2) rfl rfl hent]
  simp (disch := omega) only [sAdd, sSub, sMul, sEql, sNeq, sLss, sLeq, sGtr, sGeq, sPick_t, sPick_f, sCond_t, sCond_f, sG_tt, sG_ff, sG_tf, sG_ft, sNot_b, sExt0, sExt1, sExt2, sPart0, sPart1, sPart2, sLen_lst, sLen_sl, sLen_nils, sSame_refl, decide_true, decide_false, Bool.not_true, Bool.not_false, sChk_t]
  refine H2.alloc fun xb h3 nx3 H3 => ?_
  refine H3.storeN (k := 0) rfl rfl (cellsK_length (by omega)) fun h4 H4 => ?_
  have hb : ∀ j ∈ seen, (blkAt ksM GM (onC lines c) most j).length ≤ 1001 * 1000000 := fun j _ => by
   rw [blk_length]
   exact Nat.mul_le_mul (by omega) (Nat.le_trans List.count_le_length hGM)
  have hfl : (seen.flatMap (blkAt ksM GM (onC lines c) most)).length ≤ seen.length * (1001 * 1000000) := flatMap_len seen hb
  have hsl2 : seen.length * (1001 * 1000000) ≤ 1000000 * (1001 * 1000000) := Nat.mul_le_mul_right _ (by omega)
  have hmn : (most + 2) * GM.count x ≤ 1002 * 1000000 := Nat.mul_le_mul (by omega) (by omega)
  refine F89.ks (most := most) (n := GM.count x) (p := 1) (q := 3) (r := c + 5) (idx := onC lines c) (o := o c) hN hm hxl (fun z hz => onP_lt hz) (hD c) hmost hcx (by omega) H4 rfl O1 rfl (by decide) (rowL_get hc) (by exact Lt_get (on := on) (bx := bx) (lines := lines) hc) (by omega) hc fun y15 y16 y17 y29 y30 y31 y32 y33 h5 nx5 ks2 O2 H5 => ?_
  have hst := leftA_step hi' hns
  have e : (i :: seen).flatMap (blkAt ksM GM (onC lines c) most) = blk x (onC lines c) (GM.count x) (most + 1) ++ seen.flatMap (blkAt ksM GM (onC lines c) most) := by
   rw [List.flatMap_cons, blkAt, hgx]
  refine hR _ _ _ _ _ _ _ _ _ _ _ _ _ _ (by omega) ⟨i :: seen, ks2, rfl, by simp; omega, List.nodup_cons.2 ⟨hns, hnd⟩, fun j hj => ?_, by rw [e]; exact O2, by rw [e]; exact H5.drop⟩
  rcases List.mem_cons.1 hj with rfl | q
  ·exact hi'
  ·exact hlt j q
theorem Hp.swap {h0 h : T Blk} {nx : Pa} {a b : Ob} {L : List Ob} (H : Hp h0 h nx (a :: b :: L)) : Hp h0 h nx (b :: a :: L) := H.perm (.swap _ _ _)
theorem F89.cells {N : Nat} {K0 : Kw Prop} {K : Ks Prop} {h0 h : T Blk} {nx : Pa} {L : List Ob} {x0 x1 x4 x5 x7 x8 x9 x12 x13 x14 x15 x16 x17 x18 x19 x20 x21 x22 x23 x24 x25 x26 x27 x28 x29 x30 x31 x32 x33 : AV} {mid on bx : Pa} {o : Nat → Option Pa} {lines : List (List Int)} {most fr to cells : Nat} (hN : 100000000 < N) (hm : lines.length ≤ 128) (hD : ∀ c, (onC lines c).length ≤ 1000000) (hmost : most ≤ 1000) (hfr : fr ≤ to) (hto : to ≤ cells) (hcl : cells ≤ 1000000) (hpow : (most + 1) ^ (to - fr) ≤ 1000000)
  (H : Hp h0 h nx (.map mid ([List.replicate lines.length 0].map (entK (cntV [List.replicate lines.length 0]))) :: Lt on bx cells lines o (onC lines) L))
  (hK : ∀ x12 x13 x14 x15 x16 x17 x26 x27 x28 x29 x30 x31 x32 x33 h' nx' id ks G, KsOk lines.length ks G → G.Perm (tallyT lines most fr (to - fr)) → Hp h0 h' nx' (.map id (ks.map (entK (cntV G))) :: Lt on bx cells lines o (onC lines) L) → K (F89.fr x0 x1 (I to) (I most) x4 x5 (.sl on 0 cells (some cells) 1) x7 x8 x9 (.map id) (I to) x12 x13 x14 x15 x16 x17 x18 x19 x20 x21 x22 x23 x24 x25 x26 x27 x28 x29 x30 x31 x32 x33) h' nx' = .ok True) :
  IR.run F89.b16 (CS Tryz.prog B) N (fnO F89.res K0) K (F89.fr x0 x1 (I to) (I most) x4 x5 (.sl on 0 cells (some cells) 1) x7 x8 x9 (.map mid) (I fr) x12 x13 x14 x15 x16 x17 x18 x19 x20 x21 x22 x23 x24 x25 x26 x27 x28 x29 x30 x31 x32 x33) h nx = .ok True := by
 refine F89.L16 (fun m' x10 x11 h' nx' => ∃ (c : Nat) (mid : Pa) (ks G : List Key), x10 = .map mid ∧ x11 = I c ∧ to - c = m' ∧ fr ≤ c ∧ c ≤ to ∧ KsOk lines.length ks G ∧ G.Perm (tallyT lines most fr (c - fr)) ∧ Hp h0 h' nx' (.map mid (ks.map (entK (cntV G))) :: Lt on bx cells lines o (onC lines) L)) (m := to - fr) (by omega)
  ⟨fr, mid, [List.replicate lines.length 0], [List.replicate lines.length 0], rfl, rfl, rfl, Nat.le_refl _, hfr, ⟨by simp, by simp, by simp⟩, by rw [Nat.sub_self]; exact .refl _, H⟩ ?_
 rintro m' z10 z11 z12 z13 z14 z15 z16 z17 z26 z27 z28 z29 z30 z31 z32 z33 h1 nx1 R ⟨c, mid1, ks1, G1, rfl, rfl, rfl, hc1, hc2, O1, hp1, H1⟩ hR
 simp (disch := omega) only [sAdd, sSub, sMul, sEql, sNeq, sLss, sLeq, sGtr, sGeq, sPick_t, sPick_f, sCond_t, sCond_f, sG_tt, sG_ff, sG_tf, sG_ft, sNot_b, sExt0, sExt1, sExt2, sPart0, sPart1, sPart2, sLen_lst, sLen_sl, sLen_nils, sSame_refl, decide_true, decide_false, Bool.not_true, Bool.not_false, sChk_t]
 by_cases hlt : c < to
 case neg =>
  simp only [show ¬ (c : Int) < (to : Int) by omega, decide_false, sCond_f]
  obtain rfl : c = to := by omega
  exact hK _ _ _ _ _ _ _ _ _ _ _ _ _ _ _ _ _ _ _ O1 hp1 H1
 simp only [show (c : Int) < (to : Int) by omega, decide_true, sCond_t]
 refine H1.mkmap fun nid h2 nx2 H2 => ?_
 refine H2.range (k := 1) rfl fun it h3 nx3 H3 => ?_
 have hlen : G1.length ≤ 1000000 := by
  rw [hp1.length_eq, tallyT_length]
  exact Nat.le_trans (Nat.pow_le_pow_right (by omega) (by omega)) hpow
 have hkl : ks1.length ≤ G1.length := by
  have h1 := (perm_self ks1 G1 O1.nd O1.mem).length_eq
  rw [← h1, List.length_flatMap]
  have : ∀ l : List Key, (∀ y ∈ l, y ∈ G1) → l.length ≤ (l.map fun x => (List.replicate (G1.count x) x).length).sum := by
   intro l
   induction l with
   | nil => simp
   | cons a l ih =>
    intro h
    have h2 := ih fun y hy => h y (by simp [hy])
    have h3 : 1 ≤ G1.count a := List.count_pos_iff.2 (h a (by simp))
    simp only [List.map_cons, List.sum_cons, List.length_cons, List.length_replicate] at h2 ⊢
    omega
  exact this ks1 fun y hy => (O1.mem y).1 hy
 refine F89.ents (c := c) (o := o) (bx := bx) (L := L) hN hm hD hmost hlen O1 (by omega) (by omega) H3 fun y13 y14 y15 y16 y17 y28 y29 y30 y31 y32 y33 h4 nx4 ks2 G2 O2 hp2 H4 => ?_
 rw [F89.k42, F89.k43, sAdd (by omega)]
 refine hR (to - (c + 1)) _ _ _ _ _ _ _ _ _ _ _ _ _ _ _ _ _ _ (by omega) ⟨c + 1, nid, ks2, G2, rfl, rfl, rfl, by omega, by omega, O2, ?_, H4.swap.drop⟩
 rw [show c + 1 - fr = (c - fr) + 1 by omega, tallyT, show fr + (c - fr) = c by omega]
 exact hp2.trans (hp1.flatMap_right _)
theorem tally89 {h0 h : T Blk} {nx : Pa} {L : List Ob} {lines : List (List Int)} {most fr to cells : Nat} {p : Pa} {K : Kw Prop} (hm : lines.length ≤ 128) (hw : ∀ l ∈ lines, l.length ≤ 1000) (hl : ∀ l ∈ lines, ∀ c ∈ l, 0 ≤ c ∧ c < (cells : Int)) (hmost : most ≤ 1000) (hfr : fr ≤ to) (hto : to ≤ cells) (hcl : cells ≤ 1000000) (hpow : (most + 1) ^ (to - fr) ≤ 1000000) (H : Hp h0 h nx L)
  (hK : ∀ h' nx' id ks G, KsOk lines.length ks G → G.Perm (tallyT lines most fr (to - fr)) → Hp h0 h' nx' (.map id (ks.map (entK (cntV G))) :: L) → K (.map id) h' nx' = .ok True) :
  (CS Tryz.prog B).fn 89 p [.agg [I cells, encT lines], I fr, I to, I most] h nx K = .ok True := by
 have hD : ∀ c, (onC lines c).length ≤ 1000000 := fun c => by
  have : ∀ i, i ≤ lines.length → (onP lines i c).length ≤ i * 1000 := by
   intro i
   induction i with
   | zero => intro _; simp [onP]
   | succ i ih =>
    intro hi
    rw [onP_succ, List.length_append, List.length_map]
    have h2 := ih (by omega)
    have h3 : ((lines.getD i []).filter (· = (c : Int))).length ≤ 1000 := by
     refine Nat.le_trans (List.length_filter_le _ _) ?_
     rw [List.getD_eq_getElem?_getD, List.getElem?_eq_getElem (by omega)]
     exact hw _ (List.getElem_mem _)
    omega
  have h9 := this _ (Nat.le_refl _)
  clear this
  show (onP lines lines.length c).length ≤ _
  omega
 refine CS_fn_mono (p := .of 89) (K := K) (by_body tbl_ok dreg 1000000000 fun hf => ?_) fun _ _ _ _ q => q
 rw [F89.go]
 refine H.box (l := [I cells, encT lines]) rfl fun bx h1 nx1 H1 => ?_
 rw [sFx, H1.load (k := 0) (i := 0) rfl rfl]
 refine H1.mk1 cells rfl rfl hcl (by decide) fun on h2 nx2 H2 => ?_
 rw [sFx, H2.load (k := 1) (i := 0 + 1) rfl rfl]
 simp (disch := omega) only [sAdd, sSub, sMul, sEql, sNeq, sLss, sLeq, sGtr, sGeq, sPick_t, sPick_f, sCond_t, sCond_f, sG_tt, sG_ff, sG_tf, sG_ft, sNot_b, sExt0, sExt1, sExt2, sPart0, sPart1, sPart2, sLen_lst, sLen_sl, sLen_nils, sSame_refl, decide_true, decide_false, Bool.not_true, Bool.not_false, sChk_t]
 refine F89.on (by decide) hm hw hl H2 fun y7 y8 y9 y20 y21 y22 y23 y24 y25 h3 nx3 o H3 => ?_
 rw [F89.k15]
 refine H3.mkmap fun mid h4 nx4 H4 => ?_
 have hz : encK (List.replicate lines.length 0) = .agg (List.replicate 128 (u8 0)) := by rw [encK, cellsK_zero hm]
 have hb : ∀ (z : List AV) (op : AV → OP), sBuild z [] op = op (.agg z) := fun z op => rfl
 rw [hb]
 have hz2 : AV.agg (List.replicate 128 (u8 0)) = encK (List.replicate lines.length 0) := hz.symm
 refine Eq.trans (b := sMapup (.agg 128) (.map mid) (AV.agg (List.replicate 128 (u8 0))) (I 1) h4 nx4 _) rfl ?_
 rw [hz2]
 refine H4.mapFirst (m := lines.length) hm (by simp) (k := 0) rfl fun h5 H5 => ?_
 refine F89.cells (o := o) (by decide) hm hD hmost hfr hto hcl hpow H5 fun y12 y13 y14 y15 y16 y17 y26 y27 y28 y29 y30 y31 y32 y33 h6 nx6 id ks G O6 hp6 H6 => ?_
 rw [F89.k44]
 exact hK _ _ _ _ _ O6 hp6 (Hp.dropMid (A := .arr on _ :: .arr bx _ :: rowL cells _) H6)
end Go.Ev
namespace Go.Ev
open Go Go.Proofs
variable {B : Nat}
theorem tallyT_lt (lines : List (List Int)) (most fr : Nat) : ∀ n, ∀ y ∈ tallyT lines most fr n, ∀ v ∈ y, v < 256
 | 0, y, h, v, hv => by
  rw [List.mem_singleton.1 h] at hv
  rw [(List.mem_replicate.1 hv).2]; decide
 | n + 1, y, h, v, hv => by
  simp only [tallyT, List.mem_flatMap, List.mem_map] at h
  obtain ⟨x, hx, k, _, rfl⟩ := h
  have ih := tallyT_lt lines most fr n x hx
  have : ∀ (idx : List Nat) (y : List Nat), (∀ v ∈ y, v < 256) → ∀ v ∈ addL y idx k, v < 256 := by
   intro idx
   induction idx with
   | nil => exact fun y h => h
   | cons i l ih2 =>
    intro y h
    refine ih2 _ fun v hv => ?_
    rcases List.mem_or_eq_of_mem_set hv with q | rfl
    ·exact h v q
    ·omega
  exact this _ _ ih v hv
def fB (sum : Nat) (G : List Key) (x : Key) : Nat := if x.all (fun v => decide (v ≤ sum)) then G.count (x.map fun v => sum - v) else 0
def bsum (lines : List (List Int)) (most sum half cells : Nat) : Nat := ((tallyT lines most 0 half).map (fB sum (tallyT lines most half (cells - half)))).sum
theorem sum_perm {α : Type} {l l' : List α} (f : α → Nat) (h : l.Perm l') : (l.map f).sum = (l'.map f).sum := by
 induction h with
 | nil => rfl
 | cons a _ ih => simp [ih]
 | swap a b l => simp; omega
 | trans _ _ h1 h2 => exact h1.trans h2
theorem sum_flat {f : Key → Nat} {G : List Key} : ∀ (l : List Key), ((l.flatMap fun x => List.replicate (G.count x) x).map f).sum = (l.map fun x => G.count x * f x).sum
 | [] => rfl
 | a :: l => by
  rw [List.flatMap_cons, List.map_append, List.sum_append, sum_flat l, List.map_cons, List.sum_cons]
  congr 1
  rw [List.map_replicate, List.sum_replicate_nat]
theorem sum_keys {f : Key → Nat} {ks G : List Key} {m : Nat} (O : KsOk m ks G) : (ks.map fun x => G.count x * f x).sum = (G.map f).sum := by
 rw [← sum_flat, sum_perm f (perm_self ks G O.nd O.mem)]
theorem fB_perm {sum : Nat} {G G' : List Key} (h : G.Perm G') : fB sum G = fB sum G' := by
 funext x; simp only [fB]; rw [h.count_eq]
theorem fB_le {sum : Nat} {G : List Key} {x : Key} : fB sum G x ≤ G.length := by
 unfold fB; split
 ·exact List.count_le_length
 ·omega
theorem sConv_i64 {k : IntKind} {x : Nat} {K : AV → OP} (h : x ≤ 1000000) : sConv .i64 (.int k (x : Int)) K = K (I x) := by
 show intK (wrapF .i64 (x : Int)) (fun z => K (.int .i64 z)) = _
 rw [intK_eq, wrapF_eq, wrap64_in (by omega)]
theorem sSub_u8 {x y : Nat} {K : AV → OP} (h : y ≤ x) (hx : x < 256) : sBin .sub .int (u8 x) (u8 y) K = K (u8 (x - y)) := by
 rw [sSubW, IntKind.wrap_u8]
 have : u8 (x - y) = .int .u8 (((x : Int) - (y : Int)) % 256) := by unfold u8; congr 1; omega
 rw [this]
theorem F31.rest {N : Nat} {K0 : Kw Prop} {E0 E1 K : Ks Prop} {h0 h : T Blk} {nx : Pa} {L : List Ob} {x0 x1 x3 x4 x5 x6 x7 x8 x9 x11 x13 x14 x15 x16 x17 x18 x21 x22 : AV} {xb rb : Pa} {x : Key} {sum m : Nat} (hN : 1000 < N) (hm : m ≤ 128) (hx : x.length = m) (hv : ∀ v ∈ x, v < 256) {s : Int} (hs : m = 0 ∨ (s = sum ∧ sum ≤ 255))
  (H : Hp h0 h nx (.arr rb (cellsK (List.replicate m 0)) :: .arr xb (cellsK x) :: L))
  (hno : ∀ x13 x20 x21 x22 h' nx', ¬ x.all (fun v => decide (v ≤ sum)) = true → Hp h0 h' nx' L → E1 (F31.fr x0 x1 (I s) x3 x4 x5 x6 x7 x8 x9 (.ptr xb 0) x11 (.ptr rb 0) x13 x14 x15 x16 x17 x18 (I m) x20 x21 x22) h' nx' = .ok True)
  (hK : ∀ x13 x20 x21 x22 h' nx', x.all (fun v => decide (v ≤ sum)) = true → Hp h0 h' nx' (.arr rb (cellsK (x.map fun v => sum - v)) :: .arr xb (cellsK x) :: L) → K (F31.fr x0 x1 (I s) x3 x4 x5 x6 x7 x8 x9 (.ptr xb 0) x11 (.ptr rb 0) x13 x14 x15 x16 x17 x18 (I m) x20 x21 x22) h' nx' = .ok True) :
  IR.run F31.b9 (CS Tryz.prog B) N (((fnO F31.res K0).blk 0 E0).blk 1 E1) K (F31.fr x0 x1 (I s) x3 x4 x5 x6 x7 x8 x9 (.ptr xb 0) x11 (.ptr rb 0) x13 x14 x15 x16 x17 x18 (I m) (I 0) x21 x22) h nx = .ok True := by
 refine F31.L9 (fun m' x20 h' nx' => ∃ j : Nat, x20 = I j ∧ m - j = m' ∧ j ≤ m ∧ (x.take j).all (fun v => decide (v ≤ sum)) = true ∧ Hp h0 h' nx' (.arr rb (cellsK ((x.take j).map (fun v => sum - v) ++ List.replicate (m - j) 0)) :: .arr xb (cellsK x) :: L)) (m := m) (by omega) ⟨0, rfl, rfl, by omega, rfl, H⟩ ?_
 rintro m' z13 z20 z21 z22 h1 nx1 R ⟨j, rfl, rfl, hj, hall, H1⟩ hR
 simp (disch := omega) only [sAdd, sSub, sMul, sEql, sNeq, sLss, sLeq, sGtr, sGeq, sPick_t, sPick_f, sCond_t, sCond_f, sG_tt, sG_ff, sG_tf, sG_ft, sNot_b, sExt0, sExt1, sExt2, sPart0, sPart1, sPart2, sLen_lst, sLen_sl, sLen_nils, sSame_refl, decide_true, decide_false, Bool.not_true, Bool.not_false, sChk_t]
 by_cases hlt : j < m
 case neg =>
  simp only [show ¬ (j : Int) < (m : Int) by omega, decide_false, sCond_f]
  obtain rfl : j = m := by omega
  rw [List.take_of_length_le (by omega)] at hall H1
  exact hK _ _ _ _ _ _ hall (H1.cast (by simp))
 simp only [show (j : Int) < (m : Int) by omega, decide_true, sCond_t]
 have hjx : j < x.length := by omega
 have hxj : x[j]? = some x[j] := List.getElem?_eq_getElem hjx
 have hv1 := hv _ (List.getElem_mem hjx)
 obtain ⟨rfl, hs'⟩ := hs.resolve_left (by omega)
 rw [sAx (i := j) rfl (by omega), H1.load (k := 1) rfl (cellsK_get hxj), sConv_i64 (by omega)]
 simp (disch := omega) only [sAdd, sSub, sMul, sEql, sNeq, sLss, sLeq, sGtr, sGeq, sPick_t, sPick_f, sCond_t, sCond_f, sG_tt, sG_ff, sG_tf, sG_ft, sNot_b, sExt0, sExt1, sExt2, sPart0, sPart1, sPart2, sLen_lst, sLen_sl, sLen_nils, sSame_refl, decide_true, decide_false, Bool.not_true, Bool.not_false, sChk_t]
 by_cases hle : x[j] ≤ sum
 case neg =>
  simp only [show (sum : Int) < (x[j] : Int) by omega, decide_true, sCond_t]
  refine hno _ _ _ _ _ _ (fun q => ?_) H1.drop.drop
  have := List.all_eq_true.1 q _ (List.getElem_mem hjx)
  exact hle (of_decide_eq_true this)
 simp only [show ¬ (sum : Int) < (x[j] : Int) by omega, decide_false, sCond_f]
 have hlen : ((x.take j).map (fun v => sum - v) ++ List.replicate (m - j) 0).length = m := by simp; omega
 rw [sConv_u8, Nat.mod_eq_of_lt (show sum < 256 by omega), sAx (i := j) rfl (by omega), H1.load (k := 1) rfl (cellsK_get hxj), sSub_u8 hle (by omega), sAx (i := j) rfl (by omega)]
 refine H1.store (k := 0) rfl (by rw [cellsK_length (by omega)]; omega) rfl fun h2 H2 => ?_
 refine hR (m - (j + 1)) _ _ _ _ _ _ (by omega) ⟨j + 1, by congr 1, rfl, by omega, ?_, H2.cast ?_⟩
 ·rw [List.take_add_one, hxj, List.all_append, hall]
  simp [hle]
 ·rw [List.set_cons_zero, cellsK_set (by omega), List.take_add_one, hxj]
  congr 3
  rw [List.set_append_right _ _ (by simp; omega)]
  have e : m - j = (m - (j + 1)) + 1 := by omega
  have e2 : j - ((x.take j).map fun v => sum - v).length = 0 := by simp; omega
  rw [e, e2, List.replicate_succ, List.set_cons_zero]
  simp only [Option.toList_some, List.map_append, List.map_cons, List.map_nil, List.append_assoc, List.cons_append, List.nil_append]
theorem sum_len {α : Type} {f : α → Nat} {M : Nat} : ∀ (l : List α), (∀ i ∈ l, f i ≤ M) → (l.map f).sum ≤ l.length * M
 | [], _ => by simp
 | a :: l, h => by
  have h1 := h a (by simp)
  have h2 := sum_len l fun i hi => h i (by simp [hi])
  rw [List.map_cons, List.sum_cons, List.length_cons, Nat.add_mul]; omega
abbrev termB (ks GL GR : List Key) (sum i : Nat) : Nat := GL.count (ks.getD i []) * fB sum GR (ks.getD i [])
theorem F31.meet {N : Nat} {K0 : Kw Prop} {K : Ks Prop} {h0 h : T Blk} {nx : Pa} {L : List Ob} {x0 x1 x4 x5 x6 x7 x10 x11 x12 x13 x14 x15 x16 x18 x19 x20 x21 x22 : AV} {it lid rid bx : Pa} {lines : List (List Int)} {ksL GL ksR GR : List Key} {sum cells : Nat} {s : Int} (hN : 100000000 < N) (hm : lines.length ≤ 128) (hs : lines.length = 0 ∨ (s = sum ∧ sum ≤ 255)) (OL : KsOk lines.length ksL GL) (OR : KsOk lines.length ksR GR) (hL : GL.length ≤ 1000000) (hR0 : GR.length ≤ 1000000) (hkl : ksL.length ≤ 1000000) (hlt : ∀ y ∈ GL, ∀ v ∈ y, v < 256)
  (H : Hp h0 h nx (.iter it lid (ksL.map (entK (cntV GL))).length [] (ksL.map (entK (cntV GL))).length :: .map lid (ksL.map (entK (cntV GL))) :: .map rid (ksR.map (entK (cntV GR))) :: .arr bx [I cells, encT lines] :: L))
  (hK : ∀ x10 x11 x12 x13 x18 x19 x20 x21 x22 h' nx' L', Hp h0 h' nx' L' → K (F31.fr x0 x1 (I s) (.ptr bx 0) x4 x5 x6 x7 (.map rid) (I ((GL.map (fB sum GR)).sum : Nat)) x10 x11 x12 x13 x14 x15 x16 (.ptr it 0) x18 x19 x20 x21 x22) h' nx' = .ok True) :
  IR.run F31.b4 (CS Tryz.prog B) N (fnO F31.res K0) K (F31.fr x0 x1 (I s) (.ptr bx 0) x4 x5 x6 x7 (.map rid) (I 0) x10 x11 x12 x13 x14 x15 x16 (.ptr it 0) x18 x19 x20 x21 x22) h nx = .ok True := by
 refine F31.L4 (fun m' x9 h' nx' => ∃ (seen : List Nat), x9 = I ((seen.map (termB ksL GL GR sum)).sum : Nat) ∧ (leftA ksL.length seen).length = m' ∧ seen.length + m' = ksL.length ∧ seen.Nodup ∧ (∀ i ∈ seen, i < ksL.length) ∧
  Hp h0 h' nx' (.iter it lid (ksL.map (entK (cntV GL))).length seen (ksL.map (entK (cntV GL))).length :: .map lid (ksL.map (entK (cntV GL))) :: .map rid (ksR.map (entK (cntV GR))) :: .arr bx [I cells, encT lines] :: L)) (m := ksL.length) (by omega) ⟨[], rfl, by (have e : leftA ksL.length [] = List.range ksL.length := List.filter_eq_self.2 (by simp)); rw [e]; simp, by simp, by simp, by simp, H⟩ ?_
 rintro m' z9 z10 z11 z12 z13 z18 z19 z20 z21 z22 h1 nx1 R ⟨seen, rfl, rfl, hsl, hnd, hse, H1⟩ hR
 refine H1.next (k := 0) (j := 1) rfl rfl (fun hall => ?_) fun i a b h2 hi hns hab H2 => ?_
 ·simp (disch := omega) only [sAdd, sSub, sMul, sEql, sNeq, sLss, sLeq, sGtr, sGeq, sPick_t, sPick_f, sCond_t, sCond_f, sG_tt, sG_ff, sG_tf, sG_ft, sNot_b, sExt0, sExt1, sExt2, sPart0, sPart1, sPart2, sLen_lst, sLen_sl, sLen_nils, sSame_refl, decide_true, decide_false, Bool.not_true, Bool.not_false, sChk_t]
  have hsp := seen_perm hnd hse fun i hi => hall i (by simpa using hi)
  have e : (seen.map (termB ksL GL GR sum)).sum = (GL.map (fB sum GR)).sum := by
   rw [sum_perm _ hsp, ← sum_keys OL]
   have : ksL = (List.range ksL.length).map fun i => ksL.getD i [] := rowL_self ksL []
   conv => rhs; rw [this]
   rw [List.map_map]
   rfl
  rw [e]
  exact hK _ _ _ _ _ _ _ _ _ _ _ _ H1
 ·have hi' : i < ksL.length := by simpa using hi
  obtain ⟨x, hx⟩ : ∃ x, ksL[i]? = some x := ⟨_, List.getElem?_eq_getElem hi'⟩
  have hxm := List.mem_of_getElem? hx
  rw [List.getElem?_map, hx] at hab
  obtain ⟨rfl, rfl⟩ : encK x = a ∧ cntV GL x = b := by simpa [entK] using hab
  have hgx : ksL.getD i [] = x := by rw [List.getD_eq_getElem?_getD, hx]; rfl
  have hxl := OL.klen x hxm
  have hcx2 : GL.count x ≤ GL.length := List.count_le_length
  simp (disch := omega) only [sAdd, sSub, sMul, sEql, sNeq, sLss, sLeq, sGtr, sGeq, sPick_t, sPick_f, sCond_t, sCond_f, sG_tt, sG_ff, sG_tf, sG_ft, sNot_b, sExt0, sExt1, sExt2, sPart0, sPart1, sPart2, sLen_lst, sLen_sl, sLen_nils, sSame_refl, decide_true, decide_false, Bool.not_true, Bool.not_false, sChk_t]
  have hent : (ksL.map (entK (cntV GL)))[i]? = some (encK x, cntV GL x) := by rw [List.getElem?_map, hx]; rfl
  rw [H2.entry (k := 0) (j := 1) rfl rfl hent]
  simp (disch := omega) only [sAdd, sSub, sMul, sEql, sNeq, sLss, sLeq, sGtr, sGeq, sPick_t, sPick_f, sCond_t, sCond_f, sG_tt, sG_ff, sG_tf, sG_ft, sNot_b, sExt0, sExt1, sExt2, sPart0, sPart1, sPart2, sLen_lst, sLen_sl, sLen_nils, sSame_refl, decide_true, decide_false, Bool.not_true, Bool.not_false, sChk_t]
  refine H2.alloc fun xb h3 nx3 H3 => ?_
  refine H3.storeN (k := 0) rfl rfl (cellsK_length (by omega)) fun h4 H4 => ?_
  refine H4.alloc fun rb h5 nx5 H5 => ?_
  rw [sFx, H5.load (k := 5) (i := 0 + 1) rfl rfl]
  simp (disch := omega) only [sAdd, sSub, sMul, sEql, sNeq, sLss, sLeq, sGtr, sGeq, sPick_t, sPick_f, sCond_t, sCond_f, sG_tt, sG_ff, sG_tf, sG_ft, sNot_b, sExt0, sExt1, sExt2, sPart0, sPart1, sPart2, sLen_lst, sLen_sl, sLen_nils, sSame_refl, decide_true, decide_false, Bool.not_true, Bool.not_false, sChk_t]
  have hst := leftA_step hi' hns
  have hterm : termB ksL GL GR sum i = GL.count x * fB sum GR x := by rw [termB, hgx]
  have hb : ∀ j ∈ seen, termB ksL GL GR sum j ≤ 1000000 * 1000000 := fun j _ => Nat.mul_le_mul (Nat.le_trans List.count_le_length hL) (Nat.le_trans fB_le hR0)
  have hfl := sum_len seen hb
  have hsl2 : seen.length * (1000000 * 1000000) ≤ 1000000 * (1000000 * 1000000) := Nat.mul_le_mul_right _ (by omega)
  have hres : ∀ (v : Nat) (hv : v = termB ksL GL GR sum i) (h' : T Blk) (w10 w11 w12 w13 w18 w19 w20 w21 w22 : AV) (nx' : Pa), Hp h0 h' nx' (.iter it lid (ksL.map (entK (cntV GL))).length (i :: seen) (ksL.map (entK (cntV GL))).length :: .map lid (ksL.map (entK (cntV GL))) :: .map rid (ksR.map (entK (cntV GR))) :: .arr bx [I cells, encT lines] :: L) →
    R (F31.fr x0 x1 (I s) (.ptr bx 0) x4 x5 x6 x7 (.map rid) (I (((seen.map (termB ksL GL GR sum)).sum : Nat) + (v : Int))) w10 w11 w12 w13 x14 x15 x16 (.ptr it 0) w18 w19 w20 w21 w22) h' nx' = .ok True := by
   rintro v rfl h' w10 w11 w12 w13 w18 w19 w20 w21 w22 nx' H'
   refine hR _ _ _ _ _ _ _ _ _ _ _ _ _ (by omega) ⟨i :: seen, ?_, rfl, by simp; omega, List.nodup_cons.2 ⟨hns, hnd⟩, fun j hj => ?_, H'⟩
   ·congr 1
    rw [List.map_cons, List.sum_cons]; omega
   ·rcases List.mem_cons.1 hj with rfl | q
    ·exact hi'
    ·exact hse j q
  have H6 : Hp h0 h5 nx5 (.arr rb (cellsK (List.replicate lines.length 0)) :: .arr xb (cellsK x) :: .iter it lid (ksL.map (entK (cntV GL))).length (i :: seen) (ksL.map (entK (cntV GL))).length :: .map lid (ksL.map (entK (cntV GL))) :: .map rid (ksR.map (entK (cntV GR))) :: .arr bx [I cells, encT lines] :: L) := H5.cast (by rw [cellsK_zero hm]; rfl)
  have hcm : ((GL.count x : Int) * ((fB sum GR x : Nat) : Int)) = ((termB ksL GL GR sum i : Nat) : Int) := by rw [hterm, Int.natCast_mul]
  have htl : termB ksL GL GR sum i ≤ 1000000 * 1000000 := by
   rw [hterm]; exact Nat.mul_le_mul (by omega) (Nat.le_trans fB_le hR0)
  refine F31.rest (m := lines.length) (x := x) (sum := sum) (by omega) hm hxl (hlt x ((OL.mem x).1 hxm)) hs H6 (fun y13 y20 y21 y22 h7 nx7 hall H7 => ?_) fun y13 y20 y21 y22 h7 nx7 hall H7 => ?_
  ·have := hres 0 (by rw [hterm, fB, if_neg hall]; simp) h7 (.ptr xb 0) (cntV GL x) (.ptr rb 0) y13 (.bool true) (I lines.length) y20 y21 y22 nx7 H7
   simpa using this
  ·rw [F31.k17]
   have hrl : (x.map fun v => sum - v).length = lines.length := by rw [List.length_map]; exact hxl
   rw [H7.loadN (k := 0) rfl (cellsK_length (by omega))]
   have hlk := fun op => sLook_map (op := op) hm H7 (k := 4) (id := rid) rfl OR hrl
   refine Eq.trans (b := sLook (.agg 128) (I 0) false (.map rid) (encK (x.map fun v => sum - v)) h7 _) rfl ?_
   rw [hlk]
   have hf : fB sum GR x = GR.count (x.map fun v => sum - v) := by rw [fB, if_pos hall]
   rw [cntV, cntV, ← hf, sMul (by omega), hcm, sAdd (by omega)]
   exact hres _ rfl h7 _ _ _ _ _ _ _ _ _ nx7 H7.drop.drop
end Go.Ev
namespace Go.Ev
open Go Go.Proofs
variable {B : Nat}
theorem half_q (n : Nat) : ((n : Int)).tdiv 2 = ((n / 2 : Nat) : Int) := by
 rw [Int.tdiv_eq_ediv_of_nonneg (by omega)]; omega
theorem sQuo2 {n : Nat} {K : AV → OP} (h : n ≤ 1000000) : sBin .quo .int (I (n : Int)) (I 2) K = K (I ((n / 2 : Nat) : Int)) := by
 have e : sBin .quo .int (I (n : Int)) (I 2) K = (bif ieq (2 : Int) 0 then Out.no 5 else intK (IntKind.wrap .i64 ((n : Int).tdiv 2)) fun z => K (.int .i64 z)) := rfl
 rw [e, show ieq (2 : Int) 0 = false from rfl, cond_false, intK_eq, half_q, wrap64_in (by omega)]
theorem sG_undef (b : Bool) (op : (AV → OP) → OP) (K : AV → OP) : sG .undef b op K = K .undef := nr rfl
theorem bounded31 {lines : List (List Int)} {cells most : Nat} {s : Int} (hm : lines.length ≤ 128) (hw : ∀ l ∈ lines, l.length ≤ 1000) (hl : ∀ l ∈ lines, ∀ c ∈ l, 0 ≤ c ∧ c < (cells : Int)) (hcl : cells ≤ 16) (hmost : most ≤ 9) (hpow : (most + 1) ^ (cells - cells / 2) ≤ 1000000)
  (h87 : Pure Tryz.prog B 87 [.agg [I cells, encT lines], I most] (· = I 0)) (h88 : Pure Tryz.prog B 88 [I ((cells - cells / 2 : Nat) : Int), I most] (· = .bool false)) :
  Pure Tryz.prog B 31 [.agg [I cells, encT lines], I most, I s] (· = .tup [I (if 0 < lines.length ∧ (s < 0 ∨ 255 < s) then 0 else (bsum lines most s.toNat (cells / 2) cells : Nat)), I 0]) := by
 refine pure_hp fun h nx K H0 hK => by_body tbl_ok dreg 1000000000 fun hf => ?_
 rw [F31.go]
 refine H0.box (l := [I cells, encT lines]) rfl fun bx h1 nx1 H1 => ?_
 rw [H1.loadN (k := 0) (n := 2) rfl rfl]
 refine h87 _ _ _ _ ?_
 rintro _ rfl _
 simp (disch := omega) only [sAdd, sSub, sMul, sEql, sNeq, sLss, sLeq, sGtr, sGeq, sPick_t, sPick_f, sCond_t, sCond_f, sG_tt, sG_ff, sG_tf, sG_ft, sNot_b, sExt0, sExt1, sExt2, sPart0, sPart1, sPart2, sLen_lst, sLen_sl, sLen_nils, sSame_refl, decide_true, decide_false, Bool.not_true, Bool.not_false, sChk_t]
 rw [sFx, H1.load (k := 0) (i := 0) rfl rfl, sQuo2 (by omega), sFx, H1.load (k := 0) (i := 0) rfl rfl, sSub (by omega), show (cells : Int) - ((cells / 2 : Nat) : Int) = ((cells - cells / 2 : Nat) : Int) by omega]
 refine h88 _ _ _ _ ?_
 rintro _ rfl _
 rw [sCond_f, sFx, H1.load (k := 0) (i := 0 + 1) rfl rfl]
 simp (disch := omega) only [sAdd, sSub, sMul, sEql, sNeq, sLss, sLeq, sGtr, sGeq, sPick_t, sPick_f, sCond_t, sCond_f, sG_tt, sG_ff, sG_tf, sG_ft, sNot_b, sExt0, sExt1, sExt2, sPart0, sPart1, sPart2, sLen_lst, sLen_sl, sLen_nils, sSame_refl, decide_true, decide_false, Bool.not_true, Bool.not_false, sChk_t]
 have ret : ∀ v : Int, v = (if 0 < lines.length ∧ (s < 0 ∨ 255 < s) then (0 : Int) else ((bsum lines most s.toNat (cells / 2) cells : Nat) : Int)) → ∀ h' nx' L, Hp h h' nx' L → K (.tup [I v, I 0]) h' nx' = .ok True := fun v hv h' nx' L H => by
  rw [hv]; exact hK _ _ _ L _ H (frz_tup2 (frz_fixd rfl) (frz_fixd rfl)) rfl
 by_cases hz : 0 < lines.length ∧ (s < 0 ∨ 255 < s)
 ·rw [if_pos hz] at ret
  simp only [show (0 : Int) < (lines.length : Int) by omega, decide_true, sG_tt]
  by_cases hs0 : s < 0
  ·simp only [sLss, hs0, decide_true, sG_tf, sPick_t, sCond_t]
   exact ret 0 rfl _ _ _ H1
  ·simp only [sLss, sGtr, hs0, show (255 : Int) < s by omega, decide_true, decide_false, sG_ff, sPick_t, sPick_f, sCond_t]
   exact ret 0 rfl _ _ _ H1
 rw [if_neg hz] at ret
 have fin : ∀ z5 z6 z14 z15 z16, IR.run F31.b3 (CS Tryz.prog B) 1000000000 (fnO F31.res K) (retK F31.res K) (F31.fr (.agg [I cells, encT lines]) (I most) (I s) (.ptr bx 0) (I 0) z5 z6 (I ((cells / 2 : Nat) : Int)) .undef .undef .undef .undef .undef .undef z14 z15 z16 .undef .undef .undef .undef .undef .undef) h1 nx1 = .ok True := by
  intro z5 z6 z14 z15 z16
  rw [F31.k3, H1.loadN (k := 0) (n := 2) rfl rfl, sFx, H1.load (k := 0) (i := 0) rfl rfl]
  refine tally89 (cells := cells) hm hw hl (by omega) (by omega) (Nat.le_refl _) (by omega) hpow H1 fun h2 nx2 rid ksR GR OR hpR H2 => ?_
  rw [H2.loadN (k := 1) (n := 2) rfl rfl]
  refine tally89 (fr := 0) (cells := cells) hm hw hl (by omega) (by omega) (by omega) (by omega) (by rw [Nat.sub_zero]; exact Nat.le_trans (Nat.pow_le_pow_right (by omega) (by omega)) hpow) H2 fun h3 nx3 lid ksL GL OL hpL H3 => ?_
  rw [Nat.sub_zero] at hpL
  refine H3.range (k := 0) rfl fun it h4 nx4 H4 => ?_
  have hLl : GL.length ≤ 1000000 := by
   rw [hpL.length_eq, tallyT_length]
   exact Nat.le_trans (Nat.pow_le_pow_right (by omega) (by omega)) hpow
  have hRl : GR.length ≤ 1000000 := by rw [hpR.length_eq, tallyT_length]; exact hpow
  have hkl : ksL.length ≤ GL.length := by
   have h1 := (perm_self ksL GL OL.nd OL.mem).length_eq
   rw [← h1, List.length_flatMap]
   have : ∀ l : List Key, (∀ y ∈ l, y ∈ GL) → l.length ≤ (l.map fun x => (List.replicate (GL.count x) x).length).sum := by
    intro l
    induction l with
    | nil => simp
    | cons a l ih =>
     intro h
     have h2 := ih fun y hy => h y (by simp [hy])
     have h3 : 1 ≤ GL.count a := List.count_pos_iff.2 (h a (by simp))
     simp only [List.map_cons, List.sum_cons, List.length_cons, List.length_replicate] at h2 ⊢
     omega
   exact this ksL fun y hy => (OL.mem y).1 hy
  refine F31.meet (sum := s.toNat) (cells := cells) (by decide) hm (by omega) OL OR hLl hRl (by omega) (fun y hy => tallyT_lt _ _ _ _ y (hpL.mem_iff.1 hy)) H4 fun w10 w11 w12 w13 w18 w19 w20 w21 w22 h5 nx5 L5 H5 => ?_
  rw [F31.k18]
  refine ret _ ?_ _ _ _ H5
  rw [sum_perm _ hpL, fB_perm hpR]; rfl
 by_cases hl0 : 0 < lines.length
 ·simp only [show (0 : Int) < (lines.length : Int) by omega, decide_true, sG_tt, sLss, sGtr, show ¬ s < 0 by omega, show ¬ (255 : Int) < s by omega, decide_false, sG_ff, sPick_t, sPick_f, sCond_f]
  exact fin _ _ _ _ _
 ·simp only [show ¬ (0 : Int) < (lines.length : Int) by omega, decide_false, sG_ft, sG_undef, sPick_f, sCond_f]
  exact fin _ _ _ _ _
end Go.Ev
namespace Go.Ev
open Go Go.Proofs
variable {B : Nat}
theorem when123 (b : Bool) (e : Int) : Pure Tryz.prog B 123 [.bool b, I e] (· = I (if b then e else 0)) := by
 intro p h nx K hK
 refine by_body tbl_ok dreg 9 fun hf => ?_
 rw [F123.go]
 cases b <;> simp (disch := omega) only [sAdd, sSub, sMul, sEql, sNeq, sLss, sLeq, sGtr, sGeq, sPick_t, sPick_f, sCond_t, sCond_f, sG_tt, sG_ff, sG_tf, sG_ft, sNot_b, sExt0, sExt1, sExt2, sPart0, sPart1, sPart2, sLen_lst, sLen_sl, sLen_nils, sSame_refl, decide_true, decide_false, Bool.not_true, Bool.not_false, sChk_t] <;> exact hK _ rfl hf
def firstE : List Int → Int
 | [] => 0
 | e :: l => if e ≠ 0 then e else firstE l
theorem firstE_skip : ∀ (l : List Int) (i : Nat), (∀ e ∈ l.take i, e = 0) → firstE l = firstE (l.drop i)
 | l, 0, _ => rfl
 | [], _ + 1, _ => rfl
 | e :: l, i + 1, h => by
  have h0 : e = 0 := h e (by simp)
  rw [firstE, if_neg (by simp [h0]), List.drop_succ_cons]
  exact firstE_skip l i fun x hx => h x (by simp [hx])
theorem first121 {l : List Int} (hl : l.length ≤ 1000000) : Pure Tryz.prog B 121 [encI l] (· = I (firstE l)) := by
 intro p h nx K hK
 refine by_body tbl_ok dreg 10000000 fun hf => ?_
 rw [F121.go]
 simp (disch := omega) only [sAdd, sSub, sMul, sEql, sNeq, sLss, sLeq, sGtr, sGeq, sPick_t, sPick_f, sCond_t, sCond_f, sG_tt, sG_ff, sG_tf, sG_ft, sNot_b, sExt0, sExt1, sExt2, sPart0, sPart1, sPart2, sLen_lst, sLen_sl, sLen_nils, sSame_refl, decide_true, decide_false, Bool.not_true, Bool.not_false, sChk_t]
 refine F121.L1 (fun m z5 h' nx' => ∃ i : Nat, z5 = I i ∧ l.length - i = m ∧ i ≤ l.length ∧ h' = h ∧ nx' = nx ∧ ∀ e ∈ l.take i, e = 0) (m := l.length) (by omega) ⟨0, rfl, rfl, by omega, rfl, rfl, by simp⟩ ?_
 rintro m z1 z2 z5 z6 z7 _ _ R ⟨i, rfl, rfl, hi, rfl, rfl, htk⟩ hR
 simp (disch := omega) only [sAdd, sSub, sMul, sEql, sNeq, sLss, sLeq, sGtr, sGeq, sPick_t, sPick_f, sCond_t, sCond_f, sG_tt, sG_ff, sG_tf, sG_ft, sNot_b, sExt0, sExt1, sExt2, sPart0, sPart1, sPart2, sLen_lst, sLen_sl, sLen_nils, sSame_refl, decide_true, decide_false, Bool.not_true, Bool.not_false, sChk_t]
 by_cases hlt : i < l.length
 ·simp only [show (i : Int) < (l.length : Int) by omega, decide_true, sCond_t]
  have hx : l[i]? = some l[i] := List.getElem?_eq_getElem hlt
  rw [sIxL rfl hlt, ldL (getI hx)]
  simp (disch := omega) only [sAdd, sSub, sMul, sEql, sNeq, sLss, sLeq, sGtr, sGeq, sPick_t, sPick_f, sCond_t, sCond_f, sG_tt, sG_ff, sG_tf, sG_ft, sNot_b, sExt0, sExt1, sExt2, sPart0, sPart1, sPart2, sLen_lst, sLen_sl, sLen_nils, sSame_refl, decide_true, decide_false, Bool.not_true, Bool.not_false, sChk_t]
  have hd : l.drop i = l[i] :: l.drop (i + 1) := List.drop_eq_getElem_cons hlt
  by_cases h0 : l[i] = 0
  ·simp only [h0, decide_true, Bool.not_true, sCond_f]
   refine hR _ _ _ _ _ _ _ _ (by omega) ⟨i + 1, rfl, rfl, by omega, rfl, rfl, fun e he => ?_⟩
   rw [List.take_add_one, hx] at he
   rcases List.mem_append.1 he with q | q
   ·exact htk e q
   ·simp at q; rw [q]; exact h0
  ·simp only [h0, decide_false, Bool.not_false, sCond_t]
   refine hK _ ?_ hf
   rw [firstE_skip l i htk, hd, firstE, if_pos h0]
 ·simp only [show ¬ (i : Int) < (l.length : Int) by omega, decide_false, sCond_f]
  rw [F121.k8]
  refine hK _ ?_ hf
  rw [firstE_skip l i htk, List.drop_of_length_le (by omega)]; rfl
theorem equal150 {a b : List Int} (ha : a.length ≤ 1000000000) : Pure Tryz.prog B 150 [encI a, encI b] (· = .bool (decide (a = b))) := by
 intro p h nx K hK
 refine by_body tbl_ok dreg (a.length + 2) fun hf => ?_
 rw [F150.go]
 simp (disch := omega) only [sAdd, sSub, sMul, sEql, sNeq, sLss, sLeq, sGtr, sGeq, sPick_t, sPick_f, sCond_t, sCond_f, sG_tt, sG_ff, sG_tf, sG_ft, sNot_b, sExt0, sExt1, sExt2, sPart0, sPart1, sPart2, sLen_lst, sLen_sl, sLen_nils, sSame_refl, decide_true, decide_false, Bool.not_true, Bool.not_false, sChk_t]
 by_cases hl : a.length = b.length
 ·simp only [hl, decide_true, Bool.not_true, sCond_f]
  refine F150.L2 (fun m z6 h' nx' => ∃ i : Nat, z6 = I i ∧ a.length - i = m ∧ i ≤ a.length ∧ h' = h ∧ nx' = nx ∧ a.take i = b.take i) (m := a.length) (by omega) ⟨0, rfl, by simp, by omega, rfl, rfl, by simp⟩ ?_
  rintro m z2 z3 z6 z7 z8 _ _ R ⟨i, rfl, rfl, hi, rfl, rfl, htk⟩ hR
  simp (disch := omega) only [sAdd, sSub, sMul, sEql, sNeq, sLss, sLeq, sGtr, sGeq, sPick_t, sPick_f, sCond_t, sCond_f, sG_tt, sG_ff, sG_tf, sG_ft, sNot_b, sExt0, sExt1, sExt2, sPart0, sPart1, sPart2, sLen_lst, sLen_sl, sLen_nils, sSame_refl, decide_true, decide_false, Bool.not_true, Bool.not_false, sChk_t]
  by_cases hlt : i < a.length
  ·have hb : i < b.length := by omega
   simp only [show (i : Int) < (b.length : Int) by omega, decide_true, sCond_t]
   rw [sIxL rfl hlt, ldL (getI (List.getElem?_eq_getElem hlt)), sIxL rfl hb, ldL (getI (List.getElem?_eq_getElem hb))]
   simp (disch := omega) only [sAdd, sSub, sMul, sEql, sNeq, sLss, sLeq, sGtr, sGeq, sPick_t, sPick_f, sCond_t, sCond_f, sG_tt, sG_ff, sG_tf, sG_ft, sNot_b, sExt0, sExt1, sExt2, sPart0, sPart1, sPart2, sLen_lst, sLen_sl, sLen_nils, sSame_refl, decide_true, decide_false, Bool.not_true, Bool.not_false, sChk_t]
   by_cases he : a[i] = b[i]
   ·simp only [he, decide_true, Bool.not_true, sCond_f]
    refine hR (a.length - (i + 1)) _ _ _ _ _ _ _ (by omega) ⟨i + 1, rfl, rfl, by omega, rfl, rfl, ?_⟩
    rw [List.take_add_one, List.take_add_one, htk, List.getElem?_eq_getElem hlt, List.getElem?_eq_getElem hb, he]
   ·simp only [he, decide_false, Bool.not_false, sCond_t]
    refine hK _ ?_ hf
    rw [decide_eq_false]
    rintro rfl
    exact he rfl
  ·simp only [show ¬ (i : Int) < (b.length : Int) by omega, decide_false, sCond_f]
   rw [F150.k9]
   refine hK _ ?_ hf
   rw [List.take_of_length_le (by omega), List.take_of_length_le (by omega)] at htk
   rw [decide_eq_true htk]
 ·have h1 : ¬ (a.length : Int) = b.length := by omega
  simp only [h1, decide_false, Bool.not_false, sCond_t]
  refine hK _ ?_ hf
  rw [decide_eq_false]
  rintro rfl; exact hl rfl
theorem contains148 {h0 h : T Blk} {nx : Pa} {L : List Ob} {k : Nat} {x p : Pa} {l : List Int} {prev : List (List Int)} {K : Kw Prop} (H : Hp h0 h nx L) (hk : L[k]? = some (.arr x [encI l])) (hp : prev.length ≤ 1000000) (hw : ∀ q ∈ prev, q.length ≤ 1000000)
  (hK : K (.bool (decide (l ∈ prev))) h nx = .ok True) : (CS Tryz.prog B).fn 148 p [encT prev, .fn 149 (.of 149) [.ptr x 0]] h nx K = .ok True := by
 refine CS_fn_mono (p := .of 148) (K := K) (by_body tbl_ok dreg 9 fun hf => ?_) fun _ _ _ _ q => q
 rw [F148.go]
 refine CS_fn_mono (p := .of 172) (K := fun v1 h2 n3 => sBin .geq .int v1 (I 0) fun v4 => K v4 h2 n3) (by_body tbl_ok dreg 10000000 fun hf => ?_) fun _ _ _ _ q => q
 rw [F172.go]
 simp (disch := omega) only [sAdd, sSub, sMul, sEql, sNeq, sLss, sLeq, sGtr, sGeq, sPick_t, sPick_f, sCond_t, sCond_f, sG_tt, sG_ff, sG_tf, sG_ft, sNot_b, sExt0, sExt1, sExt2, sPart0, sPart1, sPart2, sLen_lst, sLen_sl, sLen_nils, sSame_refl, decide_true, decide_false, Bool.not_true, Bool.not_false, sChk_t]
 refine F172.L1 (fun m z5 h' nx' => ∃ i : Nat, z5 = I i ∧ prev.length - i = m ∧ i ≤ prev.length ∧ h' = h ∧ nx' = nx ∧ l ∉ prev.take i) (m := prev.length) (by omega) ⟨0, rfl, rfl, by omega, rfl, rfl, by simp⟩ ?_
 rintro m z2 z3 z5 z6 z7 _ _ R ⟨i, rfl, rfl, hi, rfl, rfl, htk⟩ hR
 simp (disch := omega) only [sAdd, sSub, sMul, sEql, sNeq, sLss, sLeq, sGtr, sGeq, sPick_t, sPick_f, sCond_t, sCond_f, sG_tt, sG_ff, sG_tf, sG_ft, sNot_b, sExt0, sExt1, sExt2, sPart0, sPart1, sPart2, sLen_lst, sLen_sl, sLen_nils, sSame_refl, decide_true, decide_false, Bool.not_true, Bool.not_false, sChk_t]
 by_cases hlt : i < prev.length
 ·simp only [show (i : Int) < (prev.length : Int) by omega, decide_true, sCond_t]
  have hx : prev[i]? = some prev[i] := List.getElem?_eq_getElem hlt
  rw [sIxL rfl hlt, ldL (getT hx), sCall_fn]
  refine CS_fn_mono (p := .of 149) (by_body tbl_ok dreg 9 fun hf => ?_) fun _ _ _ _ q => q
  show callFn tbl 9 _ (Pa.of 149) [encI prev[i], .ptr x 0] _ _ _ = _
  rw [F149.go, H.load (k := k) (i := 0) hk rfl]
  refine equal150 (Nat.le_trans (hw _ (List.getElem_mem hlt)) (by omega)) _ _ _ _ ?_
  rintro _ rfl _
  by_cases he : prev[i] = l
  ·simp only [he, decide_true, sCond_t, sGeq, show (0 : Int) ≤ (i : Int) by omega]
   rw [decide_eq_true (he ▸ List.getElem_mem hlt)] at hK
   exact hK
  ·simp only [he, decide_false, sCond_f]
   refine hR _ _ _ _ _ _ _ _ (by omega) ⟨i + 1, rfl, rfl, by omega, rfl, rfl, fun q => ?_⟩
   rw [List.take_add_one, hx] at q
   rcases List.mem_append.1 q with q | q
   ·exact htk q
   ·simp at q; exact he q.symm
 ·simp only [show ¬ (i : Int) < (prev.length : Int) by omega, decide_false, sCond_f]
  rw [F172.k8]
  rw [List.take_of_length_le (by omega)] at htk
  rw [decide_eq_false htk] at hK
  simp only [sGeq, show ¬ (0 : Int) ≤ -1 by omega, decide_false]
  exact hK
end Go.Ev
namespace Go.Ev
open Go Go.Proofs
variable {B : Nat}
def cellsErr (cells : Int) : Option Int → List Int → Int
 | _, [] => 0
 | p, c :: l => if c < 0 ∨ cells ≤ c then 10 else if p.any (fun q => decide (c ≤ q)) then 11 else cellsErr cells (some c) l
def lineErr (cells : Int) (prev : List (List Int)) (l : List Int) : Int := if l = [] then 12 else if cellsErr cells none l ≠ 0 then cellsErr cells none l else if l ∈ prev then 9 else 0
def linesErr (cells : Int) : List (List Int) → List (List Int) → Int
 | _, [] => 0
 | prev, l :: r => if lineErr cells prev l ≠ 0 then lineErr cells prev l else linesErr cells (prev ++ [l]) r
def sysErr (cells : Int) (lines : List (List Int)) : Int := if cells < 1 ∨ 256 < cells then 3 else if 128 < lines.length then 5 else linesErr cells [] lines
def pv (l : List Int) (k : Nat) : Option Int := if k = 0 then none else l[k - 1]?
theorem pv_succ {l : List Int} {k : Nat} (h : k < l.length) : pv l (k + 1) = some l[k] := by simp [pv, h]
theorem short25 {cells a b : Int} {lines : List (List Int)} (hb : b ≤ 1000000) : Pure Tryz.prog B 25 [.agg [I cells, encT lines], I a, I b] (· = .bool (decide ((lines.length : Int) ≤ b ∧ ∀ l ∈ lines, (l.length : Int) ≤ a))) := by
 refine pure_hp fun h nx K H0 hK => by_body tbl_ok dreg 10000000 fun hf => ?_
 rw [F25.go]
 refine H0.box (l := [I cells, encT lines]) rfl fun bx h1 nx1 H1 => ?_
 rw [sFx, H1.load (k := 0) (i := 0 + 1) rfl rfl]
 simp (disch := omega) only [sAdd, sSub, sMul, sEql, sNeq, sLss, sLeq, sGtr, sGeq, sPick_t, sPick_f, sCond_t, sCond_f, sG_tt, sG_ff, sG_tf, sG_ft, sNot_b, sExt0, sExt1, sExt2, sPart0, sPart1, sPart2, sLen_lst, sLen_sl, sLen_nils, sSame_refl, decide_true, decide_false, Bool.not_true, Bool.not_false, sChk_t]
 have ret : ∀ v : Bool, v = decide ((lines.length : Int) ≤ b ∧ ∀ l ∈ lines, (l.length : Int) ≤ a) → K (.bool v) h1 nx1 = .ok True := fun v hv => by rw [hv]; exact hK _ _ _ _ _ H1 (frz_fixd rfl) rfl
 by_cases hlen : b < (lines.length : Int)
 ·simp only [hlen, decide_true, sCond_t]
  refine ret _ ?_
  rw [decide_eq_false]
  rintro ⟨q, _⟩; omega
 simp only [hlen, decide_false, sCond_f]
 refine F25.L2 (fun m z5 h' nx' => ∃ i : Nat, z5 = I i ∧ lines.length - i = m ∧ i ≤ lines.length ∧ h' = h1 ∧ nx' = nx1 ∧ ∀ l ∈ lines.take i, (l.length : Int) ≤ a) (m := lines.length) (by omega) ⟨0, rfl, rfl, by omega, rfl, rfl, by simp⟩ ?_
 rintro m z4 z5 z7 z8 _ _ R ⟨i, rfl, rfl, hi, rfl, rfl, htk⟩ hR
 rw [sFx, H1.load (k := 0) (i := 0 + 1) rfl rfl]
 simp (disch := omega) only [sAdd, sSub, sMul, sEql, sNeq, sLss, sLeq, sGtr, sGeq, sPick_t, sPick_f, sCond_t, sCond_f, sG_tt, sG_ff, sG_tf, sG_ft, sNot_b, sExt0, sExt1, sExt2, sPart0, sPart1, sPart2, sLen_lst, sLen_sl, sLen_nils, sSame_refl, decide_true, decide_false, Bool.not_true, Bool.not_false, sChk_t]
 by_cases hlt : i < lines.length
 ·simp only [show (i : Int) < (lines.length : Int) by omega, decide_true, sCond_t]
  have hx : lines[i]? = some lines[i] := List.getElem?_eq_getElem hlt
  rw [sFx, H1.load (k := 0) (i := 0 + 1) rfl rfl, sIxL rfl hlt, ldL (getT hx)]
  simp (disch := omega) only [sAdd, sSub, sMul, sEql, sNeq, sLss, sLeq, sGtr, sGeq, sPick_t, sPick_f, sCond_t, sCond_f, sG_tt, sG_ff, sG_tf, sG_ft, sNot_b, sExt0, sExt1, sExt2, sPart0, sPart1, sPart2, sLen_lst, sLen_sl, sLen_nils, sSame_refl, decide_true, decide_false, Bool.not_true, Bool.not_false, sChk_t]
  by_cases hw : a < (lines[i].length : Int)
  ·simp only [hw, decide_true, sCond_t]
   refine ret _ ?_
   rw [decide_eq_false]
   rintro ⟨_, q⟩
   have := q _ (List.getElem_mem hlt)
   omega
  ·simp only [hw, decide_false, sCond_f]
   refine hR _ _ _ _ _ _ _ (by omega) ⟨i + 1, rfl, rfl, by omega, rfl, rfl, fun l hl => ?_⟩
   rw [List.take_add_one, hx] at hl
   rcases List.mem_append.1 hl with q | q
   ·exact htk l q
   ·simp at q; rw [q]; omega
 ·simp only [show ¬ (i : Int) < (lines.length : Int) by omega, decide_false, sCond_f]
  rw [F25.k9]
  rw [List.take_of_length_le (by omega)] at htk
  refine ret _ ?_
  rw [decide_eq_true ⟨by omega, htk⟩]
theorem hasLine84 {prev : List (List Int)} {l : List Int} (hp : prev.length ≤ 1000000) (hw : ∀ q ∈ prev, q.length ≤ 1000000000) : Pure Tryz.prog B 84 [encT prev, encI l] (· = .bool (decide (l ∈ prev))) := by
 intro p h nx K hK
 refine by_body tbl_ok dreg 10000000 fun hf => ?_
 rw [F84.go]
 refine F84.L1 (fun m z3 h' nx' => ∃ i : Nat, z3 = I i ∧ prev.length - i = m ∧ i ≤ prev.length ∧ h' = h ∧ nx' = nx ∧ l ∉ prev.take i) (m := prev.length) (by omega) ⟨0, rfl, rfl, by omega, rfl, rfl, by simp⟩ ?_
 rintro m z2 z3 z4 z5 _ _ R ⟨i, rfl, rfl, hi, rfl, rfl, htk⟩ hR
 simp (disch := omega) only [sAdd, sSub, sMul, sEql, sNeq, sLss, sLeq, sGtr, sGeq, sPick_t, sPick_f, sCond_t, sCond_f, sG_tt, sG_ff, sG_tf, sG_ft, sNot_b, sExt0, sExt1, sExt2, sPart0, sPart1, sPart2, sLen_lst, sLen_sl, sLen_nils, sSame_refl, decide_true, decide_false, Bool.not_true, Bool.not_false, sChk_t]
 by_cases hlt : i < prev.length
 ·simp only [show (i : Int) < (prev.length : Int) by omega, decide_true, sCond_t]
  have hx : prev[i]? = some prev[i] := List.getElem?_eq_getElem hlt
  rw [sIxL rfl hlt, ldL (getT hx)]
  refine sameInts35 (hw _ (List.getElem_mem hlt)) _ _ _ _ ?_
  rintro _ rfl _
  by_cases he : prev[i] = l
  ·simp only [he, decide_true, sCond_t]
   refine hK _ ?_ hf
   rw [decide_eq_true (he ▸ List.getElem_mem hlt)]
  ·simp only [he, decide_false, sCond_f]
   refine hR _ _ _ _ _ _ _ (by omega) ⟨i + 1, rfl, rfl, by omega, rfl, rfl, fun q => ?_⟩
   rw [List.take_add_one, hx] at q
   rcases List.mem_append.1 q with q | q
   ·exact htk q
   ·simp at q; exact he q.symm
 ·simp only [show ¬ (i : Int) < (prev.length : Int) by omega, decide_false, sCond_f]
  rw [F84.k8]
  rw [List.take_of_length_le (by omega)] at htk
  refine hK _ ?_ hf
  rw [decide_eq_false htk]
end Go.Ev
namespace Go.Ev
open Go Go.Proofs
variable {B : Nat}
theorem sSliceF {n i : Nat} {l : List AV} {op : AV → OP} (hn : 1 ≤ n) (hi : i ≤ n) : sSlice 1 (.lst 1 n l) none (some (I (i : Int))) none op = op (.lst 1 i (l.take i)) := by
 show (bif Nat.beq 1 1 && Nat.ble 1 n then (match bnd (some (I (i : Int))) n n with | none => Out.no 17 | some h => match bnd none h 0 with | none => .no 17 | some q => op (.lst 1 (h - q) ((l.drop (q * 1)).take ((h - q) * 1)))) else .no 17) = _
 rw [Nat.ble_eq_true_of_le hn]
 have : bnd (some (I (i : Int))) n n = some i := by
  show (bif Nat.ble i n then some i else none) = _
  rw [Nat.ble_eq_true_of_le hi]; rfl
 rw [this]
 show op (.lst 1 (i - 0) ((l.drop (0 * 1)).take ((i - 0) * 1))) = _
 simp
theorem sysErr27 {cells : Int} {lines : List (List Int)} (hw : ∀ q ∈ lines, q.length ≤ 1000000) : Pure Tryz.prog B 27 [.agg [I cells, encT lines]] (· = I (sysErr cells lines)) := by
 refine pure_hp fun h nx K H0 hK => by_body tbl_ok dreg 10000000 fun hf => ?_
 rw [F27.go]
 refine H0.box (l := [I cells, encT lines]) rfl fun bx h1 nx1 H1 => ?_
 rw [sFx, H1.load (k := 0) (i := 0) rfl rfl]
 have ret : ∀ v : Int, v = sysErr cells lines → K (I v) h1 nx1 = .ok True := fun v hv => by rw [hv]; exact hK _ _ _ _ _ H1 (frz_fixd rfl) rfl
 by_cases hc : cells < 1 ∨ 256 < cells
 ·have hv : (3 : Int) = sysErr cells lines := by rw [sysErr, if_pos hc]
  by_cases c1 : cells < 1
  ·simp only [sLss, c1, decide_true, sG_tf, sPick_t, sCond_t]
   exact ret 3 hv
  ·simp only [sLss, c1, decide_false, sG_ff]
   rw [sFx, H1.load (k := 0) (i := 0) rfl rfl]
   simp only [sGtr, show (256 : Int) < cells by omega, decide_true, sPick_f, sCond_t]
   exact ret 3 hv
 simp only [sLss, show ¬ cells < 1 by omega, decide_false, sG_ff]
 rw [sFx, H1.load (k := 0) (i := 0) rfl rfl]
 simp only [sGtr, show ¬ (256 : Int) < cells by omega, decide_false, sPick_f, sCond_f]
 rw [sFx, H1.load (k := 0) (i := 0 + 1) rfl rfl]
 simp (disch := omega) only [sAdd, sSub, sMul, sEql, sNeq, sLss, sLeq, sGtr, sGeq, sPick_t, sPick_f, sCond_t, sCond_f, sG_tt, sG_ff, sG_tf, sG_ft, sNot_b, sExt0, sExt1, sExt2, sPart0, sPart1, sPart2, sLen_lst, sLen_sl, sLen_nils, sSame_refl, decide_true, decide_false, Bool.not_true, Bool.not_false, sChk_t]
 by_cases hm : 128 < lines.length
 ·simp only [show (128 : Int) < (lines.length : Int) by omega, decide_true, sCond_t]
  exact ret 5 (by rw [sysErr, if_neg hc, if_pos hm])
 simp only [show ¬ (128 : Int) < (lines.length : Int) by omega, decide_false, sCond_f]
 have hs : sysErr cells lines = linesErr cells [] lines := by rw [sysErr, if_neg hc, if_neg hm]
 refine F27.L3 (fun m z3 h' nx' => ∃ i : Nat, z3 = I i ∧ lines.length - i = m ∧ i ≤ lines.length ∧ h' = h1 ∧ nx' = nx1 ∧ sysErr cells lines = linesErr cells (lines.take i) (lines.drop i)) (m := lines.length) (by omega) ⟨0, rfl, rfl, by omega, rfl, rfl, by simpa using hs⟩ ?_
 rintro m z2 z3 z4 z5 z8 z9 z10 z11 z12 z13 h1 nx1 R ⟨i, rfl, rfl, hi, rfl, rfl, he⟩ hR
 rw [sFx, H1.load (k := 0) (i := 0 + 1) rfl rfl]
 simp (disch := omega) only [sAdd, sSub, sMul, sEql, sNeq, sLss, sLeq, sGtr, sGeq, sPick_t, sPick_f, sCond_t, sCond_f, sG_tt, sG_ff, sG_tf, sG_ft, sNot_b, sExt0, sExt1, sExt2, sPart0, sPart1, sPart2, sLen_lst, sLen_sl, sLen_nils, sSame_refl, decide_true, decide_false, Bool.not_true, Bool.not_false, sChk_t]
 by_cases hlt : i < lines.length
 case neg =>
  simp only [show ¬ (i : Int) < (lines.length : Int) by omega, decide_false, sCond_f]
  rw [F27.k20]
  exact ret 0 (by rw [he, List.drop_of_length_le (by omega)]; rfl)
 simp only [show (i : Int) < (lines.length : Int) by omega, decide_true, sCond_t]
 obtain ⟨l, hx⟩ : ∃ l, lines[i]? = some l := ⟨_, List.getElem?_eq_getElem hlt⟩
 have hmem := List.mem_of_getElem? hx
 have hd : lines.drop i = l :: lines.drop (i + 1) := by
  rw [List.drop_eq_getElem_cons hlt]
  rw [List.getElem?_eq_getElem hlt] at hx
  rw [Option.some.inj hx]
 have htake : lines.take (i + 1) = lines.take i ++ [l] := by rw [List.take_add_one, hx]; rfl
 rw [sFx, H1.load (k := 0) (i := 0 + 1) rfl rfl, sIxL rfl hlt, ldL (getT hx)]
 simp (disch := omega) only [sAdd, sSub, sMul, sEql, sNeq, sLss, sLeq, sGtr, sGeq, sPick_t, sPick_f, sCond_t, sCond_f, sG_tt, sG_ff, sG_tf, sG_ft, sNot_b, sExt0, sExt1, sExt2, sPart0, sPart1, sPart2, sLen_lst, sLen_sl, sLen_nils, sSame_refl, decide_true, decide_false, Bool.not_true, Bool.not_false, sChk_t]
 have hlw := hw l hmem
 have hline : lineErr cells (lines.take i) l ≠ 0 → sysErr cells lines = lineErr cells (lines.take i) l := fun h => by rw [he, hd, linesErr, if_pos h]
 by_cases h0 : l.length = 0
 ·simp only [show (l.length : Int) = 0 by omega, decide_true, sCond_t]
  have hl0 : l = [] := List.eq_nil_of_length_eq_zero h0
  have e12 : lineErr cells (lines.take i) l = 12 := by rw [lineErr, if_pos hl0]
  exact ret 12 (by rw [hline (by rw [e12]; decide), e12])
 simp only [show ¬ (l.length : Int) = 0 by omega, decide_false, sCond_f]
 have hl0 : l ≠ [] := fun q => h0 (by rw [q]; rfl)
 have hcell : cellsErr cells none l ≠ 0 → sysErr cells lines = cellsErr cells none l := fun h => by
  have e : lineErr cells (lines.take i) l = cellsErr cells none l := by rw [lineErr, if_neg hl0, if_pos h]
  rw [hline (by rw [e]; exact h), e]
 refine F27.L10 (fun m z5 h' nx' => ∃ k : Nat, z5 = I k ∧ l.length - k = m ∧ k ≤ l.length ∧ h' = h1 ∧ nx' = nx1 ∧ cellsErr cells none l = cellsErr cells (pv l k) (l.drop k)) (m := l.length) (by omega) ⟨0, rfl, rfl, by omega, rfl, rfl, rfl⟩ ?_
 rintro m y2 y5 y10 y11 y12 h1 nx1 R2 ⟨k, rfl, rfl, hk, rfl, rfl, hce⟩ hR2
 simp (disch := omega) only [sAdd, sSub, sMul, sEql, sNeq, sLss, sLeq, sGtr, sGeq, sPick_t, sPick_f, sCond_t, sCond_f, sG_tt, sG_ff, sG_tf, sG_ft, sNot_b, sExt0, sExt1, sExt2, sPart0, sPart1, sPart2, sLen_lst, sLen_sl, sLen_nils, sSame_refl, decide_true, decide_false, Bool.not_true, Bool.not_false, sChk_t]
 by_cases hkt : k < l.length
 case neg =>
  simp only [show ¬ (k : Int) < (l.length : Int) by omega, decide_false, sCond_f]
  have hz : cellsErr cells none l = 0 := by rw [hce, List.drop_of_length_le (by omega)]; rfl
  rw [F27.k18, sFx, H1.load (k := 0) (i := 0 + 1) rfl rfl, sSliceF (by omega) (by omega)]
  have ep : AV.lst 1 i ((lines.map encI).take i) = encT (lines.take i) := by
   rw [← List.map_take]
   simp [encT, Nat.min_eq_left (Nat.le_of_lt hlt)]
  rw [ep]
  refine hasLine84 (by rw [List.length_take]; omega) (fun q hq => Nat.le_trans (hw q (List.mem_of_mem_take hq)) (by omega)) _ _ _ _ ?_
  rintro _ rfl _
  by_cases hin : l ∈ lines.take i
  ·simp only [hin, decide_true, sCond_t]
   have e9 : lineErr cells (lines.take i) l = 9 := by rw [lineErr, if_neg hl0, if_neg (by rw [hz]; simp), if_pos hin]
   exact ret 9 (by rw [hline (by rw [e9]; decide), e9])
  ·simp only [hin, decide_false, sCond_f]
   rw [F27.k19, sAdd (by omega)]
   have e0 : lineErr cells (lines.take i) l = 0 := by rw [lineErr, if_neg hl0, if_neg (by rw [hz]; simp), if_neg hin]
   refine hR _ _ _ _ _ _ _ _ _ _ _ _ _ (by omega) ⟨i + 1, rfl, rfl, by omega, rfl, rfl, ?_⟩
   rw [he, hd, linesErr, if_neg (by rw [e0]; simp), htake]
 simp only [show (k : Int) < (l.length : Int) by omega, decide_true, sCond_t]
 have hxk : l[k]? = some l[k] := List.getElem?_eq_getElem hkt
 have hdk : l.drop k = l[k] :: l.drop (k + 1) := List.drop_eq_getElem_cons hkt
 rw [sIxL rfl hkt, ldL (getI hxk)]
 by_cases hbad : l[k] < 0 ∨ cells ≤ l[k]
 ·have e10 : cellsErr cells none l = 10 := by rw [hce, hdk, cellsErr, if_pos hbad]
  have fin := ret 10 (by rw [hcell (by rw [e10]; decide), e10])
  by_cases hneg : l[k] < 0
  ·simp only [sLss, hneg, decide_true, sG_tf, sPick_t, sCond_t]
   exact fin
  ·simp only [sLss, hneg, decide_false, sG_ff]
   rw [sIxL rfl hkt, ldL (getI hxk), sFx, H1.load (k := 0) (i := 0) rfl rfl]
   simp only [sGeq, show cells ≤ l[k] by omega, decide_true, sPick_f, sCond_t]
   exact fin
 simp only [sLss, show ¬ l[k] < 0 by omega, decide_false, sG_ff]
 rw [sIxL rfl hkt, ldL (getI hxk), sFx, H1.load (k := 0) (i := 0) rfl rfl]
 simp only [sGeq, show ¬ cells ≤ l[k] by omega, decide_false, sPick_f, sCond_f]
 rw [F27.k16]
 have next : ∀ z12, (pv l k).any (fun q => decide (l[k] ≤ q)) = false → R2 (F27.fr (.agg [I cells, encT lines]) (.ptr bx 0) y2 (I i) (encI l) (I ((k : Int) + 1)) (.bool false) (.bool false) (.bool true) (.bool false) (.bool true) (.bool false) z12 z13) h1 nx1 = .ok True := fun z12 hany => by
  refine hR2 _ _ _ _ _ _ _ _ (by omega) ⟨k + 1, rfl, rfl, by omega, rfl, rfl, ?_⟩
  rw [hce, hdk, cellsErr, if_neg hbad, hany]
  simp [pv_succ hkt]
 by_cases hk0 : 0 < k
 ·obtain ⟨k, rfl⟩ : ∃ j, k = j + 1 := ⟨k - 1, by omega⟩
  have hk1 : k < l.length := by omega
  have hxk1 : l[k]? = some l[k] := List.getElem?_eq_getElem hk1
  simp only [sGtr, show (0 : Int) < ((k + 1 : Nat) : Int) by omega, decide_true, sG_tt]
  rw [sIxL rfl hkt, ldL (getI hxk), sSub (by omega), sIxL (i := k) (by omega) hk1, ldL (getI hxk1)]
  rw [pv_succ hk1] at next
  by_cases hle : l[k + 1] ≤ l[k]
  ·simp only [sLeq, hle, decide_true, sPick_t, sCond_t]
   have e11 : cellsErr cells none l = 11 := by rw [hce, hdk, cellsErr, if_neg hbad, pv_succ hk1, if_pos (by simp [hle])]
   exact ret 11 (by rw [hcell (by rw [e11]; decide), e11])
  ·simp only [sLeq, hle, decide_false, sPick_t, sCond_f]
   rw [F27.k17, sAdd (by omega)]
   exact next _ (by simp [hle])
 ·obtain rfl : k = 0 := by omega
  simp only [sGtr, show ¬ (0 : Int) < ((0 : Nat) : Int) by omega, decide_false, sG_ft, sPick_f, sCond_f]
  rw [F27.k17, sAdd (by omega)]
  exact next _ (by simp [pv])
end Go.Ev
namespace Go.Ev
open Go Go.Proofs
variable {B : Nat}
theorem own_plain {P : Program} {f : Nat} {p id : Pa} {h0 h : T Blk} {nx : Pa} {L : List Ob} {k : Nat} {l : List Int} {K : Kw Prop} {Q : AV → Prop} (H : Hp h0 h nx L) (hk : L[k]? = some (.arr id (l.map I))) (hq : ∀ B, Pure P B f [encI l] Q) (hpl : ∀ v, Q v → Plain v)
  (hK : ∀ v, Q v → K v h nx = .ok True) : (CS P B).fn f p [.sl id 0 l.length (some l.length) 1] h nx K = .ok True :=
 CS_plain (.cons (HasArr.frz (H.own _ (List.mem_of_getElem? hk)) (T.get_e _ id) (Nat.le_refl _) (by simp) fun v hv => by obtain ⟨x, _, rfl⟩ := List.mem_map.1 hv; rfl) .nil) (by
  have := fixd_encI l
  simp only [nns, fixd.nn this, Bool.and_self]) hq hpl fun v hv _ => hK v hv
theorem contF131 {h : T Blk} {nx : Pa} {l : List Int} {g : Nat} {p q : Pa} {cap : List AV} {pr : Int → Bool} {K : Kw Prop} (hl : l.length ≤ 1000000) (hcl : ∀ x ∈ l, ∀ K : Kw Prop, K (.bool (pr x)) h nx = .ok True → (CS Tryz.prog B).fn g q (I x :: cap) h nx K = .ok True)
  (hK : K (.bool (l.any pr)) h nx = .ok True) : (CS Tryz.prog B).fn 131 p [encI l, .fn g q cap] h nx K = .ok True := by
 refine CS_fn_mono (p := .of 131) (K := K) (by_body tbl_ok dreg 9 fun hf => ?_) fun _ _ _ _ q => q
 rw [F131.go]
 refine CS_fn_mono (p := .of 165) (K := fun v1 h2 n3 => sBin .geq .int v1 (I 0) fun v4 => K v4 h2 n3) (by_body tbl_ok dreg 10000000 fun hf => ?_) fun _ _ _ _ q => q
 rw [F165.go]
 simp (disch := omega) only [sAdd, sSub, sMul, sEql, sNeq, sLss, sLeq, sGtr, sGeq, sPick_t, sPick_f, sCond_t, sCond_f, sG_tt, sG_ff, sG_tf, sG_ft, sNot_b, sExt0, sExt1, sExt2, sPart0, sPart1, sPart2, sLen_lst, sLen_sl, sLen_nils, sSame_refl, decide_true, decide_false, Bool.not_true, Bool.not_false, sChk_t]
 refine F165.L1 (fun m z5 h' nx' => ∃ i : Nat, z5 = I i ∧ l.length - i = m ∧ i ≤ l.length ∧ h' = h ∧ nx' = nx ∧ (l.take i).any pr = false) (m := l.length) (by omega) ⟨0, rfl, rfl, by omega, rfl, rfl, by simp⟩ ?_
 rintro m z2 z3 z5 z6 z7 _ _ R ⟨i, rfl, rfl, hi, rfl, rfl, htk⟩ hR
 simp (disch := omega) only [sAdd, sSub, sMul, sEql, sNeq, sLss, sLeq, sGtr, sGeq, sPick_t, sPick_f, sCond_t, sCond_f, sG_tt, sG_ff, sG_tf, sG_ft, sNot_b, sExt0, sExt1, sExt2, sPart0, sPart1, sPart2, sLen_lst, sLen_sl, sLen_nils, sSame_refl, decide_true, decide_false, Bool.not_true, Bool.not_false, sChk_t]
 by_cases hlt : i < l.length
 ·simp only [show (i : Int) < (l.length : Int) by omega, decide_true, sCond_t]
  have hx : l[i]? = some l[i] := List.getElem?_eq_getElem hlt
  rw [sIxL rfl hlt, ldL (getI hx), sCall_fn]
  refine hcl _ (List.getElem_mem hlt) _ ?_
  cases he : pr l[i] with
  | true =>
   simp only [sCond_t, sGeq, show (0 : Int) ≤ (i : Int) by omega, decide_true]
   rw [List.any_eq_true.2 ⟨_, List.getElem_mem hlt, he⟩] at hK
   exact hK
  | false =>
   simp only [sCond_f]
   refine hR _ _ _ _ _ _ _ _ (by omega) ⟨i + 1, rfl, rfl, by omega, rfl, rfl, ?_⟩
   rw [List.take_add_one, hx, List.any_append, htk]
   simp [he]
 ·simp only [show ¬ (i : Int) < (l.length : Int) by omega, decide_false, sCond_f]
  rw [F165.k8]
  rw [List.take_of_length_le (by omega)] at htk
  rw [htk] at hK
  simp only [sGeq, show ¬ (0 : Int) ≤ -1 by omega, decide_false]
  exact hK
theorem from122 {a b : Int} {l : List Int} (hl : l.length ≤ 1000000) : Pure Tryz.prog B 122 [I a, I b, encI l] (· = I (if l.any (fun x => decide (x < a) || decide (b < x)) then 3 else 0)) := by
 refine pure_hp fun h nx K H0 hK => by_body tbl_ok dreg 1000 fun hf => ?_
 rw [F122.go]
 refine H0.box (l := [I a]) rfl fun x1 h1 nx1 H1 => ?_
 refine H1.box (l := [I b]) rfl fun x2 h2 nx2 H2 => ?_
 refine contF131 (pr := fun x => decide (x < a) || decide (b < x)) hl (fun x _ K hK => ?_) ?_
 ·refine CS_fn_mono (p := .of 147) (K := K) (by_body tbl_ok dreg 9 fun hf => ?_) fun _ _ _ _ q => q
  show callFn tbl 9 _ (Pa.of 147) [I x, .ptr x1 0, .ptr x2 0] _ _ _ = _
  rw [F147.go, H2.load (k := 1) (i := 0) rfl rfl]
  by_cases c : x < a
  ·simp only [sLss, c, decide_true, sG_tf, sPick_t]
   simpa [c] using hK
  ·simp only [sLss, c, decide_false, sG_ff]
   rw [H2.load (k := 0) (i := 0) rfl rfl]
   simp only [sGtr, sPick_f]
   simpa [c] using hK
 ·refine when123 _ _ _ _ _ _ ?_
  rintro _ rfl _
  exact hK _ _ _ _ _ H2 (frz_fixd rfl) rfl
theorem line124 {cells : Int} {lines : List (List Int)} {i : Nat} {l : List Int} (hi : lines[i]? = some l) (hn : lines.length ≤ 1000000) (hw : ∀ q ∈ lines, q.length ≤ 1000000) : Pure Tryz.prog B 124 [.agg [I cells, encT lines], I i] (· = I (lineErr cells (lines.take i) l)) := by
 refine pure_hp fun h nx K H0 hK => by_body tbl_ok dreg 10000000 fun hf => ?_
 have hlt : i < lines.length := (List.getElem?_eq_some_iff.1 hi).1
 have hlw := hw l (List.mem_of_getElem? hi)
 rw [F124.go]
 refine H0.box (l := [I cells, encT lines]) rfl fun bx h1 nx1 H1 => ?_
 rw [sFx, H1.load (k := 0) (i := 0 + 1) rfl rfl, sIxL rfl hlt, ldL (getT hi)]
 refine H1.alloc fun x h2 nx2 H2 => ?_
 refine H2.store (k := 0) rfl (by decide) rfl fun h3 H3 => ?_
 rw [H3.load (k := 0) (i := 0) rfl rfl]
 simp (disch := omega) only [sAdd, sSub, sMul, sEql, sNeq, sLss, sLeq, sGtr, sGeq, sPick_t, sPick_f, sCond_t, sCond_f, sG_tt, sG_ff, sG_tf, sG_ft, sNot_b, sExt0, sExt1, sExt2, sPart0, sPart1, sPart2, sLen_lst, sLen_sl, sLen_nils, sSame_refl, decide_true, decide_false, Bool.not_true, Bool.not_false, sChk_t]
 have ret : ∀ (v : Int) h' nx' L, v = lineErr cells (lines.take i) l → Hp h h' nx' L → K (I v) h' nx' = .ok True := fun v h' nx' L hv H' => by rw [hv]; exact hK _ _ _ _ _ H' (frz_fixd rfl) rfl
 by_cases h0 : l.length = 0
 ·simp only [show (l.length : Int) = 0 by omega, decide_true, sCond_t]
  have hl0 : l = [] := List.eq_nil_of_length_eq_zero h0
  exact ret 12 _ _ _ (by rw [lineErr, if_pos hl0]) H3
 simp only [show ¬ (l.length : Int) = 0 by omega, decide_false, sCond_f]
 have hl0 : l ≠ [] := fun q => h0 (by rw [q]; rfl)
 have hcell : cellsErr cells none l ≠ 0 → cellsErr cells none l = lineErr cells (lines.take i) l := fun h => by rw [lineErr, if_neg hl0, if_pos h]
 rw [H3.load (k := 0) (i := 0) rfl rfl]
 simp (disch := omega) only [sAdd, sSub, sMul, sEql, sNeq, sLss, sLeq, sGtr, sGeq, sPick_t, sPick_f, sCond_t, sCond_f, sG_tt, sG_ff, sG_tf, sG_ft, sNot_b, sExt0, sExt1, sExt2, sPart0, sPart1, sPart2, sLen_lst, sLen_sl, sLen_nils, sSame_refl, decide_true, decide_false, Bool.not_true, Bool.not_false, sChk_t]
 refine F124.L2 (fun m z11 h' nx' => ∃ k : Nat, z11 = I k ∧ l.length - k = m ∧ k ≤ l.length ∧ Hp h h' nx' [.arr x [encI l], .arr bx [I cells, encT lines]] ∧ cellsErr cells none l = cellsErr cells (pv l k) (l.drop k)) (m := l.length) (by omega) ⟨0, rfl, rfl, by omega, H3, rfl⟩ ?_
 rintro m z3 z5 z6 z7 z11 z12 z13 h1 nx1 R ⟨k, rfl, rfl, hk, H1, hce⟩ hR
 simp (disch := omega) only [sAdd, sSub, sMul, sEql, sNeq, sLss, sLeq, sGtr, sGeq, sPick_t, sPick_f, sCond_t, sCond_f, sG_tt, sG_ff, sG_tf, sG_ft, sNot_b, sExt0, sExt1, sExt2, sPart0, sPart1, sPart2, sLen_lst, sLen_sl, sLen_nils, sSame_refl, decide_true, decide_false, Bool.not_true, Bool.not_false, sChk_t]
 by_cases hkt : k < l.length
 case neg =>
  simp only [show ¬ (k : Int) < (l.length : Int) by omega, decide_false, sCond_f]
  have hz : cellsErr cells none l = 0 := by rw [hce, List.drop_of_length_le (by omega)]; rfl
  rw [F124.k9, sFx, H1.load (k := 1) (i := 0 + 1) rfl rfl, sSliceF (by omega) (by omega)]
  have ep : AV.lst 1 i ((lines.map encI).take i) = encT (lines.take i) := by
   rw [← List.map_take]
   simp [encT, Nat.min_eq_left (Nat.le_of_lt hlt)]
  rw [ep]
  refine contains148 H1 (k := 0) rfl (by rw [List.length_take]; omega) (fun q hq => hw q (List.mem_of_mem_take hq)) ?_
  refine when123 _ _ _ _ _ _ ?_
  rintro _ rfl _
  refine ret _ _ _ _ ?_ H1
  have e9 : lineErr cells (lines.take i) l = if l ∈ lines.take i then 9 else 0 := by rw [lineErr, if_neg hl0, if_neg (by rw [hz]; simp)]
  rw [e9]
  by_cases hin : l ∈ lines.take i <;> simp [hin]
 simp only [show (k : Int) < (l.length : Int) by omega, decide_true, sCond_t]
 have hxk : l[k]? = some l[k] := List.getElem?_eq_getElem hkt
 have hdk : l.drop k = l[k] :: l.drop (k + 1) := List.drop_eq_getElem_cons hkt
 rw [sIxL rfl hkt, ldL (getI hxk)]
 have tail : ∀ (b1 b2 : Bool) (z : AV) (z' : AV) (Z : AV → T Blk → Pa → Out Prop), b1 = (decide (l[k] < 0 ∨ cells ≤ l[k])) → b2 = (pv l k).any (fun q => decide (l[k] ≤ q)) →
   (∀ (e : Int) h' nx', e = (if l[k] < 0 ∨ cells ≤ l[k] then 10 else if (pv l k).any (fun q => decide (l[k] ≤ q)) then 11 else 0) → Hp h h' nx' [.arr x [encI l], .arr bx [I cells, encT lines]] → Z (I e) h' nx' = .ok True) →
   (CS Tryz.prog B).fn 123 (.of 123) [.bool b2, I 11] h1 nx1 (fun v22 h23 n24 => sBslice 1 2 [(I 0)] [(0, 1, I (if b1 then 10 else 0)), (1, 1, v22)] h23 n24 fun v25 h26 n27 => (CS Tryz.prog B).fn 121 (.of 121) [v25] h26 n27 Z) = .ok True := by
  intro b1 b2 z z' Z e1 e2 hZ
  refine when123 _ _ _ _ _ _ ?_
  rintro _ rfl _
  refine H1.bslice (l := [I (if b1 then 10 else 0), I (if b2 then 11 else 0)]) rfl fun id h4 nx4 H4 => ?_
  refine own_plain (l := [if b1 then 10 else 0, if b2 then 11 else 0]) H4 (k := 0) rfl (fun B => first121 (by simp)) (fun v hv => by rw [hv]; exact .int _ _) ?_
  rintro _ rfl
  refine hZ _ _ _ ?_ H4.drop
  subst e1 e2
  by_cases c1 : l[k] < 0 ∨ cells ≤ l[k]
  ·simp [c1, firstE]
  ·cases c2 : (pv l k).any (fun q => decide (l[k] ≤ q)) <;> simp [c1, firstE]
 have fin : ∀ (e : Int) h' nx', e = (if l[k] < 0 ∨ cells ≤ l[k] then 10 else if (pv l k).any (fun q => decide (l[k] ≤ q)) then 11 else 0) → Hp h h' nx' [.arr x [encI l], .arr bx [I cells, encT lines]] →
   (sBin .neq .int (I e) (I 0) fun v31 => sCond v31 (K (I e) h' nx') (R (F124.fr (.agg [I cells, encT lines]) (I i) (.ptr bx 0) z3 (.ptr x 0) (I k) (I l[k]) (I e) (.bool false) (encI l) (I l.length) (I ((k : Int) + 1)) (.bool true) v31) h' nx')) = .ok True := by
  intro e h' nx' he H'
  have hstep : cellsErr cells none l = if e ≠ 0 then e else cellsErr cells (some l[k]) (l.drop (k + 1)) := by
   rw [hce, hdk, cellsErr, he]
   by_cases c1 : l[k] < 0 ∨ cells ≤ l[k]
   ·simp [c1]
   ·cases c2 : (pv l k).any (fun q => decide (l[k] ≤ q)) <;> simp [c1]
  simp (disch := omega) only [sAdd, sSub, sMul, sEql, sNeq, sLss, sLeq, sGtr, sGeq, sPick_t, sPick_f, sCond_t, sCond_f, sG_tt, sG_ff, sG_tf, sG_ft, sNot_b, sExt0, sExt1, sExt2, sPart0, sPart1, sPart2, sLen_lst, sLen_sl, sLen_nils, sSame_refl, decide_true, decide_false, Bool.not_true, Bool.not_false, sChk_t]
  by_cases c : e = 0
  ·simp only [c, decide_true, Bool.not_true, sCond_f]
   refine hR _ _ _ _ _ _ _ _ _ _ (by omega) ⟨k + 1, rfl, rfl, by omega, H', ?_⟩
   rw [hstep, if_neg (by simp [c]), pv_succ hkt]
  ·simp only [c, decide_false, Bool.not_false, sCond_t]
   rw [if_pos c] at hstep
   exact ret _ _ _ _ (by rw [← hcell (by rw [hstep]; exact c), hstep]) H'
 have mid : ∀ b1 : Bool, b1 = decide (l[k] < 0 ∨ cells ≤ l[k]) →
   (CS Tryz.prog B).fn 123 (.of 123) [.bool b1, I 10] h1 nx1 (fun v10 h11 n12 =>
    sG (.bool (decide (0 < (k : Int)))) true (fun k => sLoad (.ptr x 0) h11 k) fun v14 => sG (.bool (decide (0 < (k : Int)))) true (fun q => q (I (k : Int))) fun v15 => sG (.bool (decide (0 < (k : Int)))) true (fun k => sBin .sub .int v15 (I 1) k) fun v16 => sG (.bool (decide (0 < (k : Int)))) true (fun k => sIaddr 1 v14 v16 k) fun v17 => sG (.bool (decide (0 < (k : Int)))) true (fun k => sLoad v17 h11 k) fun v18 =>
    sG (.bool (decide (0 < (k : Int)))) true (fun q => q (I l[k])) fun v19 => sG (.bool (decide (0 < (k : Int)))) true (fun k => sBin .geq .int v18 v19 k) fun v20 => sPick (.bool (decide (0 < (k : Int)))) v20 (.bool false) fun v21 =>
    (CS Tryz.prog B).fn 123 (.of 123) [v21, I 11] h11 n12 fun v22 h23 n24 => sBslice 1 2 [(I 0)] [(0, 1, v10), (1, 1, v22)] h23 n24 fun v25 h26 n27 => (CS Tryz.prog B).fn 121 (.of 121) [v25] h26 n27 fun v28 h29 n30 =>
    sBin .neq .int v28 (I 0) fun v31 => sCond v31 (K v28 h29 n30) (R (F124.fr (.agg [I cells, encT lines]) (I i) (.ptr bx 0) z3 (.ptr x 0) (I k) (I l[k]) v28 (.bool false) (encI l) (I l.length) (I ((k : Int) + 1)) (.bool true) v31) h29 n30)) = .ok True := by
  intro b1 e1
  refine when123 _ _ _ _ _ _ ?_
  rintro _ rfl _
  by_cases ck : 0 < k
  ·obtain ⟨k, rfl⟩ : ∃ j, k = j + 1 := ⟨k - 1, by omega⟩
   have hk1 : k < l.length := by omega
   have hxk1 : l[k]? = some l[k] := List.getElem?_eq_getElem hk1
   simp only [show (0 : Int) < ((k + 1 : Nat) : Int) by omega, decide_true, sG_tt, sPick_t]
   rw [H1.load (k := 0) (i := 0) rfl rfl, sSub (by omega), sIxL (i := k) (by omega) hk1, ldL (getI hxk1)]
   simp only [sGeq]
   exact tail _ _ .undef .undef _ e1 (by rw [pv_succ hk1]; rfl) fin
  ·obtain rfl : k = 0 := by omega
   simp only [show ¬ (0 : Int) < ((0 : Nat) : Int) by omega, decide_false, sG_ft, sPick_f]
   exact tail _ _ .undef .undef _ e1 rfl fin
 by_cases c : l[k] < 0
 ·simp only [sLss, c, decide_true, sG_tf, sPick_t]
  exact mid true (by simp [c])
 ·simp only [sLss, c, decide_false, sG_ff, sFx]
  rw [H1.load (k := 1) (i := 0) rfl rfl]
  simp only [sGeq, sPick_f]
  exact mid _ (by simp [c])
theorem sys81 {cells : Int} {lines : List (List Int)} (hw : ∀ q ∈ lines, q.length ≤ 1000000) : Pure Tryz.prog B 81 [.agg [I cells, encT lines]] (· = I (sysErr cells lines)) := by
 refine pure_hp fun h nx K H0 hK => by_body tbl_ok dreg 10000000 fun hf => ?_
 rw [F81.go]
 refine H0.box (l := [I cells, encT lines]) rfl fun bx h1 nx1 H1 => ?_
 rw [sFx, H1.load (k := 0) (i := 0) rfl rfl, sFx, H1.load (k := 0) (i := 0 + 1) rfl rfl]
 simp only [sLen_lst, sGtr]
 refine H1.bslice (l := [I cells]) rfl fun id h2 nx2 H2 => ?_
 simp only [sSame_refl, sLen_lst]
 rw [H2.load (k := 1) (i := 0 + 1) rfl rfl]
 simp only [sSame_refl, sFx]
 refine CS_plain (args' := [I 1, I 256, encI [cells]]) (.cons (.int _ _) (.cons (.int _ _) (.cons (HasArr.frz (H2.own (.arr id [I cells]) (by simp)) (T.get_e _ id) (Nat.le_refl _) rfl (fun v hv => by simp at hv; subst hv; rfl)) .nil))) rfl (fun B => from122 (l := [cells]) (by simp)) (fun v hv => by rw [hv]; exact .int _ _) ?_
 rintro _ rfl _
 rw [H2.load (k := 1) (i := 0 + 1) rfl rfl]
 simp only [sSame_refl, sLen_lst]
 refine when123 _ _ _ _ _ _ ?_
 rintro _ rfl _
 refine H2.bslice (l := [I (if [cells].any (fun x => decide (x < 1) || decide (256 < x)) then 3 else 0), I (if decide (128 < (lines.length : Int)) then 5 else 0)]) rfl fun id3 h3 nx3 H3 => ?_
 refine own_plain (l := [if [cells].any (fun x => decide (x < 1) || decide (256 < x)) then 3 else 0, if decide (128 < (lines.length : Int)) then 5 else 0]) H3 (k := 0) rfl (fun B => first121 (by simp)) (fun v hv => by rw [hv]; exact .int _ _) ?_
 rintro _ rfl
 have ret : ∀ (v : Int) h' nx' L, v = sysErr cells lines → Hp h h' nx' L → K (I v) h' nx' = .ok True := fun v h' nx' L hv H' => by rw [hv]; exact hK _ _ _ _ _ H' (frz_fixd rfl) rfl
 have ef : firstE [if [cells].any (fun x => decide (x < 1) || decide (256 < x)) then 3 else 0, if decide (128 < (lines.length : Int)) then 5 else 0] = if cells < 1 ∨ 256 < cells then 3 else if 128 < lines.length then 5 else 0 := by
  by_cases c : cells < 1 ∨ 256 < cells
  ·simp [firstE, c]
  ·by_cases c2 : 128 < lines.length
   ·have : (128 : Int) < (lines.length : Int) := by omega
    simp [firstE, c, c2, this]
   ·have : ¬ (128 : Int) < (lines.length : Int) := by omega
    simp [firstE, c, c2, this]
 rw [ef]
 simp only [sNeq]
 by_cases hc : cells < 1 ∨ 256 < cells
 ·simp only [hc, if_true]
  simp only [show ¬ (3 : Int) = 0 by omega, decide_false, Bool.not_false, sCond_t]
  exact ret 3 _ _ _ (by rw [sysErr, if_pos hc]) H3
 simp only [hc, if_false]
 by_cases hm : 128 < lines.length
 ·simp only [hm, if_true]
  simp only [show ¬ (5 : Int) = 0 by omega, decide_false, Bool.not_false, sCond_t]
  exact ret 5 _ _ _ (by rw [sysErr, if_neg hc, if_pos hm]) H3
 simp only [hm, if_false, decide_true, Bool.not_true, sCond_f]
 rw [H3.load (k := 2) (i := 0 + 1) rfl rfl]
 simp only [sLen_lst]
 have hs : sysErr cells lines = linesErr cells [] lines := by rw [sysErr, if_neg hc, if_neg hm]
 refine F81.L2 (fun m z8 h' nx' => ∃ i : Nat, z8 = I i ∧ lines.length - i = m ∧ i ≤ lines.length ∧ Hp h h' nx' [.arr bx [I cells, encT lines]] ∧ sysErr cells lines = linesErr cells (lines.take i) (lines.drop i)) (m := lines.length) (by omega) ⟨0, rfl, rfl, by omega, H3.drop.drop, by simpa using hs⟩ ?_
 rintro m z2 z4 z5 z8 z9 z10 h4 nx4 R ⟨i, rfl, rfl, hi, H4, he⟩ hR
 simp (disch := omega) only [sAdd, sSub, sMul, sEql, sNeq, sLss, sLeq, sGtr, sGeq, sPick_t, sPick_f, sCond_t, sCond_f, sG_tt, sG_ff, sG_tf, sG_ft, sNot_b, sExt0, sExt1, sExt2, sPart0, sPart1, sPart2, sLen_lst, sLen_sl, sLen_nils, sSame_refl, decide_true, decide_false, Bool.not_true, Bool.not_false, sChk_t]
 by_cases hlt : i < lines.length
 case neg =>
  simp only [show ¬ (i : Int) < (lines.length : Int) by omega, decide_false, sCond_f]
  rw [F81.k9]
  exact ret 0 _ _ _ (by rw [he, List.drop_of_length_le (by omega)]; rfl) H4
 simp only [show (i : Int) < (lines.length : Int) by omega, decide_true, sCond_t]
 obtain ⟨l, hx⟩ : ∃ l, lines[i]? = some l := ⟨_, List.getElem?_eq_getElem hlt⟩
 have hd : lines.drop i = l :: lines.drop (i + 1) := by
  rw [List.drop_eq_getElem_cons hlt]
  rw [List.getElem?_eq_getElem hlt] at hx
  rw [Option.some.inj hx]
 have htake : lines.take (i + 1) = lines.take i ++ [l] := by rw [List.take_add_one, hx]; rfl
 rw [H4.loadN (k := 0) (n := 2) rfl rfl]
 refine line124 hx (by omega) hw _ _ _ _ ?_
 rintro _ rfl _
 simp only [sNeq]
 by_cases c : lineErr cells (lines.take i) l = 0
 ·simp only [c, decide_true, Bool.not_true, sCond_f]
  refine hR _ _ _ _ _ _ _ _ _ (by omega) ⟨i + 1, rfl, rfl, by omega, H4, ?_⟩
  rw [he, hd, linesErr, if_neg (by rw [c]; simp), htake]
 ·simp only [c, decide_false, Bool.not_false, sCond_t]
  exact ret _ _ _ _ (by rw [he, hd, linesErr, if_pos c]) H4
end Go.Ev
namespace Go.Ev
def AscL (cells : Nat) (l : List Int) : Prop := l ≠ [] ∧ l.Pairwise (· < ·) ∧ ∀ c ∈ l, 0 ≤ c ∧ c < (cells : Int)
end Go.Ev
namespace Go.Ev
open Go Go.Proofs
variable {B : Nat}
theorem whenB82 (b : Bool) (e : Int) : Pure Tryz.prog B 82 [.bool b, I e] (· = I (if b then e else 0)) := by
 intro p h nx K hK
 refine by_body tbl_ok dreg 9 fun hf => ?_
 rw [F82.go]
 cases b <;> simp (disch := omega) only [sAdd, sSub, sMul, sEql, sNeq, sLss, sLeq, sGtr, sGeq, sPick_t, sPick_f, sCond_t, sCond_f, sG_tt, sG_ff, sG_tf, sG_ft, sNot_b, sExt0, sExt1, sExt2, sPart0, sPart1, sPart2, sLen_lst, sLen_sl, sLen_nils, sSame_refl, decide_true, decide_false, Bool.not_true, Bool.not_false, sChk_t] <;> exact hK _ rfl hf
theorem first80 {l : List Int} (hl : l.length ≤ 1000000) : Pure Tryz.prog B 80 [encI l] (· = I (firstE l)) := by
 intro p h nx K hK
 refine by_body tbl_ok dreg 10000000 fun hf => ?_
 rw [F80.go]
 simp (disch := omega) only [sAdd, sSub, sMul, sEql, sNeq, sLss, sLeq, sGtr, sGeq, sPick_t, sPick_f, sCond_t, sCond_f, sG_tt, sG_ff, sG_tf, sG_ft, sNot_b, sExt0, sExt1, sExt2, sPart0, sPart1, sPart2, sLen_lst, sLen_sl, sLen_nils, sSame_refl, decide_true, decide_false, Bool.not_true, Bool.not_false, sChk_t]
 refine F80.L1 (fun m z5 h' nx' => ∃ i : Nat, z5 = I i ∧ l.length - i = m ∧ i ≤ l.length ∧ h' = h ∧ nx' = nx ∧ ∀ e ∈ l.take i, e = 0) (m := l.length) (by omega) ⟨0, rfl, rfl, by omega, rfl, rfl, by simp⟩ ?_
 rintro m z1 z2 z5 z6 z7 _ _ R ⟨i, rfl, rfl, hi, rfl, rfl, htk⟩ hR
 simp (disch := omega) only [sAdd, sSub, sMul, sEql, sNeq, sLss, sLeq, sGtr, sGeq, sPick_t, sPick_f, sCond_t, sCond_f, sG_tt, sG_ff, sG_tf, sG_ft, sNot_b, sExt0, sExt1, sExt2, sPart0, sPart1, sPart2, sLen_lst, sLen_sl, sLen_nils, sSame_refl, decide_true, decide_false, Bool.not_true, Bool.not_false, sChk_t]
 by_cases hlt : i < l.length
 ·simp only [show (i : Int) < (l.length : Int) by omega, decide_true, sCond_t]
  have hx : l[i]? = some l[i] := List.getElem?_eq_getElem hlt
  rw [sIxL rfl hlt, ldL (getI hx)]
  simp (disch := omega) only [sAdd, sSub, sMul, sEql, sNeq, sLss, sLeq, sGtr, sGeq, sPick_t, sPick_f, sCond_t, sCond_f, sG_tt, sG_ff, sG_tf, sG_ft, sNot_b, sExt0, sExt1, sExt2, sPart0, sPart1, sPart2, sLen_lst, sLen_sl, sLen_nils, sSame_refl, decide_true, decide_false, Bool.not_true, Bool.not_false, sChk_t]
  have hd : l.drop i = l[i] :: l.drop (i + 1) := List.drop_eq_getElem_cons hlt
  by_cases h0 : l[i] = 0
  ·simp only [h0, decide_true, Bool.not_true, sCond_f]
   refine hR _ _ _ _ _ _ _ _ (by omega) ⟨i + 1, rfl, rfl, by omega, rfl, rfl, fun e he => ?_⟩
   rw [List.take_add_one, hx] at he
   rcases List.mem_append.1 he with q | q
   ·exact htk e q
   ·simp at q; rw [q]; exact h0
  ·simp only [h0, decide_false, Bool.not_false, sCond_t]
   refine hK _ ?_ hf
   rw [firstE_skip l i htk, hd, firstE, if_pos h0]
 ·simp only [show ¬ (i : Int) < (l.length : Int) by omega, decide_false, sCond_f]
  rw [F80.k8]
  refine hK _ ?_ hf
  rw [firstE_skip l i htk, List.drop_of_length_le (by omega)]; rfl
theorem cells_ok {cells : Int} : ∀ {l : List Int} {p : Option Int}, cellsErr cells p l = 0 → (∀ c ∈ l, 0 ≤ c ∧ c < cells) ∧ l.Pairwise (· < ·) ∧ ∀ q, p = some q → ∀ c ∈ l, q < c
 | [], _, _ => ⟨by simp, .nil, by simp⟩
 | c :: l, p, h => by
  rw [cellsErr] at h
  by_cases c1 : c < 0 ∨ cells ≤ c
  ·rw [if_pos c1] at h; cases h
  rw [if_neg c1] at h
  cases c2 : p.any (fun q => decide (c ≤ q)) with
  | true => rw [c2, if_pos rfl] at h; cases h
  | false =>
   rw [c2, if_neg (by simp)] at h
   obtain ⟨h1, h2, h3⟩ := cells_ok h
   have h4 := h3 c rfl
   refine ⟨fun x hx => ?_, List.pairwise_cons.2 ⟨h4, h2⟩, fun q hq x hx => ?_⟩
   ·rcases List.mem_cons.1 hx with rfl | hx
    ·omega
    ·exact h1 x hx
   ·subst hq
    simp at c2
    rcases List.mem_cons.1 hx with rfl | hx
    ·exact c2
    ·have := h4 x hx; omega
theorem lines_ok {cells : Int} : ∀ {ls prev : List (List Int)}, linesErr cells prev ls = 0 → ∀ l ∈ ls, l ≠ [] ∧ cellsErr cells none l = 0
 | [], _, _, l, h => by simp at h
 | a :: ls, prev, h, l, hl => by
  rw [linesErr] at h
  by_cases c : lineErr cells prev a ≠ 0
  ·rw [if_pos c] at h; exact absurd h c
  rw [if_neg c] at h
  rcases List.mem_cons.1 hl with rfl | hl
  ·have c : lineErr cells prev l = 0 := by simpa using c
   rw [lineErr] at c
   by_cases c0 : l = []
   ·rw [if_pos c0] at c; cases c
   rw [if_neg c0] at c
   refine ⟨c0, ?_⟩
   by_cases c1 : cellsErr cells none l ≠ 0
   ·rw [if_pos c1] at c; exact c
   ·simpa using c1
  ·exact lines_ok h l hl
theorem sys_ok {cells : Int} {lines : List (List Int)} (h : sysErr cells lines = 0) : ∃ n : Nat, cells = n ∧ 1 ≤ n ∧ n ≤ 256 ∧ lines.length ≤ 128 ∧ ∀ l ∈ lines, AscL n l := by
 rw [sysErr] at h
 by_cases c1 : cells < 1 ∨ 256 < cells
 ·rw [if_pos c1] at h; cases h
 rw [if_neg c1] at h
 by_cases c2 : 128 < lines.length
 ·rw [if_pos c2] at h; cases h
 rw [if_neg c2] at h
 refine ⟨cells.toNat, by omega, by omega, by omega, by omega, fun l hl => ?_⟩
 obtain ⟨h1, h2⟩ := lines_ok h l hl
 obtain ⟨h3, h4, _⟩ := cells_ok h2
 exact ⟨h1, h4, fun c hc => by have := h3 c hc; omega⟩
end Go.Ev
namespace Go.Ev
open Go Go.Proofs
variable {B : Nat}
abbrev encTT (lll : List (List (List Int))) : AV := .lst 1 lll.length (lll.map encT)
def enP (lines : List (List Int)) (i c : Nat) : List (List Int) := (lines.take i).filter fun l => decide (l.getLastD 0 = (c : Int))
def endS (n : Nat) (lines : List (List Int)) : List (List (List Int)) := (List.range n).map fun (c : Nat) => lines.filter fun l => decide (l.getLastD 0 = (c : Int))
noncomputable abbrev Le (on bx : Pa) (cells : Nat) (lines : List (List Int)) (o : Nat → Option Pa) (D : Nat → List (List Int)) : List Ob :=
 .arr on (rowL cells fun c => rowV (o c) 1 (D c).length) :: .arr bx [I cells, encT lines] :: rowL cells (fun c => Ob.gro (o c) 1 (D c).length ((D c).map encI))
theorem Le_get {on bx : Pa} {cells c : Nat} {lines : List (List Int)} {o : Nat → Option Pa} {D : Nat → List (List Int)} (hc : c < cells) : (Le on bx cells lines o D)[c + 2]? = some (.gro (o c) 1 (D c).length ((D c).map encI)) := by
 show (rowL cells _)[c]? = _
 rw [rowL_get hc]
theorem getLast_get {l : List Int} (h : 0 < l.length) : l[l.length - 1]? = some (l.getLastD 0) := by
 rw [List.getLastD_eq_getLast?, List.getLast?_eq_getElem?, List.getElem?_eq_getElem (by omega)]; rfl
theorem last_mem' : ∀ {l : List Int}, l ≠ [] → l.getLastD 0 ∈ l
 | [], h => absurd rfl h
 | a :: l, _ => by rw [List.getLastD_cons]; cases l <;> simp [List.getLastD]
theorem ended137 {cells : Nat} {lines : List (List Int)} (hcl : cells ≤ 1000) (hn : lines.length ≤ 1000) (hl : ∀ l ∈ lines, AscL cells l ∧ l.length ≤ 1000) : Pure Tryz.prog B 137 [.agg [I cells, encT lines]] (· = encTT (endS cells lines)) := by
 refine pure_hp fun h nx K H0 hK => by_body tbl_ok dreg 10000000 fun hf => ?_
 rw [F137.go]
 refine H0.box (l := [I cells, encT lines]) rfl fun bx h1 nx1 H1 => ?_
 rw [sFx, H1.load (k := 0) (i := 0) rfl rfl]
 refine H1.mk1 cells rfl rfl (by omega) (by decide) fun on h2 nx2 H2 => ?_
 rw [sFx, H2.load (k := 1) (i := 0 + 1) rfl rfl]
 simp only [sLen_lst]
 refine F137.L1 (fun m z8 h' nx' => ∃ (i : Nat) (o : Nat → Option Pa), z8 = I i ∧ lines.length - i = m ∧ i ≤ lines.length ∧ Hp h h' nx' (Le on bx cells lines o (enP lines i))) (m := lines.length) (by omega) ⟨0, fun _ => none, rfl, rfl, by omega, ?_⟩ ?_
 ·have H3 := (H2.addE (E := rowL cells fun _ => Ob.gro none 1 0 []) fun x hx => by
   obtain ⟨j, _, rfl⟩ := rowL_mem hx
   exact ⟨rfl, fun _ => ⟨rfl, rfl⟩⟩).perm List.perm_append_comm
  refine H3.cast ?_
  rw [rowL_const]; rfl
 rintro m z4 z5 z8 z9 h3 nx3 R ⟨i, o, rfl, rfl, hi, H3⟩ hR
 simp (disch := omega) only [sAdd, sSub, sMul, sEql, sNeq, sLss, sLeq, sGtr, sGeq, sPick_t, sPick_f, sCond_t, sCond_f, sG_tt, sG_ff, sG_tf, sG_ft, sNot_b, sExt0, sExt1, sExt2, sPart0, sPart1, sPart2, sLen_lst, sLen_sl, sLen_nils, sSame_refl, decide_true, decide_false, Bool.not_true, Bool.not_false, sChk_t]
 by_cases hlt : i < lines.length
 case neg =>
  simp only [show ¬ (i : Int) < (lines.length : Int) by omega, decide_false, sCond_f]
  obtain rfl : i = lines.length := by omega
  rw [F137.k8]
  have hD : ∀ c, enP lines lines.length c = lines.filter fun l => decide (l.getLastD 0 = (c : Int)) := fun c => by rw [enP, List.take_length]
  refine hK _ _ _ _ (encTT (endS cells lines)) H3 ?_ rfl
  have harr := H3.own (.arr on (rowL cells fun c => rowV (o c) 1 (enP lines lines.length c).length)) (by simp)
  have := HasArr.frzE (N := fun id => T.get Blk.no id h = .no) (O := fun v => (∃ id off, v = .ptr id off ∧ T.get Blk.no id h ≠ .no) ∨ (∃ id, v = .yld id ∧ T.get Blk.no id h ≠ .no) ∨ (∃ id, v = .map id ∧ T.get Blk.no id h ≠ .no) ∨ (∃ id off ln cap esz, v = .sl id off ln cap esz ∧ T.get Blk.no id h ≠ .no)) (cap := some cells) (e := 1) (n := cells) (l' := (endS cells lines).map encT) harr (H3.off on (by simp [Ob.names])) (Nat.le_refl _) (by simp [rowL]) (by simp [rowL, endS]) (by simp [List.all_eq_true, scal]) (fun c v v' h1 h2 => by
   have hc : c < cells := by
    have := (List.getElem?_eq_some_iff.1 h1).1
    simpa [rowL] using this
   rw [rowL_get hc] at h1
   rw [endS, List.map_map, List.getElem?_map, List.getElem?_range hc] at h2
   have h1 := Option.some.inj h1
   have h2 := Option.some.inj h2
   subst h1 h2
   have := H3.frzGro (k := c + 2) (Le_get hc) (by intro v hv; obtain ⟨x, _, rfl⟩ := List.mem_map.1 hv; exact fixd_encI x)
   rw [hD c] at this ⊢
   exact this)
  have hlen : (endS cells lines).length = cells := by simp [endS]
  show Frz True _ _ _ _ (.lst 1 (endS cells lines).length ((endS cells lines).map encT))
  rw [hlen]
  exact this
 simp only [show (i : Int) < (lines.length : Int) by omega, decide_true, sCond_t]
 obtain ⟨l, hx⟩ : ∃ l, lines[i]? = some l := ⟨_, List.getElem?_eq_getElem hlt⟩
 obtain ⟨ha, hlw⟩ := hl l (List.mem_of_getElem? hx)
 have hpos : 0 < l.length := List.length_pos_iff.2 ha.1
 obtain ⟨q1, q2⟩ := ha.2.2 _ (last_mem' ha.1)
 obtain ⟨c, hce⟩ : ∃ c : Nat, l.getLastD 0 = c := ⟨(l.getLastD 0).toNat, by omega⟩
 have hc : c < cells := by omega
 rw [sIxL rfl hlt, ldL (getT hx)]
 simp (disch := omega) only [sAdd, sSub, sMul, sEql, sNeq, sLss, sLeq, sGtr, sGeq, sPick_t, sPick_f, sCond_t, sCond_f, sG_tt, sG_ff, sG_tf, sG_ft, sNot_b, sExt0, sExt1, sExt2, sPart0, sPart1, sPart2, sLen_lst, sLen_sl, sLen_nils, sSame_refl, decide_true, decide_false, Bool.not_true, Bool.not_false, sChk_t]
 rw [sIxL (i := l.length - 1) (by omega) (by omega), ldL (getI (getLast_get hpos)), hce, sIx (i := c) rfl hc, H3.load (k := 0) rfl (rowL_get hc)]
 refine H3.bslice (l := [encI l]) rfl fun t h4 nx4 H4 => ?_
 refine H4.appN (k := c + 3) (o := o c) (c := 1) (new := [encI l]) (by exact Le_get (on := on) (bx := bx) (lines := lines) hc) (HasArr.rd (l := [encI l]) (n := 1) (H4.own _ (List.mem_cons_self ..)) rfl) rfl rfl (by decide) (by decide) ?_ fun o' h5 nx5 _ H5 => ?_
 ·have : (enP lines i c).length ≤ 1000 := by
   refine Nat.le_trans (List.length_filter_le _ _) ?_
   rw [List.length_take]; omega
  omega
 rw [sIx (i := c) rfl hc]
 refine H5.store (k := 1) rfl (by simpa using hc) (rowV_cells _ _ _) fun h6 H6 => ?_
 try rw [sAdd (by omega)]
 refine hR (lines.length - (i + 1)) _ _ _ _ _ _ (by omega) ⟨i + 1, fun p => if p = c then o' else o p, rfl, rfl, by omega, H6.drop.cast ?_⟩
 have hD : ∀ p : Nat, enP lines (i + 1) p = if p = c then enP lines i c ++ [l] else enP lines i p := fun p => by
  rw [enP, List.take_add_one, hx, List.filter_append]
  show enP lines i p ++ List.filter _ [l] = _
  rw [List.filter_cons, hce]
  by_cases e : p = c
  ·subst e; simp
  ·have : ¬ (c : Int) = (p : Int) := by omega
   simp [this, e]
 rw [show enP lines (i + 1) = _ from funext hD]
 simp only [Le, List.set_cons_succ, List.set_cons_zero, List.tail_cons]
 rw [rowL_set, rowL_set]
 congr 1
 ·congr 1
  refine rowL_congr fun p _ => ?_
  by_cases e : p = c
  ·subst e; simp
  ·simp [e]
 ·congr 1
  refine rowL_congr fun p _ => ?_
  by_cases e : p = c
  ·subst e; simp
  ·simp [e]
end Go.Ev
namespace Go.Ev
def lexLt : List Int → List Int → Bool
 | _, [] => false
 | [], _ :: _ => true
 | a :: xs, b :: ys => if a = b then lexLt xs ys else decide (a < b)
def Nrm (f : List Int) : Prop := f.Nodup ∧ ∀ x ∈ f, 1 ≤ x ∧ x ≤ (f.length : Int)
theorem sub_perm : ∀ (l r : List Int), l.Nodup → (∀ x ∈ l, x ∈ r) → ∃ s, r.Perm (l ++ s)
 | [], r, _, _ => ⟨r, .refl _⟩
 | a :: l, r, hn, hs => by
  obtain ⟨h1, h2⟩ := List.nodup_cons.1 hn
  have ha := hs a (by simp)
  obtain ⟨s, hp⟩ := sub_perm l (r.erase a) h2 fun x hx => (List.mem_erase_of_ne (by rintro rfl; exact h1 hx)).2 (hs x (by simp [hx]))
  exact ⟨s, (List.perm_cons_erase ha).trans (.cons a hp)⟩
abbrev upTo (n : Nat) : List Int := (List.range n).map fun (i : Nat) => (i : Int) + 1
theorem upTo_sorted (n : Nat) : (upTo n).Pairwise (· ≤ ·) := by
 rw [List.pairwise_map]
 exact List.pairwise_lt_range.imp (by intro a b h; omega)
theorem upTo_nodup (n : Nat) : (upTo n).Nodup := by
 rw [List.Nodup, List.pairwise_map]
 exact List.pairwise_lt_range.imp (by intro a b h; omega)
theorem nrm_iff (f : List Int) : srt f = upTo f.length ↔ Nrm f := by
 constructor
 ·intro h
  have hp : (upTo f.length).Perm f := h ▸ srt_perm f
  refine ⟨hp.nodup_iff.1 (upTo_nodup _), fun x hx => ?_⟩
  have := hp.mem_iff.2 hx
  obtain ⟨i, hi, rfl⟩ := List.mem_map.1 this
  have := List.mem_range.1 hi
  omega
 ·rintro ⟨h1, h2⟩
  obtain ⟨s, hs⟩ := sub_perm f (upTo f.length) h1 fun x hx => by
   obtain ⟨q1, q2⟩ := h2 x hx
   exact List.mem_map.2 ⟨(x - 1).toNat, List.mem_range.2 (by omega), by omega⟩
  have hl := hs.length_eq
  obtain rfl : s = [] := List.eq_nil_of_length_eq_zero (by rw [List.length_append, List.length_map, List.length_range] at hl; omega)
  rw [List.append_nil] at hs
  exact (srt_unique hs (upTo_sorted _)).symm
def Rv (l cur : List Int) (i : Nat) : Prop := cur.length = l.length ∧ ∀ t, t < l.length → cur[t]? = if t < i ∨ l.length ≤ t + i then l[l.length - 1 - t]? else l[t]?
theorem Rv.done {l cur : List Int} {i : Nat} (h : Rv l cur i) (hi : l.length ≤ 2 * i + 1) : cur = l.reverse := by
 refine List.ext_getElem? fun t => ?_
 by_cases ht : t < l.length
 ·rw [h.2 t ht, List.getElem?_reverse ht]
  by_cases c : t < i ∨ l.length ≤ t + i
  ·rw [if_pos c]
  ·rw [if_neg c, show l.length - 1 - t = t by omega]
 ·rw [List.getElem?_eq_none (by rw [h.1]; omega), List.getElem?_eq_none (by simp; omega)]
theorem Rv.step {l cur : List Int} {i j : Nat} {a b : Int} (h : Rv l cur i) (hij : i < j) (hs : i + j + 1 = l.length) (ha : cur[i]? = some a) (hb : cur[j]? = some b) : Rv l ((cur.set i b).set j a) (i + 1) := by
 obtain ⟨hl, hg⟩ := h
 refine ⟨by simp [hl], fun t ht => ?_⟩
 have e1 := hg i (by omega)
 have e2 := hg j (by omega)
 rw [if_neg (by omega), ha] at e1
 rw [if_neg (by omega), hb] at e2
 rw [List.getElem?_set, List.getElem?_set, List.length_set]
 by_cases c1 : j = t
 ·subst c1
  rw [if_pos rfl, if_pos (by omega), if_pos (by omega), show l.length - 1 - j = i by omega]
  exact e1
 ·rw [if_neg c1]
  by_cases c2 : i = t
  ·subst c2
   rw [if_pos rfl, if_pos (by omega), if_pos (by omega), show l.length - 1 - i = j by omega]
   exact e2
  ·rw [if_neg c2, hg t ht]
   by_cases c3 : t < i ∨ l.length ≤ t + i
   ·rw [if_pos c3, if_pos (by omega)]
   ·rw [if_neg c3, if_neg (by omega)]
end Go.Ev
namespace Go.Ev
def lsumZ (l f : List Int) : Int := (l.map fun c => f.getD c.toNat 0).sum
def okAt (lines : List (List Int)) (s : Int) (k : Nat) (f : List Int) : Bool := (lines.filter fun l => decide (l.getLastD 0 = (k : Int))).all fun l => decide (lsumZ l f = s)
def enumN (lines : List (List Int)) (s : Int) (n : Nat) : Nat → List Int → List (List Int)
 | 0, pre => [pre]
 | r + 1, pre => (upTo n).flatMap fun x => if x ∈ pre then [] else if okAt lines s pre.length (pre ++ [x]) then enumN lines s n r (pre ++ [x]) else []
theorem lsum_take : ∀ {l f : List Int} {m : Nat}, (∀ c ∈ l, c.toNat < m) → lsumZ l (f.take m) = lsumZ l f
 | [], _, _, _ => rfl
 | c :: l, f, m, h => by
  have ih := lsum_take (f := f) (m := m) (l := l) fun x hx => h x (by simp [hx])
  unfold lsumZ at ih ⊢
  rw [List.map_cons, List.map_cons, List.sum_cons, List.sum_cons, ih]
  have hc := h c (by simp)
  rw [List.getD_eq_getElem?_getD, List.getD_eq_getElem?_getD, List.getElem?_take, if_pos hc]
theorem lsum_snoc (l : List Int) (c : Int) (f : List Int) : lsumZ (l ++ [c]) f = lsumZ l f + f.getD c.toNat 0 := by simp [lsumZ]
theorem lsum_bd {f : List Int} {M : Nat} (h : ∀ v ∈ f, 0 ≤ v ∧ v ≤ (M : Int)) : ∀ l : List Int, 0 ≤ lsumZ l f ∧ lsumZ l f ≤ ((l.length * M : Nat) : Int)
 | [] => by simp [lsumZ]
 | c :: l => by
  have ih := lsum_bd h l
  unfold lsumZ at ih ⊢
  rw [List.map_cons, List.sum_cons, List.length_cons, Nat.add_mul]
  have : 0 ≤ f.getD c.toNat 0 ∧ f.getD c.toNat 0 ≤ (M : Int) := by
   rw [List.getD_eq_getElem?_getD]
   cases e : f[c.toNat]? with
   | none => simp
   | some v => exact h v (List.mem_of_getElem? e)
  omega
theorem le_lastZ : ∀ {l : List Int}, l.Pairwise (· < ·) → ∀ c ∈ l, c ≤ l.getLastD 0
 | [], _, c, h => by simp at h
 | [a], _, c, h => by simp at h; subst h; simp
 | a :: b :: l, hp, c, h => by
  have ih := le_lastZ (l := b :: l) (List.pairwise_cons.1 hp).2
  have e : (a :: b :: l).getLastD 0 = (b :: l).getLastD 0 := by simp [List.getLastD]
  rw [e]
  rcases List.mem_cons.1 h with q | q
  ·subst q
   have := (List.pairwise_cons.1 hp).1 b (by simp)
   have := ih b (by simp)
   omega
  ·exact ih c q
section
variable {σ α : Type}
def foldE (stp : σ → α → σ × Bool) : σ → List α → σ × Bool
 | s, [] => (s, true)
 | s, x :: l => if (stp s x).2 then foldE stp (stp s x).1 l else ((stp s x).1, false)
theorem foldE_app (stp : σ → α → σ × Bool) : ∀ (a b : List α) (s : σ), foldE stp s (a ++ b) = if (foldE stp s a).2 then foldE stp (foldE stp s a).1 b else foldE stp s a
 | [], b, s => rfl
 | x :: a, b, s => by
  rw [List.cons_append, foldE, foldE]
  cases c : (stp s x).2 with
  | true => rw [if_pos rfl, if_pos rfl]; exact foldE_app stp a b _
  | false => simp
end
theorem upTo_drop {n x : Nat} (h1 : 1 ≤ x) (h2 : x ≤ n) : (upTo n).drop (x - 1) = (x : Int) :: (upTo n).drop x := by
 have hl : (upTo n).length = n := by simp
 rw [List.drop_eq_getElem_cons (by omega), show x - 1 + 1 = x by omega]
 congr 1
 simp [upTo]; omega
end Go.Ev
namespace Go.Ev
open Go Go.Proofs
variable {B : Nat}
theorem sLoad_fp1' {h : T Blk} (a : AV) (l : List AV) (K : AV → OP) : sLoad (.fp (a :: l)) h K = K a := nr rfl
theorem sFaddr_fp {k : Nat} {l : List AV} {K : AV → OP} : sFaddr k (.fp l) K = K (.fp (l.drop k)) := nr rfl
theorem sLoadN_fp2 {a b : AV} {l : List AV} {h : T Blk} {K : AV → OP} : sLoadN 2 (.fp (a :: b :: l)) h K = K (.agg [a, b]) := nr rfl
theorem sEqlW {a b : Nat} {K : AV → OP} : sBin .eql .int (.int .u64 (a : Int)) (.int .u64 (b : Int)) K = K (.bool (decide ((a : Int) = (b : Int)))) := by
 have e : sBin .eql .int (.int .u64 (a : Int)) (.int .u64 (b : Int)) K = K (.bool (ieq (a : Int) (b : Int))) := rfl
 rw [e, ieq_eq]
 congr 2
theorem wrapI (z : Int) : IntKind.wrap .i64 z = if z % 18446744073709551616 ≥ 9223372036854775808 then z % 18446744073709551616 - 18446744073709551616 else z % 18446744073709551616 := by
 unfold IntKind.wrap
 simp [IntKind.bits, IntKind.signed]
theorem wrap_sub (a b : Int) : IntKind.wrap .i64 (IntKind.wrap .i64 a - b) = IntKind.wrap .i64 (a - b) := by
 rw [wrapI, wrapI (a - b), wrapI a]
 split <;> split <;> split <;> omega
theorem wrap_zero {a : Int} (h : -18446744073709551616 < a ∧ a < 18446744073709551616) : IntKind.wrap .i64 a = 0 ↔ a = 0 := by
 rw [wrapI]; split <;> omega
theorem sCall_yldN {P : Program} {id : Pa} {args : List AV} {h : T Blk} {nx : Pa} {K : Kw Prop} : sCall (CS P B) (.yld id) args h nx K = (CS P B).yld id args h nx K := nr rfl
section
variable {σ : Type} {h0 : T Blk} {n : Nat} {lines : List (List Int)} {s : Int} {f bu bf be bp bg : Pa} {id : Pa} {LC : Bool → σ → List Ob → Prop} {stp : σ → List Int → σ × Bool}
noncomputable abbrev cloN (n : Nat) (lines : List (List Int)) (s : Int) (bu bf be bp bg : Pa) : AV := .fn 138 (.of 138) [.fp [I n, encT lines], .ptr bg 0, .ptr bf 0, .ptr bu 0, .ptr be 0, .fp [I s], .ptr bp 0]
noncomputable abbrev Gn (n : Nat) (lines : List (List Int)) (s : Int) (f bu bf be bp bg id : Pa) (fl : List Int) (m : Nat) : List Ob :=
 [.arr f (fl.map I), .arr bu [Wd m], .arr bf [.sl f 0 n (some n) 1], .arr be [encTT (endS n lines)], .arr bp [cloN n lines s bu bf be bp bg], .arr bg [.yld id]]
def YC (B : Nat) (h0 : T Blk) (n : Nat) (lines : List (List Int)) (s : Int) (f bu bf be bp bg id : Pa) (LC : Bool → σ → List Ob → Prop) (stp : σ → List Int → σ × Bool) : Prop :=
 ∀ (st : σ) (fl : List Int) (m : Nat) (h : T Blk) (nx : Pa) (K : Kw Prop) (L : List Ob), fl.length = n → (∀ x ∈ fl, 1 ≤ x ∧ x ≤ (n : Int)) → LC true st L → Hp h0 h nx (Gn n lines s f bu bf be bp bg id fl m ++ L) → (∀ h' nx' L', LC (stp st fl).2 (stp st fl).1 L' → Hp h0 h' nx' (Gn n lines s f bu bf be bp bg id fl m ++ L') → K (.bool (stp st fl).2) h' nx' = .ok True) →
  (CS Tryz.prog B).yld id [.sl f 0 n (some n) 1] h nx K = .ok True
theorem all_congr' {α : Type} {F G : α → Bool} : ∀ {l : List α}, (∀ x ∈ l, F x = G x) → l.all F = l.all G
 | [], _ => rfl
 | a :: l, h => by rw [List.all_cons, List.all_cons, h a (by simp), all_congr' fun x hx => h x (by simp [hx])]
theorem place138 (hn9 : n ≤ 9) (hm : lines.length ≤ 1000) (hl : ∀ l ∈ lines, AscL n l ∧ l.length ≤ 1000) (hs : -9223372036854775808 ≤ s ∧ s ≤ 9223372036854775807) (hY : YC B h0 n lines s f bu bf be bp bg id LC stp) :
  ∀ (r : Nat) (pre fl : List Int) (st : σ) (p : Pa) (h : T Blk) (nx : Pa) (K : Kw Prop) (L : List Ob), pre.length + r = n → fl.length = n → fl.take pre.length = pre → (∀ v ∈ fl, 0 ≤ v ∧ v ≤ 9) → (∀ x ∈ pre, 1 ≤ x ∧ x ≤ (n : Int)) → LC true st L → Hp h0 h nx (Gn n lines s f bu bf be bp bg id fl (maskN pre) ++ L) →
   (∀ fl' h' nx' L', fl'.length = n → fl'.take pre.length = pre → (∀ v ∈ fl', 0 ≤ v ∧ v ≤ 9) → LC (foldE stp st (enumN lines s n r pre)).2 (foldE stp st (enumN lines s n r pre)).1 L' → Hp h0 h' nx' (Gn n lines s f bu bf be bp bg id fl' (maskN pre) ++ L') → K (.bool (foldE stp st (enumN lines s n r pre)).2) h' nx' = .ok True) →
   (CS Tryz.prog B).fn 138 p [I pre.length, .fp [I n, encT lines], .ptr bg 0, .ptr bf 0, .ptr bu 0, .ptr be 0, .fp [I s], .ptr bp 0] h nx K = .ok True
 | 0, pre, fl, st, p, h, nx, K, L, hr, hfl, htk, hf9, hpre, hL, H, hK => by
  refine CS_fn_mono (p := .of 138) (K := K) (by_body tbl_ok dreg 1000 fun hf => ?_) fun _ _ _ _ q => q
  rw [F138.go, sFaddr_fp]
  show (sLoad (.fp (I n :: _)) h fun v2 => _) = _
  rw [sLoad_fp1']
  simp only [sEql, show (pre.length : Int) = (n : Int) by omega, decide_true, sCond_t]
  rw [H.load (k := 5) (i := 0) rfl rfl, H.load (k := 2) (i := 0) rfl rfl, sCall_yldN]
  have e : fl = pre := by rw [← htk, List.take_of_length_le (by omega)]
  refine hY st fl (maskN pre) h nx _ L hfl (by rw [e]; exact hpre) hL H fun h' nx' L' hL' H' => ?_
  have e2 : foldE stp st (enumN lines s n 0 pre) = stp st fl := by
   rw [enumN, foldE, ← e]
   cases c : (stp st fl).2 with
   | true => rw [if_pos rfl, foldE]; rw [← c]
   | false => rw [if_neg (by simp)]; rw [← c]
  rw [e2] at hK
  exact hK fl h' nx' L' hfl htk hf9 hL' H'
 | r + 1, pre, fl, st, p, h, nx, K, L, hr, hfl, htk, hf9, hpre, hL, H, hK => by
  refine CS_fn_mono (p := .of 138) (K := K) (by_body tbl_ok dreg 1000000 fun hf => ?_) fun _ _ _ _ q => q
  rw [F138.go, sFaddr_fp]
  show (sLoad (.fp (I n :: _)) h fun v2 => _) = _
  rw [sLoad_fp1']
  simp only [sEql, show ¬ (pre.length : Int) = (n : Int) by omega, decide_false, sCond_f]
  let g : Int → List (List Int) := fun x => if x ∈ pre then [] else if okAt lines s pre.length (pre ++ [x]) then enumN lines s n r (pre ++ [x]) else []
  have hg : enumN lines s n (r + 1) pre = (upTo n).flatMap g := rfl
  have hpre0 : ∀ y ∈ pre, 0 ≤ y := fun y hy => by have := hpre y hy; omega
  have hpre60 : ∀ y ∈ pre, 0 ≤ y ∧ y ≤ 60 := fun y hy => by have := hpre y hy; omega
  refine F138.L2 (fun m z9 h' nx' => ∃ (x : Nat) (st' : σ) (fl : List Int) (L : List Ob), z9 = I x ∧ n + 1 - x = m ∧ 1 ≤ x ∧ x ≤ n + 1 ∧ foldE stp st (enumN lines s n (r + 1) pre) = foldE stp st' (((upTo n).drop (x - 1)).flatMap g) ∧ fl.length = n ∧ fl.take pre.length = pre ∧ (∀ v ∈ fl, 0 ≤ v ∧ v ≤ 9) ∧ LC true st' L ∧ Hp h0 h' nx' (Gn n lines s f bu bf be bp bg id fl (maskN pre) ++ L)) (m := n) (by omega)
   ⟨1, st, fl, L, rfl, by omega, by omega, by omega, by rw [hg]; rfl, hfl, htk, hf9, hL, H⟩ ?_
  clear hfl htk hf9 hL H
  rintro m z8 z9 z10 z11 z12 z13 z15 z16 z17 z18 z19 z20 z21 z22 z23 z24 z25 z26 h1 nx1 R ⟨x, st', fl, L, rfl, rfl, hx1, hx2, hfo, hfl, htk, hf9, hL, H⟩ hR
  rw [sFaddr_fp]
  show (sLoad (.fp (I n :: _)) h1 fun v2 => _) = _
  rw [sLoad_fp1']
  simp only [sLeq]
  by_cases hxn : x ≤ n
  case neg =>
   simp only [show ¬ (x : Int) ≤ (n : Int) by omega, decide_false, sCond_f]
   rw [F138.k26]
   have e : (upTo n).drop (x - 1) = [] := List.drop_of_length_le (by simp; omega)
   rw [e] at hfo
   rw [hfo] at hK
   exact hK fl _ _ _ hfl htk hf9 hL H
  simp only [show (x : Int) ≤ (n : Int) by omega, decide_true, sCond_t]
  have hdrop := upTo_drop hx1 hxn
  rw [hdrop, List.flatMap_cons] at hfo
  have next : ∀ z8 z10 z11 z12 z13 z15 z16 z17 z18 z19 z20 z21 z22 z23 z24 z25 z26 st2 fl2 h2 nx2 L2, foldE stp st (enumN lines s n (r + 1) pre) = foldE stp st2 (((upTo n).drop x).flatMap g) → fl2.length = n → fl2.take pre.length = pre → (∀ v ∈ fl2, 0 ≤ v ∧ v ≤ 9) → LC true st2 L2 → Hp h0 h2 nx2 (Gn n lines s f bu bf be bp bg id fl2 (maskN pre) ++ L2) →
    R (F138.fr (I pre.length) (.fp [I n, encT lines]) (.ptr bg 0) (.ptr bf 0) (.ptr bu 0) (.ptr be 0) (.fp [I s]) (.ptr bp 0) z8 (I ((x : Int) + 1)) z10 z11 z12 z13 (.bool false) z15 z16 z17 z18 z19 z20 z21 z22 z23 z24 z25 z26) h2 nx2 = .ok True :=
   fun z8 z10 z11 z12 z13 z15 z16 z17 z18 z19 z20 z21 z22 z23 z24 z25 z26 st2 fl2 h2 nx2 L2 q1 q2 q3 q4 q6 q5 =>
    hR (n + 1 - (x + 1)) _ _ _ _ _ _ _ _ _ _ _ _ _ _ _ _ _ _ _ _ (by omega) ⟨x + 1, st2, fl2, L2, rfl, rfl, by omega, by omega, by rw [Nat.add_sub_cancel]; exact q1, q2, q3, q4, q6, q5⟩
  rw [H.load (k := 1) (i := 0) rfl rfl, sShr (by omega)]
  have hml := mask_lt hpre60
  have hdl : maskN pre / 2 ^ x ≤ maskN pre := Nat.div_le_self _ _
  show (sBin .and .int (Wd (maskN pre / 2 ^ x)) (Wd 1) fun v6 => sBin .eql .int v6 (Wd 1) fun v7 => _) = _
  rw [sAndOne (by omega), sEqlW, show (((1 : Nat) : Int)) = 1 from rfl, mask_test hpre0]
  by_cases hmem : (x : Int) ∈ pre
  ·simp only [hmem, decide_true, sCond_t]
   rw [sAdd (by omega)]
   have e : g (x : Int) = [] := by show (if (x : Int) ∈ pre then [] else _) = _; rw [if_pos hmem]
   rw [e, List.nil_append] at hfo
   exact next _ _ _ _ _ _ _ _ _ _ _ _ _ _ _ _ _ _ _ _ _ _ hfo hfl htk hf9 hL H
  simp only [hmem, decide_false, sCond_f]
  rw [H.load (k := 2) (i := 0) rfl rfl, sIx (i := pre.length) rfl (by omega)]
  refine H.store (k := 0) rfl (by simp; omega) rfl fun h2 H2 => ?_
  have H2 : Hp h0 h2 nx1 (Gn n lines s f bu bf be bp bg id (fl.set pre.length x) (maskN pre) ++ L) := H2.cast (by show _ = Ob.arr f ((fl.set pre.length (x : Int)).map I) :: _; rw [List.map_set]; rfl)
  have hfl2 : (fl.set pre.length (x : Int)).length = n := by simpa using hfl
  have htk1 : (fl.set pre.length (x : Int)).take (pre.length + 1) = pre ++ [(x : Int)] := by
   rw [List.take_add_one, List.take_set_of_le (Nat.le_refl _), htk, List.getElem?_set, if_pos rfl, if_pos (by omega)]; rfl
  have htk2 : (fl.set pre.length (x : Int)).take pre.length = pre := by rw [List.take_set_of_le (Nat.le_refl _), htk]
  have hf92 : ∀ v ∈ fl.set pre.length (x : Int), 0 ≤ v ∧ v ≤ 9 := fun v hv => by
   rcases List.mem_or_eq_of_mem_set hv with q | rfl
   ·exact hf9 v q
   ·omega
  clear H hf9 htk hfl
  generalize fl.set pre.length (x : Int) = fl at *
  have hcell : pre.length < n := by omega
  have hends : (endS n lines)[pre.length]? = some (lines.filter fun l => decide (l.getLastD 0 = ((pre.length : Nat) : Int))) := by
   rw [endS, List.getElem?_map, List.getElem?_range hcell]; rfl
  have hel : (endS n lines).length = n := by simp [endS]
  have hendv : ((endS n lines).map encT)[pre.length]? = some (encT (lines.filter fun l => decide (l.getLastD 0 = ((pre.length : Nat) : Int)))) := by rw [List.getElem?_map, hends]; rfl
  rw [H2.load (k := 3) (i := 0) rfl rfl, sIxL (i := pre.length) rfl (by omega), ldL hendv]
  have hok : okAt lines s pre.length (pre ++ [(x : Int)]) = (lines.filter fun l => decide (l.getLastD 0 = ((pre.length : Nat) : Int))).all fun l => decide (lsumZ l fl = s) := by
   unfold okAt
   refine all_congr' fun l hm' => ?_
   have hml := List.mem_filter.1 hm'
   have hlast : l.getLastD 0 = ((pre.length : Nat) : Int) := of_decide_eq_true hml.2
   rw [← htk1, lsum_take (fun c hc => ?_)]
   have := le_lastZ (hl l hml.1).1.2.1 c hc
   have := ((hl l hml.1).1.2.2 c hc).1
   omega
  have hle : ∀ l ∈ (lines.filter fun l => decide (l.getLastD 0 = ((pre.length : Nat) : Int))), AscL n l ∧ l.length ≤ 1000 := fun l hm' => hl l (List.mem_filter.1 hm').1
  have hll : (lines.filter fun l => decide (l.getLastD 0 = ((pre.length : Nat) : Int))).length ≤ 1000 := Nat.le_trans (List.length_filter_le _ _) hm
  generalize (lines.filter fun l => decide (l.getLastD 0 = ((pre.length : Nat) : Int))) = es at *
  simp only [sLen_lst]
  refine F138.L9 (fun m z19 h' nx' => ∃ j : Nat, z19 = I j ∧ es.length - j = m ∧ j ≤ es.length ∧ ((es.take j).all fun l => decide (lsumZ l fl = s)) = true ∧ h' = h2 ∧ nx' = nx1) (m := es.length) (by omega) ⟨0, rfl, rfl, by omega, rfl, rfl, rfl⟩ ?_
  rintro m y10 y11 y12 y19 y20 y21 y22 y23 y24 y25 h2 nx1 R2 ⟨j, rfl, rfl, hj, hall, rfl, rfl⟩ hR2
  simp only [sLss]
  by_cases hjt : j < es.length
  ·simp only [show (j : Int) < (es.length : Int) by omega, decide_true, sCond_t]
   obtain ⟨l, hxl⟩ : ∃ l, es[j]? = some l := ⟨_, List.getElem?_eq_getElem hjt⟩
   obtain ⟨hasc, hlw⟩ := hle l (List.mem_of_getElem? hxl)
   rw [sIxL rfl hjt, ldL (getT hxl)]
   show (sLoad (.fp (I s :: _)) h2 fun v4 => _) = _
   rw [sLoad_fp1']
   simp only [sLen_lst]
   refine F138.L15 (fun m z11 z23 h' nx' => ∃ k : Nat, z23 = I k ∧ z11 = I (IntKind.wrap .i64 (s - lsumZ (l.take k) fl)) ∧ l.length - k = m ∧ k ≤ l.length ∧ h' = h2 ∧ nx' = nx1) (m := l.length) (by omega) ⟨0, rfl, by rw [show lsumZ (l.take 0) fl = 0 from rfl, Int.sub_zero, wrap64_in hs], rfl, by omega, rfl, rfl⟩ ?_
   rintro m w11 w12 w23 w24 h2 nx1 R3 ⟨k, rfl, rfl, rfl, hk, rfl, rfl⟩ hR3
   simp only [sLss]
   by_cases hkt : k < l.length
   ·simp only [show (k : Int) < (l.length : Int) by omega, decide_true, sCond_t]
    have hxk : l[k]? = some l[k] := List.getElem?_eq_getElem hkt
    obtain ⟨c0, c1⟩ := hasc.2.2 _ (List.getElem_mem hkt)
    have hv : (fl.map I)[(l[k]).toNat]? = some (I (fl.getD (l[k]).toNat 0)) := by
     rw [List.getElem?_map, List.getD_eq_getElem?_getD, List.getElem?_eq_getElem (by omega)]; rfl
    rw [sIxL rfl hkt, ldL (getI hxk), H2.load (k := 2) (i := 0) rfl rfl, sIx (i := (l[k]).toNat) (by omega) (by omega), H2.load (k := 0) rfl hv, sSubW, sAdd (by omega), wrap_sub]
    refine hR3 _ _ _ _ _ _ _ (by omega) ⟨k + 1, rfl, ?_, rfl, by omega, rfl, rfl⟩
    congr 2
    rw [List.take_add_one, hxk, Option.toList_some, lsum_snoc]; omega
   ·simp only [show ¬ (k : Int) < (l.length : Int) by omega, decide_false, sCond_f]
    rw [List.take_of_length_le (l := l) (by omega), F138.k22]
    have hb := lsum_bd (M := 9) (fun v hv => by have := hf92 v hv; omega) l
    simp only [sNeq]
    have hz := wrap_zero (a := s - lsumZ l fl) (by omega)
    by_cases hc : lsumZ l fl = s
    ·simp only [hz.2 (by omega), decide_true, Bool.not_true, sCond_f]
     rw [F138.k23, sAdd (by omega)]
     refine hR2 (es.length - (j + 1)) _ _ _ _ _ _ _ _ _ _ _ _ (by omega) ⟨j + 1, rfl, rfl, by omega, ?_, rfl, rfl⟩
     rw [List.take_add_one, hxl, List.all_append, hall]
     simp [hc]
    ·have hz2 : ¬ IntKind.wrap .i64 (s - lsumZ l fl) = 0 := fun q => hc (by have := hz.1 q; omega)
     simp only [hz2, decide_false, Bool.not_false, sCond_t]
     rw [F138.k25, sAdd (by omega)]
     have e : g (x : Int) = [] := by
      show (if (x : Int) ∈ pre then [] else if okAt lines s pre.length (pre ++ [(x : Int)]) then _ else []) = _
      rw [if_neg hmem, hok, if_neg]
      intro q
      exact hc (of_decide_eq_true (List.all_eq_true.1 q l (List.mem_of_getElem? hxl)))
     rw [e, List.nil_append] at hfo
     exact next _ _ _ _ _ _ _ _ _ _ _ _ _ _ _ _ _ _ _ _ _ _ hfo hfl2 htk2 hf92 hL H2
  ·simp only [show ¬ (j : Int) < (es.length : Int) by omega, decide_false, sCond_f]
   rw [List.take_of_length_le (by omega)] at hall
   have e : g (x : Int) = enumN lines s n r (pre ++ [(x : Int)]) := by
    show (if (x : Int) ∈ pre then [] else if okAt lines s pre.length (pre ++ [(x : Int)]) then _ else []) = _
    rw [if_neg hmem, hok, if_pos hall]
   rw [e] at hfo
   have hmx : ∀ y ∈ pre ++ [(x : Int)], 0 ≤ y ∧ y ≤ 60 := fun y hy => by
    rcases List.mem_append.1 hy with q | q
    ·exact hpre60 y q
    ·simp at q; omega
   have hp2 : 2 ^ x < 18446744073709551616 := by
    have : 2 ^ x ≤ 2 ^ 63 := Nat.pow_le_pow_right (by omega) (by omega)
    omega
   rw [F138.k24, H2.load (k := 1) (i := 0) rfl rfl]
   show (sBin .shl .int (Wd 1) (I (x : Int)) fun v2 => _) = _
   rw [sShlOne (by omega), sOrW hml hp2]
   refine H2.store (k := 1) rfl (by simp) rfl fun h3 H3 => ?_
   have e3 : maskN pre ||| 2 ^ x = maskN (pre ++ [(x : Int)]) := by rw [maskN_snoc]; rfl
   have H3 : Hp h0 h3 nx1 (Gn n lines s f bu bf be bp bg id fl (maskN (pre ++ [(x : Int)])) ++ L) := H3.cast (by rw [e3]; rfl)
   rw [H3.load (k := 4) (i := 0) rfl rfl, sAdd (by omega), sCall_fn]
   have e4 : (pre.length : Int) + 1 = (((pre ++ [(x : Int)]).length : Nat) : Int) := by simp
   rw [e4]
   refine place138 hn9 hm hl hs hY r (pre ++ [(x : Int)]) fl st' _ _ _ _ L (by simp; omega) hfl2 (by rw [List.length_append]; exact htk1) hf92 (fun y hy => by
    rcases List.mem_append.1 hy with q | q
    ·exact hpre y q
    ·simp at q; omega) hL H3 fun fl' h4 nx4 L4 hfl' htk' hf9' hL4 H4 => ?_
   rw [H4.load (k := 1) (i := 0) rfl rfl]
   show (sBin .shl .int (Wd 1) (I (x : Int)) fun v13 => _) = _
   rw [sShlOne (by omega), sAndNotW (c := maskN pre) (mask_lt hmx) hp2 hml (fun k => by
    have := mask_off hpre0 (show (0 : Int) ≤ x by omega) hmem k
    rw [Int.toNat_natCast] at this
    exact this)]
   refine H4.store (k := 1) rfl (by simp) rfl fun h5 H5 => ?_
   have H5 : Hp h0 h5 nx4 (Gn n lines s f bu bf be bp bg id fl' (maskN pre) ++ L4) := H5
   have htk3 : fl'.take pre.length = pre := by
    have := congrArg (List.take pre.length) htk'
    rw [List.take_take, List.length_append, Nat.min_eq_left (by omega), List.take_left] at this
    exact this
   rw [foldE_app] at hfo
   simp only [sNot_b]
   cases c : (foldE stp st' (enumN lines s n r (pre ++ [(x : Int)]))).2 with
   | true =>
    rw [c, if_pos rfl] at hfo
    rw [c] at hL4
    simp only [Bool.not_true, sCond_f]
    rw [F138.k25, sAdd (by omega)]
    exact next _ _ _ _ _ _ _ _ _ _ _ _ _ _ _ _ _ _ _ _ _ _ hfo hfl' htk3 hf9' hL4 H5
   | false =>
    rw [c, if_neg (by simp)] at hfo
    simp only [Bool.not_false, sCond_t]
    rw [hfo] at hK
    rw [c] at hK hL4
    exact hK fl' _ _ _ hfl' htk3 hf9' hL4 H5
theorem perm6 {α : Type} (a b c d e g : α) (L : List α) : ([a, b, c, d, e, g] ++ L).Perm ([e, b, d, c, a, g] ++ L) := by
 refine List.Perm.append_right L ?_
 have h : [0, 1, 2, 3, 4, 5].Perm [4, 1, 3, 2, 0, 5] := by decide
 exact h.map fun i => [a, b, c, d, e, g].getD i a
theorem normal107 {cells : Nat} {lines : List (List Int)} {s : Int} : Pure Tryz.prog B 107 [.agg [I cells, encT lines], I s] (· = .fn 136 (.of 136) [.fp [I cells, encT lines], .fp [I s]]) := by
 refine pure_hp fun h nx K H0 hK => by_body tbl_ok dreg 100 fun hf => ?_
 rw [F107.go]
 refine H0.box (l := [I cells, encT lines]) rfl fun b1 h1 nx1 H1 => ?_
 refine H1.box (l := [I s]) rfl fun b2 h2 nx2 H2 => ?_
 have fz : ∀ (k : Nat) (b : Pa) (l : List AV), [Ob.arr b2 [I s], Ob.arr b1 [I cells, encT lines]][k]? = some (.arr b l) → (∀ v ∈ l, fixd v = true) → FrzN h h2 (.ptr b 0) (.fp l) := fun k b l hk hl => by
  have hm := List.mem_of_getElem? hk
  obtain ⟨op, t, g1, g2⟩ := H2.own _ hm
  refine .ptr _ _ op _ t _ (H2.off b (List.mem_flatMap.2 ⟨_, hm, by simp [Ob.names]⟩)) g1 (by omega) (List.all_eq_true.2 fun v hv => fixd.scal (hl v hv)) fun i v hv => ?_
  have := rdList_get t 0 l.length i (List.getElem?_eq_some_iff.1 hv).1
  rw [g2, hv] at this
  rw [← Option.some.inj this]
  exact frz_fixd (hl v (List.mem_of_getElem? hv))
 refine hK _ _ _ _ (.fn 136 (.of 136) [.fp [I cells, encT lines], .fp [I s]]) H2 (.fn _ _ _ _ rfl fun i v v' q1 q2 => ?_) rfl
 match i with
 | 0 =>
  simp only [List.getElem?_cons_zero, Option.some.injEq] at q1 q2
  subst q1 q2
  refine fz 1 b1 _ rfl fun v hv => ?_
  simp only [List.mem_cons, List.not_mem_nil, or_false] at hv
  rcases hv with rfl | rfl
  ·rfl
  ·exact fixd_encT lines
 | 1 =>
  simp only [List.getElem?_cons_succ, List.getElem?_cons_zero, Option.some.injEq] at q1 q2
  subst q1 q2
  exact fz 0 b2 _ rfl fun v hv => by simp only [List.mem_cons, List.not_mem_nil, or_false] at hv; subst hv; rfl
 | i + 2 => simp at q1
theorem normal136 {p : Pa} {h : T Blk} {nx : Pa} {K : Kw Prop} {L : List Ob} {st : σ} (hn9 : n ≤ 9) (hm : lines.length ≤ 1000) (hl : ∀ l ∈ lines, AscL n l ∧ l.length ≤ 1000) (hs : -9223372036854775808 ≤ s ∧ s ≤ 9223372036854775807) (hY : ∀ f bu bf be bp bg, YC B h0 n lines s f bu bf be bp bg id LC stp)
  (hL : LC true st L) (H : Hp h0 h nx L) (hK : ∀ h' nx' L', LC (foldE stp st (enumN lines s n n [])).2 (foldE stp st (enumN lines s n n [])).1 L' → Hp h0 h' nx' L' → K (.tup []) h' nx' = .ok True) : (CS Tryz.prog B).fn 136 p [.yld id, .fp [I n, encT lines], .fp [I s]] h nx K = .ok True := by
 refine CS_fn_mono (p := .of 136) (K := K) (by_body tbl_ok dreg 1000 fun hf => ?_) fun _ _ _ _ q => q
 rw [F136.go]
 refine H.box (l := [.yld id]) rfl fun bg h1 nx1 H1 => ?_
 rw [sFaddr_fp]
 show (sLoad (.fp (I n :: _)) h1 fun v2 => _) = _
 rw [sLoad_fp1']
 refine H1.mk1 n rfl rfl (by omega) (by decide) fun f h2 nx2 H2 => ?_
 refine H2.alloc fun bf h3 nx3 H3 => ?_
 refine H3.store (k := 0) rfl (by decide) rfl fun h4 H4 => ?_
 rw [sLoadN_fp2]
 refine ended137 (by omega) hm hl _ _ _ _ ?_
 rintro _ rfl _
 refine H4.alloc fun be h5 nx5 H5 => ?_
 refine H5.store (k := 0) rfl (by decide) rfl fun h6 H6 => ?_
 refine H6.alloc fun bu h7 nx7 H7 => ?_
 refine H7.alloc fun bp h8 nx8 H8 => ?_
 refine H8.store (k := 0) rfl (by decide) rfl fun h9 H9 => ?_
 rw [H9.load (k := 0) (i := 0) rfl rfl, sCall_fn]
 have hz : List.replicate n (I 0) = (List.replicate n (0 : Int)).map I := by simp
 rw [hz] at H9
 have H10 : Hp h0 h9 nx8 (Gn n lines s f bu bf be bp bg id (List.replicate n 0) (maskN []) ++ L) := H9.perm (perm6 _ _ _ _ _ _ L)
 refine place138 hn9 hm hl hs (hY f bu bf be bp bg) n [] (List.replicate n 0) st _ _ _ _ L (by simp) (by simp) (by simp) (by intro v hv; simp at hv; omega) (by simp) hL H10 fun fl' h11 nx11 L' _ _ _ hL' H11 => ?_
 exact hK _ _ _ hL' H11.drop.drop.drop.drop.drop.drop
end
end Go.Ev
namespace Go.Ev
open Go Go.Proofs
variable {B : Nat}
theorem deg95 {cells : Nat} {lines : List (List Int)} (hcl : cells ≤ 256) (hn : lines.length ≤ 128) (hl : ∀ l ∈ lines, l.length ≤ 1000 ∧ ∀ c ∈ l, 0 ≤ c ∧ c < (cells : Int)) : Pure Tryz.prog B 95 [.agg [I cells, encT lines]] (· = encI (degS cells lines)) := by
 refine pure_hp fun h nx K H0 hK => by_body tbl_ok dreg 10000000 fun hf => ?_
 rw [F95.go]
 refine H0.box (l := [I cells, encT lines]) rfl fun bx h1 nx1 H1 => ?_
 rw [sFx, H1.load (k := 0) (i := 0) rfl rfl]
 refine H1.mk1 cells rfl rfl (by omega) (by decide) fun o h2 nx2 H2 => ?_
 rw [sFx, H2.load (k := 1) (i := 0 + 1) rfl rfl]
 simp only [sLen_lst]
 have hz : List.replicate cells (I 0) = (List.replicate cells (0 : Int)).map I := by simp
 rw [hz] at H2
 have hbd : ∀ i, i ≤ lines.length → Bd (degS cells (lines.take i)) (i * 1000) := fun i hi => by
  have := degS_bd (cells := cells) (W := 1000) (lines := lines.take i) fun l hm => by
   obtain ⟨q1, q2⟩ := hl l (List.mem_of_mem_take hm)
   exact ⟨q1, fun c hc => by have := q2 c hc; omega⟩
  rw [List.length_take, Nat.min_eq_left hi] at this
  exact this
 refine F95.L1 (fun m z8 h' nx' => ∃ i : Nat, z8 = I i ∧ lines.length - i = m ∧ i ≤ lines.length ∧ Hp h h' nx' [.arr o ((degS cells (lines.take i)).map I), .arr bx [I cells, encT lines]]) (m := lines.length) (by omega) ⟨0, rfl, rfl, by omega, H2⟩ ?_
 rintro m z4 z5 z8 z9 z10 z11 z12 z13 h3 nx3 R ⟨i, rfl, rfl, hi, H3⟩ hR
 simp (disch := omega) only [sAdd, sSub, sMul, sEql, sNeq, sLss, sLeq, sGtr, sGeq, sPick_t, sPick_f, sCond_t, sCond_f, sG_tt, sG_ff, sG_tf, sG_ft, sNot_b, sExt0, sExt1, sExt2, sPart0, sPart1, sPart2, sLen_lst, sLen_sl, sLen_nils, sSame_refl, decide_true, decide_false, Bool.not_true, Bool.not_false, sChk_t]
 by_cases hlt : i < lines.length
 case neg =>
  simp only [show ¬ (i : Int) < (lines.length : Int) by omega, decide_false, sCond_f]
  rw [F95.k15]
  rw [List.take_of_length_le (by omega)] at H3
  refine hK _ _ _ _ _ H3 (H3.frzArr (k := 0) rfl (Nat.le_refl _) (by simp [degS_length]) (fun v hv => by obtain ⟨x, _, rfl⟩ := List.mem_map.1 hv; rfl)) ?_
  show _ = AV.lst 1 _ _
  rw [degS_length]
 simp only [show (i : Int) < (lines.length : Int) by omega, decide_true, sCond_t]
 obtain ⟨l, hx⟩ : ∃ l, lines[i]? = some l := ⟨_, List.getElem?_eq_getElem hlt⟩
 obtain ⟨hlw, hlc⟩ := hl l (List.mem_of_getElem? hx)
 have htake : lines.take (i + 1) = lines.take i ++ [l] := by rw [List.take_add_one, hx]; rfl
 have hds : degS cells (lines.take (i + 1)) = l.foldl incr (degS cells (lines.take i)) := by rw [degS, htake, List.foldl_append]; rfl
 rw [sIxL rfl hlt, ldL (getT hx)]
 simp (disch := omega) only [sAdd, sSub, sMul, sEql, sNeq, sLss, sLeq, sGtr, sGeq, sPick_t, sPick_f, sCond_t, sCond_f, sG_tt, sG_ff, sG_tf, sG_ft, sNot_b, sExt0, sExt1, sExt2, sPart0, sPart1, sPart2, sLen_lst, sLen_sl, sLen_nils, sSame_refl, decide_true, decide_false, Bool.not_true, Bool.not_false, sChk_t]
 refine F95.L7 (fun m z12 h' nx' => ∃ k : Nat, z12 = I k ∧ l.length - k = m ∧ k ≤ l.length ∧ Hp h h' nx' [.arr o (((l.take k).foldl incr (degS cells (lines.take i))).map I), .arr bx [I cells, encT lines]]) (m := l.length) (by omega) ⟨0, rfl, rfl, by omega, H3⟩ ?_
 rintro m y5 y12 y13 h4 nx4 R2 ⟨k, rfl, rfl, hk, H4⟩ hR2
 simp (disch := omega) only [sAdd, sSub, sMul, sEql, sNeq, sLss, sLeq, sGtr, sGeq, sPick_t, sPick_f, sCond_t, sCond_f, sG_tt, sG_ff, sG_tf, sG_ft, sNot_b, sExt0, sExt1, sExt2, sPart0, sPart1, sPart2, sLen_lst, sLen_sl, sLen_nils, sSame_refl, decide_true, decide_false, Bool.not_true, Bool.not_false, sChk_t]
 by_cases hkt : k < l.length
 case neg =>
  simp only [show ¬ (k : Int) < (l.length : Int) by omega, decide_false, sCond_f]
  rw [F95.k14]
  try rw [sAdd (by omega)]
  rw [List.take_of_length_le (l := l) (by omega), ← hds] at H4
  exact hR _ _ _ _ _ _ _ _ _ _ _ (by omega) ⟨i + 1, rfl, rfl, by omega, H4⟩
 simp only [show (k : Int) < (l.length : Int) by omega, decide_true, sCond_t]
 have hxk : l[k]? = some l[k] := List.getElem?_eq_getElem hkt
 obtain ⟨c0, c1⟩ := hlc _ (List.getElem_mem hkt)
 have hlen : ((l.take k).foldl incr (degS cells (lines.take i))).length = cells := by rw [foldl_incr_length, degS_length]
 have hbk : Bd ((l.take k).foldl incr (degS cells (lines.take i))) (i * 1000 + 1000) := (hbd i hi).line (fun c hc => by rw [degS_length]; have := hlc c (List.mem_of_mem_take hc); omega) (by rw [List.length_take]; omega)
 have hfd : (l.take (k + 1)).foldl incr (degS cells (lines.take i)) = incr ((l.take k).foldl incr (degS cells (lines.take i))) l[k] := by
  rw [List.take_add_one, hxk, List.foldl_append]; rfl
 generalize hd : (l.take k).foldl incr (degS cells (lines.take i)) = d at *
 have hv : (d.map I)[(l[k]).toNat]? = some (I (d.getD (l[k]).toNat 0)) := by
  rw [List.getElem?_map, List.getD_eq_getElem?_getD, List.getElem?_eq_getElem (by omega)]; rfl
 have hvb : 0 ≤ d.getD (l[k]).toNat 0 ∧ d.getD (l[k]).toNat 0 ≤ ((i * 1000 + 1000 : Nat) : Int) := by
  rw [List.getD_eq_getElem?_getD, List.getElem?_eq_getElem (by omega)]
  exact hbk _ (List.getElem_mem _)
 rw [sIxL rfl hkt, ldL (getI hxk), sIx (i := (l[k]).toNat) (by omega) (by omega), H4.load (k := 0) rfl hv, sAdd (by omega), sIx (i := (l[k]).toNat) (by omega) (by omega)]
 refine H4.store (k := 0) rfl (by simp; omega) rfl fun h5 H5 => ?_
 refine hR2 _ _ _ _ _ _ (by omega) ⟨k + 1, rfl, rfl, by omega, H5.cast ?_⟩
 rw [hfd, incr, List.map_set]; rfl
end Go.Ev
namespace Go.Ev
open Go Go.Proofs
variable {B : Nat}
end Go.Ev
namespace Go.Ev
open Go Go.Proofs
variable {B : Nat}
theorem sLoad_fp1 {h : T Blk} (a : AV) (l : List AV) (K : AV → OP) : sLoad (.fp (a :: l)) h K = K a := nr rfl
theorem sCall_yld {P : Program} {id : Pa} {args : List AV} {h : T Blk} {nx : Pa} {K : Kw Prop} : sCall (CS P B) (.yld id) args h nx K = (CS P B).yld id args h nx K := nr rfl
theorem iter153 {h : T Blk} {nx : Pa} {p id : Pa} {l : List Int} {K : Kw Prop} (J : Nat → T Blk → Pa → Prop) (hl : l.length ≤ 1000000) (hJ : J 0 h nx)
  (step : ∀ (i : Nat) (x : Int) (h : T Blk) (nx : Pa) (K : Kw Prop), l[i]? = some x → J i h nx → Fr h nx → (∀ h' nx', J (i + 1) h' nx' → K (.bool true) h' nx' = .ok True) → (CS Tryz.prog B).yld id [I x] h nx K = .ok True)
  (fr : ∀ i h nx, J i h nx → Fr h nx) (hK : ∀ h' nx', J l.length h' nx' → K (.tup []) h' nx' = .ok True) : (CS Tryz.prog B).fn 153 p [.yld id, .fp [encI l]] h nx K = .ok True := by
 refine CS_fn_mono (p := .of 153) (K := K) (by_body tbl_ok dreg 10000000 fun hf => ?_) fun _ _ _ _ q => q
 rw [F153.go, sLoad_fp1]
 simp only [sLen_lst]
 refine F153.L1 (fun m z5 h' nx' => ∃ i : Nat, z5 = I i ∧ l.length - i = m ∧ i ≤ l.length ∧ J i h' nx') (m := l.length) (by omega) ⟨0, rfl, rfl, by omega, hJ⟩ ?_
 rintro m z2 z5 z6 z7 h1 nx1 R ⟨i, rfl, rfl, hi, hJ1⟩ hR
 simp (disch := omega) only [sAdd, sSub, sMul, sEql, sNeq, sLss, sLeq, sGtr, sGeq, sPick_t, sPick_f, sCond_t, sCond_f, sG_tt, sG_ff, sG_tf, sG_ft, sNot_b, sExt0, sExt1, sExt2, sPart0, sPart1, sPart2, sLen_lst, sLen_sl, sLen_nils, sSame_refl, decide_true, decide_false, Bool.not_true, Bool.not_false, sChk_t]
 by_cases hlt : i < l.length
 ·simp only [show (i : Int) < (l.length : Int) by omega, decide_true, sCond_t]
  have hx : l[i]? = some l[i] := List.getElem?_eq_getElem hlt
  rw [sIxL rfl hlt, ldL (getI hx), sCall_yld]
  refine step i _ _ _ _ hx hJ1 (fr _ _ _ hJ1) fun h2 nx2 hJ2 => ?_
  simp only [sNot_b, Bool.not_true, sCond_f]
  try rw [sAdd (by omega)]
  exact hR _ _ _ _ _ _ _ (by omega) ⟨i + 1, rfl, rfl, by omega, hJ2⟩
 ·simp only [show ¬ (i : Int) < (l.length : Int) by omega, decide_false, sCond_f]
  obtain rfl : i = l.length := by omega
  exact hK _ _ hJ1
theorem Hp.addGro {h0 h : T Blk} {nx : Pa} {L : List Ob} (H : Hp h0 h nx L) (e : Nat) : Hp h0 h nx (.gro none e 0 [] :: L) :=
  ⟨H.keep, fun x hx => by rcases List.mem_cons.1 hx with rfl | q; · exact ⟨rfl, rfl⟩
                          · exact H.own x q, fun n hn => H.off n (by simpa [Ob.names] using hn), by have := H.nd; simpa [Ob.names] using this, H.fr⟩
theorem getLoop {h0 h : T Blk} {nx : Pa} {L : List Ob} {id : Pa} {b : Blk} {k : Nat} (H : Hp h0 h nx L) (hk : L[k]? = some (.raw id b)) : T.get .no id h = b := (H.own _ (List.mem_of_getElem? hk)).1
theorem Hp.setRaw {h0 h : T Blk} {nx : Pa} {L : List Ob} {id : Pa} {b b' : Blk} {k : Nat} (H : Hp h0 h nx L) (hk : L[k]? = some (.raw id b)) (hb : b' ≠ .no) : Hp h0 (T.set .no b' id h) nx (L.set k (.raw id b')) :=
 H.upd hk (by simp [Ob.names]) rfl ⟨T.get_set_same _ _ _ _, hb⟩
theorem append173 {h0 h : T Blk} {nx : Pa} {L : List Ob} {p q : Pa} {l : List Int} {K : Kw Prop} (hl : l.length ≤ 100000) (H : Hp h0 h nx L)
  (hK : ∀ o h' nx', Hp h0 h' nx' (.gro o 1 l.length (l.map I) :: L) → K (rowV o 1 l.length) h' nx' = .ok True) : (CS Tryz.prog B).fn 173 p [.nils, .fn 153 q [.fp [encI l]]] h nx K = .ok True := by
 refine CS_fn_mono (p := .of 173) (K := K) (by_body tbl_ok dreg 10000000 fun hf => ?_) fun _ _ _ _ q => q
 rw [F173.go]
 refine H.box (l := [.nils]) rfl fun bx h1 nx1 H1 => ?_
 refine H1.rf (g := 153) (p := q) (cap := [.fp [encI l]]) rfl fun id h2 nx2 H2 => ?_
 refine iter153 (fun i h' nx' => ∃ o, Hp h0 h' nx' (.raw id (.loop .ready .none (F173.fr .nils (.fn 153 q [.fp [encI l]]) (.ptr bx 0) .nils .undef (.fn 153 q [.fp [encI l]]) .undef) [.of 6] F173.b3 F173.b4) :: .arr bx [rowV o 1 i] :: .gro o 1 i ((l.take i).map I) :: L)) (by omega) ⟨none, ?_⟩ ?_ (fun _ _ _ ⟨_, q⟩ => q.fr) ?_
 ·have := H2.addGro 1
  exact this.perm ((List.Perm.swap _ _ _).trans (.cons _ (.swap _ _ _)))
 ·rintro i x h3 nx3 K3 hx ⟨o, H3⟩ _ hnext
  have hi : i < l.length := (List.getElem?_eq_some_iff.1 hx).1
  refine by_round (fns := tbl) dreg 100 fun hf => ?_
  rw [F173.y4 (getLoop H3 (k := 0) rfl) rfl]
  have H4 := H3.setRaw (k := 0) rfl (b' := .loop .busy .none (F173.fr .nils (.fn 153 q [.fp [encI l]]) (.ptr bx 0) .nils .undef (.fn 153 q [.fp [encI l]]) .undef) [.of 6] F173.b3 F173.b4) (by intro e; cases e)
  rw [H4.load (k := 1) (i := 0) rfl rfl]
  refine H4.bslice (l := [I x]) rfl fun e5 h5 nx5 H5 => ?_
  refine H5.appN (k := 3) (o := o) (c := 1) (new := [I x]) rfl (HasArr.rd (l := [I x]) (n := 1) (H5.own _ (List.mem_cons_self ..)) rfl) rfl rfl (by decide) (by decide) (by omega) fun o' h6 nx6 ho H6 => ?_
  refine H6.store (k := 2) rfl (by simp) (rowV_cells _ _ _) fun h7 H7 => ?_
  refine H7.rend (k := 1) rfl fun h8 H8 => ?_
  refine hnext _ _ ⟨o', (H8.drop).cast ?_⟩
  have e1 : (l.take (i + 1)).map I = (l.take i).map I ++ [I x] := by rw [List.take_add_one, hx]; simp
  rw [e1]; rfl
 ·rintro h3 nx3 ⟨o, H3⟩
  rw [List.take_length] at H3
  refine H3.rfEnd fun h4 H4 => ?_
  rw [rfEnd_on, F173.k6, H4.load (k := 0) (i := 0) rfl rfl]
  exact hK _ _ _ H4.drop
theorem values126 {l : List Int} : Pure Tryz.prog B 126 [encI l] (· = .fn 153 (.of 153) [.fp [encI l]]) := by
 refine pure_hp fun h nx K H0 hK => by_body tbl_ok dreg 10000000 fun hf => ?_
 rw [F126.go]
 refine H0.box (l := [encI l]) rfl fun bx h1 nx1 H1 => ?_
 obtain ⟨op, t, g1, g2⟩ : HasArr h1 bx [encI l] := H1.own _ (List.mem_cons_self ..)
 refine hK _ _ _ _ (.fn 153 (.of 153) [.fp [encI l]]) H1 (.fn _ _ _ _ rfl fun i v v' h2 h3 => ?_) rfl
 match i with
 | 0 =>
  simp only [List.getElem?_cons_zero, Option.some.injEq] at h2 h3
  subst h2 h3
  refine .ptr _ _ op _ t _ (H1.off bx (by simp [Ob.names])) g1 (by simp) (by simp [scal]) fun i v hv => ?_
  match i with
  | 0 =>
   simp only [List.getElem?_cons_zero, Option.some.injEq] at hv
   subst hv
   have := rdList_get t 0 1 0 (by omega)
   have g2 : rdList t 0 1 = [encI l] := g2
   rw [g2] at this
   simp only [List.getElem?_cons_zero, Option.some.injEq] at this
   rw [← this]
   exact frz_fixd (fixd_encI l)
  | i + 1 => simp at hv
 | i + 1 => simp at h2
end Go.Ev
namespace Go.Ev
open Go Go.Proofs
variable {B : Nat}
def smErr (cells : Int) (lines : List (List Int)) : Int := firstE [sysErr cells lines, if 9 < cells then 20 else 0]
theorem small106 {cells : Int} {lines : List (List Int)} (hw : ∀ q ∈ lines, q.length ≤ 1000000) : Pure Tryz.prog B 106 [.agg [I cells, encT lines]] (· = I (smErr cells lines)) := by
 refine pure_hp fun h nx K H0 hK => by_body tbl_ok dreg 1000 fun hf => ?_
 rw [F106.go]
 refine H0.box (l := [I cells, encT lines]) rfl fun bx h1 nx1 H1 => ?_
 rw [H1.loadN (k := 0) (n := 2) rfl rfl, sFx, H1.load (k := 0) (i := 0) rfl rfl]
 simp only [sGtr]
 refine sys81 hw _ _ _ _ ?_
 rintro _ rfl _
 simp only [sSame_refl, sFx]
 rw [H1.load (k := 0) (i := 0) rfl rfl]
 simp only [sSame_refl]
 refine whenB82 _ _ _ _ _ _ ?_
 rintro _ rfl _
 refine H1.bslice (l := [I (sysErr cells lines), I (if decide (9 < cells) then 20 else 0)]) rfl fun id h4 nx4 H4 => ?_
 refine own_plain (l := [sysErr cells lines, if decide (9 < cells) then 20 else 0]) H4 (k := 0) rfl (fun B => first80 (by simp)) (fun v hv => by rw [hv]; exact .int _ _) ?_
 rintro _ rfl
 refine hK _ _ _ _ _ H4 (frz_fixd rfl) ?_
 simp only [smErr, decide_eq_true_eq]
theorem smErr_eq (cells : Int) (lines : List (List Int)) : smErr cells lines = if sysErr cells lines ≠ 0 then sysErr cells lines else if 9 < cells then 20 else 0 := by
 by_cases c : sysErr cells lines = 0
 ·by_cases c2 : 9 < cells <;> simp [smErr, firstE, c, c2]
 ·simp [smErr, firstE, c]
end Go.Ev
namespace Go.Ev
def agrZ (lines : List (List Int)) (s : Int) (f : List Int) : Bool := lines.all fun l => decide ((f.length : Int) ≤ l.getLastD 0) || decide (lsumZ l f = s)
def enumR (lines : List (List Int)) (s : Int) (n : Nat) : Nat → List Int → List (List Int)
 | 0, pre => if agrZ lines s pre then [pre] else []
 | r + 1, pre => if agrZ lines s pre then (upTo n).flatMap fun x => if x ∈ pre then [] else enumR lines s n r (pre ++ [x]) else []
theorem agr_snoc {n : Nat} {lines : List (List Int)} {s : Int} {pre : List Int} {x : Int} (hl : ∀ l ∈ lines, AscL n l) : agrZ lines s (pre ++ [x]) = (agrZ lines s pre && okAt lines s pre.length (pre ++ [x])) := by
 rw [Bool.eq_iff_iff]
 simp only [agrZ, okAt, Bool.and_eq_true, List.all_eq_true, Bool.or_eq_true, decide_eq_true_eq, List.mem_filter]
 have key : ∀ l ∈ lines, l.getLastD 0 < (pre.length : Int) → lsumZ l (pre ++ [x]) = lsumZ l pre := fun l hm hlt => by
  have : (pre ++ [x]).take pre.length = pre := by simp
  rw [← lsum_take (f := pre ++ [x]) (m := pre.length), this]
  intro c hc
  have := le_lastZ (hl l hm).2.1 c hc
  have := ((hl l hm).2.2 c hc).1
  omega
 constructor
 ·intro h
  refine ⟨fun l hm => ?_, fun l ⟨hm, he⟩ => ?_⟩
  ·by_cases c : (pre.length : Int) ≤ l.getLastD 0
   ·exact .inl c
   ·refine .inr ?_
    rw [← key l hm (by omega)]
    rcases h l hm with q | q
    ·simp only [List.length_append, List.length_cons, List.length_nil] at q; omega
    ·exact q
  ·rcases h l hm with q | q
   ·simp only [List.length_append, List.length_cons, List.length_nil] at q; omega
   ·exact q
 ·rintro ⟨h1, h2⟩ l hm
  by_cases c : ((pre ++ [x]).length : Int) ≤ l.getLastD 0
  ·exact .inl c
  ·refine .inr ?_
   simp only [List.length_append, List.length_cons, List.length_nil] at c
   by_cases e : l.getLastD 0 = (pre.length : Int)
   ·exact h2 l ⟨hm, e⟩
   ·rw [key l hm (by omega)]
    rcases h1 l hm with q | q
    ·omega
    ·exact q
theorem flatMap_cong {α β : Type} {f g : α → List β} : ∀ {l : List α}, (∀ x ∈ l, f x = g x) → l.flatMap f = l.flatMap g
 | [], _ => rfl
 | a :: l, h => by rw [List.flatMap_cons, List.flatMap_cons, h a (by simp), flatMap_cong fun x hx => h x (by simp [hx])]
theorem enum_eq {n : Nat} {lines : List (List Int)} {s : Int} (hl : ∀ l ∈ lines, AscL n l) : ∀ (r : Nat) (pre : List Int), enumR lines s n r pre = if agrZ lines s pre then enumN lines s n r pre else []
 | 0, pre => rfl
 | r + 1, pre => by
  rw [enumR]
  cases c : agrZ lines s pre with
  | false => rfl
  | true =>
   rw [if_pos rfl, if_pos rfl, enumN]
   refine flatMap_cong fun x _ => ?_
   by_cases h : x ∈ pre
   ·rw [if_pos h, if_pos h]
   ·rw [if_neg h, if_neg h, enum_eq hl r (pre ++ [x]), agr_snoc hl, c, Bool.true_and]
theorem agr_nil {n : Nat} {lines : List (List Int)} {s : Int} (hl : ∀ l ∈ lines, AscL n l) : agrZ lines s [] = true := by
 simp only [agrZ, List.all_eq_true, Bool.or_eq_true, decide_eq_true_eq]
 intro l hm
 refine .inl ?_
 obtain ⟨h1, h2, h3⟩ := hl l hm
 obtain ⟨a, q⟩ := List.exists_mem_of_ne_nil l h1
 have := le_lastZ h2 a q
 have := (h3 a q).1
 simp only [List.length_nil]; omega
theorem enum_len {lines : List (List Int)} {s : Int} {n : Nat} : ∀ (r : Nat) (pre : List Int), (enumN lines s n r pre).length ≤ n ^ r
 | 0, pre => by simp [enumN]
 | r + 1, pre => by
  rw [enumN, List.length_flatMap]
  have : ∀ l : List Int, (l.map fun x => (if x ∈ pre then [] else if okAt lines s pre.length (pre ++ [x]) then enumN lines s n r (pre ++ [x]) else []).length).sum ≤ l.length * n ^ r := by
   intro l
   induction l with
   | nil => simp
   | cons a l ih =>
    rw [List.map_cons, List.sum_cons, List.length_cons, Nat.add_mul]
    have h1 : (if a ∈ pre then [] else if okAt lines s pre.length (pre ++ [a]) then enumN lines s n r (pre ++ [a]) else []).length ≤ n ^ r := by
     split
     ·simp
     ·split
      ·exact enum_len r _
      ·simp
    omega
  have h2 := this (upTo n)
  rw [List.length_map, List.length_range] at h2
  rw [Nat.pow_succ, Nat.mul_comm]; exact h2
end Go.Ev
namespace Go.Ev
def enumG (ag : List Int → Bool) (n : Nat) : Nat → List Int → List (List Int)
 | 0, pre => if ag pre then [pre] else []
 | r + 1, pre => if ag pre then (upTo n).flatMap fun x => if x ∈ pre then [] else enumG ag n r (pre ++ [x]) else []
def SpOK (M : Int) (q : List (Int × Int)) : Prop := q.Pairwise (fun a b => a.1 < b.1) ∧ ∀ p ∈ q, 0 ≤ p.1 ∧ p.1 ≤ M
theorem SpOK.len {q : List (Int × Int)} (h : SpOK 9000 q) : q.length ≤ 9001 := by
 obtain ⟨t, ht⟩ := sub_perm (q.map (·.1)) ((List.range 9001).map fun (i : Nat) => (i : Int)) (by
  rw [List.nodup_iff_pairwise_ne, List.pairwise_map]
  exact h.1.imp fun {a b} q e => by omega) fun x hx => by
  obtain ⟨p, hp, rfl⟩ := List.mem_map.1 hx
  have := h.2 p hp
  exact List.mem_map.2 ⟨p.1.toNat, List.mem_range.2 (by omega), by omega⟩
 have := ht.length_eq
 rw [List.length_map, List.length_range, List.length_append, List.length_map] at this
 omega
abbrev cntS (lines : List (List Int)) (n : Nat) (s : Int) : Nat := (enumN lines s n n []).length
def spF (lines : List (List Int)) (n : Nat) (s : Int) : Option (Int × Int) := if 0 < cntS lines n s then some (s, (cntS lines n s : Int)) else none
def spV (lines : List (List Int)) (n : Nat) (lo : Int) (m : Nat) : List (Int × Int) := ((List.range m).map fun (i : Nat) => lo + (i : Int)).filterMap (spF lines n)
theorem spV_succ (lines : List (List Int)) (n : Nat) (lo : Int) (m : Nat) : spV lines n lo (m + 1) = spV lines n lo m ++ (spF lines n (lo + (m : Int))).toList := by
 rw [spV, List.range_succ, List.map_append, List.filterMap_append]
 congr 1
theorem spV_len (lines : List (List Int)) (n : Nat) (lo : Int) (m : Nat) : (spV lines n lo m).length ≤ m := by
 refine Nat.le_trans (List.length_filterMap_le _ _) (by simp)
def Here (ag : List Int → Bool) : Prop := ∀ pre x, ag (pre ++ [x]) = true → ag pre = true
theorem Here.down {ag q : List Int → Bool} {n : Nat} (hh : Here ag) : ∀ {r : Nat} {pre f : List Int}, f ∈ enumG q n r pre → ag f = true → ag pre = true
 | 0, pre, f, h, ha => by
  rw [enumG] at h
  split at h
  ·simp at h; subst h; exact ha
  ·simp at h
 | r + 1, pre, f, h, ha => by
  rw [enumG] at h
  split at h
  ·obtain ⟨x, _, hx⟩ := List.mem_flatMap.1 h
   split at hx
   ·simp at hx
   ·exact hh _ _ (Here.down hh hx ha)
  ·simp at h
abbrev perms (n r : Nat) (pre : List Int) : List (List Int) := enumG (fun _ => true) n r pre
theorem perms_succ (n r : Nat) (pre : List Int) : perms n (r + 1) pre = (upTo n).flatMap fun x => if x ∈ pre then [] else perms n r (pre ++ [x]) := by rw [perms, enumG, if_pos rfl]
theorem enumG_filter {ag : List Int → Bool} {n : Nat} (hh : Here ag) : ∀ (r : Nat) (pre : List Int), enumG ag n r pre = (perms n r pre).filter ag
 | 0, pre => by
  cases c : ag pre <;> simp [enumG, c]
 | r + 1, pre => by
  cases c : ag pre with
  | false =>
   rw [enumG, c]
   refine (List.filter_eq_nil_iff.2 fun f hf ha => ?_).symm
   rw [hh.down hf ha] at c; cases c
  | true =>
   rw [enumG, c, if_pos rfl]
   rw [perms_succ, List.filter_flatMap]
   refine flatMap_cong fun x _ => ?_
   by_cases h : x ∈ pre
   ·simp [h]
   ·simp only [h, if_false]
    exact enumG_filter hh r _
theorem enumR_G {lines : List (List Int)} {s : Int} {n : Nat} : ∀ (r : Nat) (pre : List Int), enumR lines s n r pre = enumG (agrZ lines s) n r pre
 | 0, _ => rfl
 | r + 1, pre => by
  rw [enumR, enumG]
  cases agrZ lines s pre with
  | false => rfl
  | true =>
   rw [if_pos rfl, if_pos rfl]
   refine flatMap_cong fun x _ => ?_
   rw [enumR_G r]
theorem agr_here {n : Nat} {lines : List (List Int)} {s : Int} (hl : ∀ l ∈ lines, AscL n l) : Here (agrZ lines s) := fun pre x h => by
 rw [agr_snoc hl, Bool.and_eq_true] at h; exact h.1
theorem enumN_perms {n : Nat} {lines : List (List Int)} {s : Int} (hl : ∀ l ∈ lines, AscL n l) : enumN lines s n n [] = (perms n n []).filter (agrZ lines s) := by
 have := enum_eq (s := s) hl n []
 rw [agr_nil hl, if_pos rfl, enumR_G, enumG_filter (agr_here hl)] at this
 exact this.symm
theorem perms_mem {n : Nat} : ∀ {r : Nat} {pre f : List Int}, f ∈ perms n r pre → pre.Nodup → (∀ x ∈ pre, 1 ≤ x ∧ x ≤ (n : Int)) → f.length = pre.length + r ∧ f.Nodup ∧ ∀ x ∈ f, 1 ≤ x ∧ x ≤ (n : Int)
 | 0, pre, f, h, h1, h2 => by
  simp [enumG] at h; subst h; exact ⟨rfl, h1, h2⟩
 | r + 1, pre, f, h, h1, h2 => by
  rw [perms_succ] at h
  obtain ⟨x, hx, hx2⟩ := List.mem_flatMap.1 h
  by_cases c : x ∈ pre
  ·simp [c] at hx2
  ·rw [if_neg c] at hx2
   obtain ⟨i, hi, rfl⟩ := List.mem_map.1 hx
   have := List.mem_range.1 hi
   obtain ⟨q1, q2⟩ := perms_mem hx2 (List.nodup_append.2 ⟨h1, by simp, fun a ha b hb e => by simp at hb; subst hb; subst e; exact c ha⟩) fun y hy => by
    rcases List.mem_append.1 hy with q | q
    ·exact h2 y q
    ·simp at q; omega
   exact ⟨by simp at q1; omega, q2⟩
theorem perms_nrm {n : Nat} {f : List Int} (h : f ∈ perms n n []) : f.length = n ∧ Nrm f := by
 obtain ⟨h1, h2, h3⟩ := perms_mem h (by simp) (by simp)
 simp at h1
 exact ⟨h1, h2, fun x hx => by rw [h1]; exact h3 x hx⟩
theorem last_memZ {l : List Int} (h : l ≠ []) : l.getLastD 0 ∈ l := by
 obtain ⟨a, q, rfl⟩ : ∃ a q, l = q ++ [a] := ⟨l.getLast h, l.dropLast, (List.dropLast_concat_getLast h).symm⟩
 rw [List.getLastD_eq_getLast?, List.getLast?_concat]; simp
def lkS : List (Int × Int) → Int → Int
 | [], _ => 0
 |(y, c) :: q, s => if y = s then c else lkS q s
abbrev AscP (q : List (Int × Int)) : Prop := q.Pairwise (fun a b => a.1 < b.1)
theorem lkS_not : ∀ {q : List (Int × Int)} {s : Int}, (∀ p ∈ q, p.1 ≠ s) → lkS q s = 0
 | [], _, _ => rfl
 |(y, c) :: q, s, h => by
  rw [lkS, if_neg (h (y, c) (by simp)), lkS_not fun p hp => h p (by simp [hp])]
theorem lkS_mem : ∀ {q : List (Int × Int)} {p : Int × Int}, AscP q → p ∈ q → lkS q p.1 = p.2
 | [], _, _, h => by simp at h
 |(y, c) :: q, p, ha, h => by
  obtain ⟨h1, h2⟩ := List.pairwise_cons.1 ha
  rw [lkS]
  rcases List.mem_cons.1 h with rfl | h
  ·simp
  ·have := h1 p h
   rw [if_neg (by simp at this; omega), lkS_mem h2 h]
theorem lkS_uniq : ∀ {q r : List (Int × Int)}, AscP q → AscP r → (∀ p ∈ q, 0 < p.2) → (∀ p ∈ r, 0 < p.2) → (∀ s, lkS q s = lkS r s) → q = r
 | [], [], _, _, _, _, _ => rfl
 | [], (y, c) :: r, _, _, _, hp, h => by
  have := h y
  rw [lkS, lkS, if_pos rfl] at this
  have := hp (y, c) (by simp)
  simp at this; omega
 |(y, c) :: q, [], _, _, hp, _, h => by
  have := h y
  rw [lkS, lkS, if_pos rfl] at this
  have := hp (y, c) (by simp)
  simp at this; omega
 |(y, c) :: q, (z, d) :: r, hq, hr, hp, hp', h => by
  obtain ⟨q1, q2⟩ := List.pairwise_cons.1 hq
  obtain ⟨r1, r2⟩ := List.pairwise_cons.1 hr
  have c1 := hp (y, c) (by simp)
  have d1 := hp' (z, d) (by simp)
  simp only at c1 d1
  have hy := h y
  have hz := h z
  have a1 : y < z → False := fun hlt => by
   rw [lkS, if_pos rfl, lkS_not] at hy
   ·omega
   ·intro p hp
    rcases List.mem_cons.1 hp with rfl | hp
    ·simp; omega
    ·have := r1 p hp; simp at this; omega
  have a2 : z < y → False := fun hlt => by
   rw [lkS_not, lkS, if_pos rfl] at hz
   ·omega
   ·intro p hp
    rcases List.mem_cons.1 hp with rfl | hp
    ·simp; omega
    ·have := q1 p hp; simp at this; omega
  obtain rfl : y = z := by
   rcases Int.lt_trichotomy y z with q | q | q
   ·exact (a1 q).elim
   ·exact q
   ·exact (a2 q).elim
  rw [lkS, lkS, if_pos rfl, if_pos rfl] at hy
  subst hy
  congr 1
  refine lkS_uniq q2 r2 (fun p hq => hp p (by simp [hq])) (fun p hq => hp' p (by simp [hq])) fun s => ?_
  by_cases e : y = s
  ·subst e
   rw [lkS_not fun p hp => by have := q1 p hp; simp at this; omega, lkS_not fun p hp => by have := r1 p hp; simp at this; omega]
  ·have := h s
   rw [lkS, lkS, if_neg e, if_neg e] at this
   exact this
theorem wrapZs {k : Int} (h : 0 ≤ k) (h2 : k ≤ 2000000000) : IntKind.wrap .i64 k = k := Go.IntWalk.i64_in _ (by omega)
theorem spV_mem {lines : List (List Int)} {n : Nat} {lo : Int} {m : Nat} {p : Int × Int} : p ∈ spV lines n lo m ↔ (lo ≤ p.1 ∧ p.1 < lo + m) ∧ 0 < cntS lines n p.1 ∧ p.2 = (cntS lines n p.1 : Int) := by
 rw [spV, List.mem_filterMap]
 constructor
 ·rintro ⟨a, ha, h⟩
  obtain ⟨i, hi, rfl⟩ := List.mem_map.1 ha
  have := List.mem_range.1 hi
  rw [spF] at h
  split at h
  ·rename_i c
   have := Option.some.inj h
   subst this
   exact ⟨by simp; omega, c, rfl⟩
  ·cases h
 ·rintro ⟨h1, h2, h3⟩
  refine ⟨p.1, List.mem_map.2 ⟨(p.1 - lo).toNat, List.mem_range.2 (by omega), by omega⟩, ?_⟩
  rw [spF, if_pos h2, ← h3]
theorem spV_asc (lines : List (List Int)) (n : Nat) (lo : Int) : ∀ m, AscP (spV lines n lo m)
 | 0 => .nil
 | m + 1 => by
  rw [spV_succ]
  refine List.pairwise_append.2 ⟨spV_asc lines n lo m, ?_, fun a ha b hb => ?_⟩
  ·unfold spF; split <;> simp
  ·have h1 := (spV_mem.1 ha).1
   have h2 : b.1 = lo + m := by
    unfold spF at hb
    split at hb
    ·simp at hb; subst hb; rfl
    ·simp at hb
   omega
end Go.Ev
namespace Go.Ev
theorem perms_pre {n : Nat} : ∀ {r : Nat} {pre f : List Int}, f ∈ perms n r pre → ∃ t, f = pre ++ t
 | 0, pre, f, h => by
  simp [enumG] at h; exact ⟨[], by simp [h]⟩
 | r + 1, pre, f, h => by
  rw [perms_succ] at h
  obtain ⟨x, _, hx⟩ := List.mem_flatMap.1 h
  by_cases c : x ∈ pre
  ·simp [c] at hx
  ·rw [if_neg c] at hx
   obtain ⟨t, ht⟩ := perms_pre hx
   exact ⟨x :: t, by simp [ht]⟩
theorem perms_full {n : Nat} : ∀ {t pre : List Int}, (pre ++ t).Nodup → (∀ x ∈ t, 1 ≤ x ∧ x ≤ (n : Int)) → pre ++ t ∈ perms n t.length pre
 | [], pre, _, _ => by simp [enumG]
 | x :: t, pre, h, hb => by
  rw [List.length_cons, perms_succ]
  have hx := hb x (by simp)
  refine List.mem_flatMap.2 ⟨x, List.mem_map.2 ⟨(x - 1).toNat, List.mem_range.2 (by omega), by omega⟩, ?_⟩
  have hx2 : x ∉ pre := fun q => (List.nodup_append.1 h).2.2 x q x (by simp) rfl
  rw [if_neg hx2]
  have e : pre ++ x :: t = (pre ++ [x]) ++ t := by simp
  rw [e] at h ⊢
  exact perms_full h fun y hy => hb y (by simp [hy])
theorem perms_iff {n : Nat} {f : List Int} : f ∈ perms n n [] ↔ f.length = n ∧ Nrm f := by
 constructor
 ·exact perms_nrm
 ·rintro ⟨rfl, h1, h2⟩
  have := perms_full (n := f.length) (t := f) (pre := []) (by simpa using h1) h2
  simpa using this
theorem lexLt_app (pre : List Int) {x y : Int} {s t : List Int} (h : x < y) : lexLt (pre ++ x :: s) (pre ++ y :: t) = true := by
 induction pre with
 | nil => rw [List.nil_append, List.nil_append, lexLt, if_neg (by omega)]; simpa using h
 | cons a p ih => rw [List.cons_append, List.cons_append, lexLt, if_pos rfl, ih]
theorem upTo_lt (n : Nat) : (upTo n).Pairwise (· < ·) := by
 rw [List.pairwise_map]
 exact List.pairwise_lt_range.imp (by intro a b h; omega)
theorem perms_asc {n : Nat} : ∀ (r : Nat) (pre : List Int), (perms n r pre).Pairwise fun a b => lexLt a b = true
 | 0, pre => by simp [enumG]
 | r + 1, pre => by
  rw [perms_succ, List.pairwise_flatMap]
  refine ⟨fun x _ => ?_, (upTo_lt n).imp fun {x y} hxy a ha b hb => ?_⟩
  ·by_cases c : x ∈ pre
   ·simp [c]
   ·rw [if_neg c]; exact perms_asc r _
  ·by_cases c : x ∈ pre
   ·simp [c] at ha
   ·by_cases d : y ∈ pre
    ·simp [d] at hb
    ·rw [if_neg c] at ha
     rw [if_neg d] at hb
     obtain ⟨s, rfl⟩ := perms_pre ha
     obtain ⟨t, rfl⟩ := perms_pre hb
     have := lexLt_app pre (s := s) (t := t) hxy
     simpa using this
theorem lexLt_irr : ∀ a : List Int, lexLt a a = false
 | [] => rfl
 | x :: a => by rw [lexLt, if_pos rfl]; exact lexLt_irr a
theorem enumN_asc {n : Nat} {lines : List (List Int)} {s : Int} (hl : ∀ l ∈ lines, AscL n l) : (enumN lines s n n []).Pairwise fun a b => lexLt a b = true := by
 rw [enumN_perms hl]
 exact (perms_asc n []).filter _
theorem enumN_nodup {n : Nat} {lines : List (List Int)} {s : Int} (hl : ∀ l ∈ lines, AscL n l) : (enumN lines s n n []).Nodup := (enumN_asc hl).imp fun {a b} h e => by
 subst e; rw [lexLt_irr] at h; cases h
theorem agrZ_full {n : Nat} {lines : List (List Int)} {s : Int} {f : List Int} (hl : ∀ l ∈ lines, AscL n l) (hf : f.length = n) : agrZ lines s f = true ↔ ∀ l ∈ lines, lsumZ l f = s := by
 simp only [agrZ, List.all_eq_true, Bool.or_eq_true, decide_eq_true_eq]
 constructor
 ·intro h l hm
  rcases h l hm with q | q
  ·have := (hl l hm).2.2 _ (last_memZ (hl l hm).1)
   omega
  ·exact q
 ·intro h l hm; exact .inr (h l hm)
theorem enumN_iff {n : Nat} {lines : List (List Int)} {s : Int} {f : List Int} (hl : ∀ l ∈ lines, AscL n l) : f ∈ enumN lines s n n [] ↔ (f.length = n ∧ Nrm f) ∧ ∀ l ∈ lines, lsumZ l f = s := by
 rw [enumN_perms hl, List.mem_filter, perms_iff]
 constructor
 ·rintro ⟨h1, h2⟩; exact ⟨h1, (agrZ_full hl h1.1).1 h2⟩
 ·rintro ⟨h1, h2⟩; exact ⟨h1, (agrZ_full hl h1.1).2 h2⟩
abbrev cplZ (n : Nat) (f : List Int) : List Int := f.map fun x => (n : Int) + 1 - x
theorem cpl_nrm {n : Nat} {f : List Int} (hf : f.length = n) (hn : Nrm f) : (cplZ n f).length = n ∧ Nrm (cplZ n f) := by
 refine ⟨by simp [hf], List.pairwise_map.2 (hn.1.imp fun {a b} q e => q (by omega)), fun x hx => ?_⟩
 obtain ⟨y, hy, rfl⟩ := List.mem_map.1 hx
 have := hn.2 y hy
 rw [List.length_map]; omega
theorem cpl_cpl (n : Nat) (f : List Int) : cplZ n (cplZ n f) = f := by
 rw [cplZ, cplZ, List.map_map]
 have : ((fun x : Int => (n : Int) + 1 - x) ∘ fun x => (n : Int) + 1 - x) = id := by funext x; simp; omega
 rw [this, List.map_id]
theorem lsum_cpl {n : Nat} {f : List Int} (hf : f.length = n) : ∀ {l : List Int}, (∀ c ∈ l, 0 ≤ c ∧ c < (n : Int)) → lsumZ l (cplZ n f) = l.length * ((n : Int) + 1) - lsumZ l f
 | [], _ => by simp [lsumZ]
 | c :: l, h => by
  have ih := lsum_cpl hf (l := l) fun x hx => h x (by simp [hx])
  have hc := h c (by simp)
  have hx : f[c.toNat]? = some f[c.toNat] := List.getElem?_eq_getElem (by omega)
  unfold lsumZ at ih ⊢
  rw [List.map_cons, List.sum_cons, ih, List.map_cons, List.sum_cons, List.length_cons, List.getD_eq_getElem?_getD, List.getD_eq_getElem?_getD, List.getElem?_map, hx]
  simp only [Option.map_some, Option.getD_some, Int.natCast_add, Int.add_mul, Int.natCast_one, Int.one_mul]
  omega
theorem cpl_perm {n k : Nat} {lines : List (List Int)} (s : Int) (hl : ∀ l ∈ lines, AscL n l) (hk : ∀ l ∈ lines, l.length = k) : ((enumN lines s n n []).map (cplZ n)).Perm (enumN lines ((k : Int) * ((n : Int) + 1) - s) n n []) := by
 have go : ∀ (s : Int) f, f ∈ enumN lines s n n [] → cplZ n f ∈ enumN lines ((k : Int) * ((n : Int) + 1) - s) n n [] := fun s f hf => by
  obtain ⟨⟨h1, h2⟩, h3⟩ := (enumN_iff hl).1 hf
  refine (enumN_iff hl).2 ⟨cpl_nrm h1 h2, fun l hm => ?_⟩
  rw [lsum_cpl h1 (hl l hm).2.2, h3 l hm, hk l hm]
 have inj : ∀ a b : List Int, cplZ n a = cplZ n b → a = b := fun a b e => by
  have := congrArg (cplZ n) e
  rwa [cpl_cpl, cpl_cpl] at this
 have hnd : ((enumN lines s n n []).map (cplZ n)).Nodup := List.pairwise_map.2 ((enumN_nodup hl).imp fun {a b} h e => h (inj _ _ e))
 refine (List.perm_ext_iff_of_nodup hnd (enumN_nodup hl)).2 fun f => ?_
 rw [List.mem_map]
 constructor
 ·rintro ⟨g, hg, rfl⟩; exact go s g hg
 ·intro hf
  refine ⟨cplZ n f, ?_, cpl_cpl n f⟩
  have := go _ f hf
  rwa [show (k : Int) * ((n : Int) + 1) - ((k : Int) * ((n : Int) + 1) - s) = s by omega] at this
theorem cnt_cpl {n k : Nat} {lines : List (List Int)} (s : Int) (hl : ∀ l ∈ lines, AscL n l) (hk : ∀ l ∈ lines, l.length = k) : cntS lines n ((k : Int) * ((n : Int) + 1) - s) = cntS lines n s := by
 have := (cpl_perm s hl hk).length_eq
 rw [List.length_map] at this
 exact this.symm
theorem spV_rev {n k : Nat} {lines : List (List Int)} {lo : Int} {m : Nat} (hl : ∀ l ∈ lines, AscL n l) (hk : ∀ l ∈ lines, l.length = k) (hb : ∀ s, 0 < cntS lines n s → lo ≤ s ∧ s < lo + m) :
  ((spV lines n lo m).map fun p => ((k : Int) * ((n : Int) + 1) - p.1, p.2)).reverse = spV lines n lo m := by
 have hmem : ∀ p, p ∈ spV lines n lo m ↔ 0 < cntS lines n p.1 ∧ p.2 = (cntS lines n p.1 : Int) := fun p => by
  rw [spV_mem]
  exact ⟨fun h => h.2, fun h => ⟨hb _ h.1, h⟩⟩
 have ha : AscP ((spV lines n lo m).map fun p => ((k : Int) * ((n : Int) + 1) - p.1, p.2)).reverse := by
  rw [AscP, List.pairwise_reverse, List.pairwise_map]
  exact (spV_asc lines n lo m).imp fun {a b} h => by simp only; omega
 have hm2 : ∀ p, p ∈ ((spV lines n lo m).map fun p => ((k : Int) * ((n : Int) + 1) - p.1, p.2)).reverse ↔ p ∈ spV lines n lo m := fun p => by
  rw [List.mem_reverse, List.mem_map, hmem]
  constructor
  ·rintro ⟨q, hq, rfl⟩
   have := (hmem q).1 hq
   simp only [cnt_cpl q.1 hl hk]
   exact this
  ·rintro ⟨h1, h2⟩
   refine ⟨((k : Int) * ((n : Int) + 1) - p.1, p.2), (hmem _).2 ?_, ?_⟩
   ·simp only [cnt_cpl p.1 hl hk]
    exact ⟨h1, h2⟩
   ·refine Prod.ext ?_ rfl
    simp only; omega
 refine lkS_uniq ha (spV_asc _ _ _ _) (fun p hp => ?_) (fun p hp => ?_) fun s => ?_
 ·have := (hmem p).1 ((hm2 p).1 hp); omega
 ·have := (hmem p).1 hp; omega
 ·by_cases c : 0 < cntS lines n s
  ·have h1 : (s, (cntS lines n s : Int)) ∈ spV lines n lo m := (hmem _).2 ⟨c, rfl⟩
   exact (lkS_mem ha ((hm2 _).2 h1)).trans (lkS_mem (spV_asc _ _ _ _) h1).symm
  ·have h1 : ∀ p ∈ spV lines n lo m, p.1 ≠ s := fun p hp e => by
    have := ((hmem p).1 hp).1
    rw [e] at this; exact c this
   rw [lkS_not fun p hp => h1 p ((hm2 p).1 hp), lkS_not h1]
end Go.Ev
namespace Go.Ev
def incZ (v : Int) : Int := IntKind.wrap .i64 (v + 1)
def incT (A : List (List Int)) (c : Nat) (x : Int) : List (List Int) := A.set c ((A.getD c []).set (x - 1).toNat (incZ ((A.getD c []).getD (x - 1).toNat 0)))
def addFi (A : List (List Int)) (fl : List Int) : Nat → List (List Int)
 | 0 => A
 | i + 1 => incT (addFi A fl i) i (fl.getD i 0)
def addF (A : List (List Int)) (fl : List Int) : List (List Int) := addFi A fl fl.length
def zeroT (n : Nat) : List (List Int) := List.replicate n (List.replicate n 0)
def distS (n : Nat) (fs : List (List Int)) : List (List Int) := fs.foldl addF (zeroT n)
def Sq (n : Nat) (A : List (List Int)) : Prop := A.length = n ∧ ∀ r ∈ A, r.length = n
theorem Sq.get {n c : Nat} {A : List (List Int)} (h : Sq n A) (hc : c < n) : A[c]? = some (A.getD c []) ∧ (A.getD c []).length = n := by
 have h1 := h.1
 rw [List.getD_eq_getElem?_getD, List.getElem?_eq_getElem (by omega)]
 exact ⟨rfl, h.2 _ (List.getElem_mem _)⟩
theorem Sq.inc {n c : Nat} {A : List (List Int)} {x : Int} (h : Sq n A) (hc : c < n) : Sq n (incT A c x) := by
 refine ⟨by simp [incT, h.1], fun r hr => ?_⟩
 rcases List.mem_or_eq_of_mem_set hr with q | rfl
 ·exact h.2 r q
 ·rw [List.length_set]; exact (h.get hc).2
theorem Sq.fi {n : Nat} {A : List (List Int)} {fl : List Int} (h : Sq n A) : ∀ i, i ≤ n → Sq n (addFi A fl i)
 | 0, _ => h
 | i + 1, hi => (Sq.fi h i (by omega)).inc (by omega)
theorem Sq.zero (n : Nat) : Sq n (zeroT n) := ⟨by simp [zeroT], fun r hr => by simp [zeroT] at hr; rw [hr.2]; simp⟩
abbrev stpD (A : List (List Int)) (fl : List Int) : List (List Int) × Bool := (addF A fl, true)
theorem foldD : ∀ (l : List (List Int)) (A : List (List Int)), foldE stpD A l = (l.foldl addF A, true)
 | [], A => rfl
 | x :: l, A => by rw [foldE, if_pos rfl, foldD l]; rfl
def ent (A : List (List Int)) (c x : Nat) : Int := (A.getD c []).getD x 0
theorem getD_set (l : List Int) (k j : Nat) (v : Int) : (l.set k v).getD j 0 = if k = j ∧ k < l.length then v else l.getD j 0 := by
 rw [List.getD_eq_getElem?_getD, List.getElem?_set]
 by_cases e : k = j
 ·subst e
  by_cases h : k < l.length
  ·simp [h]
  ·simp [h, List.getD_eq_getElem?_getD]
 ·simp [e, List.getD_eq_getElem?_getD]
theorem getD_setT (l : List (List Int)) (k j : Nat) (v : List Int) : (l.set k v).getD j [] = if k = j ∧ k < l.length then v else l.getD j [] := by
 rw [List.getD_eq_getElem?_getD, List.getElem?_set]
 by_cases e : k = j
 ·subst e
  by_cases h : k < l.length
  ·simp [h]
  ·simp [h, List.getD_eq_getElem?_getD]
 ·simp [e, List.getD_eq_getElem?_getD]
theorem ent_inc {n : Nat} {A : List (List Int)} (hA : Sq n A) {c : Nat} {v : Int} (hc : c < n) (hv : 1 ≤ v ∧ v ≤ (n : Int)) (c' x : Nat) : ent (incT A c v) c' x = if c = c' ∧ v = (x : Int) + 1 then incZ (ent A c x) else ent A c' x := by
 obtain ⟨g1, g2⟩ := hA.get hc
 rw [ent, incT, getD_setT]
 by_cases e : c = c'
 ·subst e
  rw [if_pos ⟨rfl, by rw [hA.1]; exact hc⟩, getD_set]
  by_cases e2 : v = (x : Int) + 1
  ·rw [if_pos ⟨by omega, by omega⟩, if_pos ⟨rfl, e2⟩, show (v - 1).toNat = x by omega]; rfl
  ·rw [if_neg (by omega), if_neg (by simp [e2])]; rfl
 ·rw [if_neg (by simp [e]), if_neg (by simp [e])]; rfl
theorem ent_fi {n : Nat} {A : List (List Int)} {f : List Int} (hA : Sq n A) (hf : f.length = n) (hb : ∀ v ∈ f, 1 ≤ v ∧ v ≤ (n : Int)) : ∀ i, i ≤ n → ∀ c x, ent (addFi A f i) c x = if c < i ∧ f.getD c 0 = (x : Int) + 1 then incZ (ent A c x) else ent A c x
 | 0, _, c, x => by simp [addFi]
 | i + 1, hi, c, x => by
  have hx : f[i]? = some (f.getD i 0) := by rw [List.getD_eq_getElem?_getD, List.getElem?_eq_getElem (by omega)]; rfl
  rw [addFi, ent_inc (hA.fi i (by omega)) (by omega) (hb _ (List.mem_of_getElem? hx)), ent_fi hA hf hb i (by omega), ent_fi hA hf hb i (by omega)]
  by_cases e : i = c
  ·subst e
   by_cases e2 : f.getD i 0 = (x : Int) + 1
   ·rw [if_pos ⟨rfl, e2⟩, if_neg (by omega), if_pos ⟨by omega, e2⟩]
   ·rw [if_neg (fun q => e2 q.2), if_neg (by omega), if_neg (fun q => e2 q.2)]
  ·rw [if_neg (by simp [e])]
   by_cases e2 : c < i ∧ f.getD c 0 = (x : Int) + 1
   ·rw [if_pos e2, if_pos ⟨by omega, e2.2⟩]
   ·rw [if_neg e2, if_neg (by omega)]
theorem ent_f {n : Nat} {A : List (List Int)} {f : List Int} (hA : Sq n A) (hf : f.length = n) (hb : ∀ v ∈ f, 1 ≤ v ∧ v ≤ (n : Int)) {c x : Nat} (hc : c < n) : ent (addF A f) c x = if f.getD c 0 = (x : Int) + 1 then incZ (ent A c x) else ent A c x := by
 rw [addF, hf, ent_fi hA hf hb n (Nat.le_refl _)]
 by_cases e : f.getD c 0 = (x : Int) + 1
 ·rw [if_pos ⟨hc, e⟩, if_pos e]
 ·rw [if_neg (fun q => e q.2), if_neg e]
abbrev inN (n : Nat) (D : List (List Int)) : Prop := ∀ f ∈ D, f.length = n ∧ ∀ v ∈ f, 1 ≤ v ∧ v ≤ (n : Int)
theorem ent_fold {n : Nat} {c x : Nat} (hc : c < n) : ∀ (D : List (List Int)) (A : List (List Int)) (N : Nat), Sq n A → inN n D → 0 ≤ ent A c x ∧ ent A c x ≤ N → N + D.length ≤ 1000000000 →
  ent (D.foldl addF A) c x = ent A c x + ((D.filter fun f => decide (f.getD c 0 = (x : Int) + 1)).length : Int)
 | [], A, N, _, _, _, _ => by simp
 | f :: D, A, N, hA, hD, h1, h2 => by
  rw [List.length_cons] at h2
  obtain ⟨f1, f2⟩ := hD f (by simp)
  have e := ent_f hA f1 f2 (x := x) hc
  have hw : incZ (ent A c x) = ent A c x + 1 := wrapZs (by omega) (by omega)
  have hs : Sq n (addF A f) := hA.fi _ (by omega)
  rw [List.foldl_cons, ent_fold hc D (addF A f) (N + 1) hs (fun g hg => hD g (by simp [hg])) (by rw [e]; split <;> omega) (by omega), e, List.filter_cons]
  by_cases q : f.getD c 0 = (x : Int) + 1
  ·simp only [q, decide_true, if_true, List.length_cons]; omega
  ·simp only [q, decide_false, if_false, Bool.false_eq_true]
theorem ent_dist {n : Nat} {D : List (List Int)} (hD : inN n D) (hl : D.length ≤ 1000000000) {c x : Nat} (hc : c < n) : ent (distS n D) c x = ((D.filter fun f => decide (f.getD c 0 = (x : Int) + 1)).length : Int) := by
 have hz : ent (zeroT n) c x = 0 := by
  have e : (List.replicate n (List.replicate n (0 : Int))).getD c [] = List.replicate n 0 := by rw [List.getD_eq_getElem?_getD, List.getElem?_replicate, if_pos hc]; rfl
  rw [ent, zeroT, e, List.getD_eq_getElem?_getD, List.getElem?_replicate]
  split <;> rfl
 rw [distS, ent_fold hc D (zeroT n) 0 (.zero n) hD (by rw [hz]; simp) (by omega), hz]; omega
theorem enumN_in {n : Nat} {lines : List (List Int)} {s : Int} (hl : ∀ l ∈ lines, AscL n l) : inN n (enumN lines s n n []) := fun f hf => by
 obtain ⟨⟨h1, h2⟩, _⟩ := (enumN_iff hl).1 hf
 exact ⟨h1, fun v hv => by have := h2.2 v hv; omega⟩
theorem sq_dist {n : Nat} {D : List (List Int)} (hD : inN n D) : Sq n (distS n D) := by
 have : ∀ (D A : List (List Int)), inN n D → Sq n A → Sq n (D.foldl addF A) := by
  intro D
  induction D with
  | nil => intro A _ h; exact h
  | cons f D ih =>
   intro A hD h
   exact ih _ (fun g hg => hD g (by simp [hg])) (h.fi _ (by have := (hD f (by simp)).1; omega))
 exact this D _ hD (.zero n)
theorem dist_cpl {n k : Nat} {lines : List (List Int)} (s : Int) (hl : ∀ l ∈ lines, AscL n l) (hk : ∀ l ∈ lines, l.length = k) (hs : cntS lines n s ≤ 1000000000) {c x : Nat} (hc : c < n) (hx : x < n) :
  ent (distS n (enumN lines s n n [])) c x = ent (distS n (enumN lines ((k : Int) * ((n : Int) + 1) - s) n n [])) c (n - 1 - x) := by
 have hs2 := cnt_cpl s hl hk
 rw [ent_dist (enumN_in hl) hs hc, ent_dist (enumN_in hl) (by unfold cntS at hs2 hs; omega) hc]
 congr 1
 have hp := (cpl_perm s hl hk).filter fun f => decide (f.getD c 0 = ((n - 1 - x : Nat) : Int) + 1)
 rw [← hp.length_eq, List.filter_map, List.length_map]
 congr 1
 refine List.filter_congr fun f hf => ?_
 have h1 := (enumN_in hl f hf).1
 have hg : f[c]? = some f[c] := List.getElem?_eq_getElem (by omega)
 simp only [Function.comp]
 rw [List.getD_eq_getElem?_getD, List.getD_eq_getElem?_getD, List.getElem?_map, hg]
 simp only [Option.map_some, Option.getD_some]
 exact decide_eq_decide.2 (by omega)
end Go.Ev
namespace Go.Ev
open Go Go.Proofs
variable {B : Nat}
abbrev tI (A : List (List Int)) : List (List AV) := A.map fun r => r.map I
theorem tI_get {A : List (List Int)} {c : Nat} {r : List Int} (h : A[c]? = some r) : (tI A)[c]? = some (r.map I) := by rw [List.getElem?_map, h]; rfl
noncomputable abbrev F53.tm (cells : Int) (lines : List (List Int)) (s : Int) (bx b6 : Pa) (x7 x13 x14 : AV) : T AV := F53.fr (.agg [I cells, encT lines]) (I s) (.ptr bx 0) .nils (I 0) (I 0) (.ptr b6 0) x7 .undef .undef .undef (.bool false) (I cells) x13 x14 (.fn 136 (.of 136) [.fp [I cells, encT lines], .fp [I s]]) .undef .undef .undef .undef .undef
def F53.LC (n : Nat) (lines : List (List Int)) (s : Int) (bx b6 tb id : Pa) (x7 x13 x14 : AV) (go : Bool) (A : List (List Int)) (L : List Ob) : Prop :=
 Sq n A ∧ ∃ rs, (∀ c, c < n → ∃ r, rs[c]? = some (some r)) ∧ L = [.raw id (.loop .ready .none (F53.tm n lines s bx b6 x7 x13 x14) [.of 16] F53.b12 F53.b13), .tab tb rs (tI A), .arr b6 [.sl tb 0 n (some n) 1], .arr bx [I n, encT lines]]
theorem F53.yc {h0 : T Blk} {n : Nat} {lines : List (List Int)} {s : Int} {bx b6 tb id : Pa} {x7 x13 x14 : AV} (hn : n ≤ 9) (f bu bf be bp bg : Pa) : YC B h0 n lines s f bu bf be bp bg id (F53.LC n lines s bx b6 tb id x7 x13 x14) stpD := by
 rintro A fl m h nx K L hfl hrg ⟨hA, rs, hrs, rfl⟩ H hK
 refine by_round (fns := tbl) dreg 1000 fun hf => ?_
 rw [F53.y13 (getLoop H (k := 6) rfl) rfl]
 have H1 := H.setRaw (k := 6) rfl (b' := .loop .busy .none (F53.tm n lines s bx b6 x7 x13 x14) [.of 16] F53.b12 F53.b13) (by intro e; cases e)
 simp only [sLen_sl]
 refine F53.L15 (fun m' x19 h' nx' => ∃ i : Nat, x19 = I i ∧ n - i = m' ∧ i ≤ n ∧ nx' = nx ∧ Hp h0 h' nx (Gn n lines s f bu bf be bp bg id fl m ++ [.raw id (.loop .busy .none (F53.tm n lines s bx b6 x7 x13 x14) [.of 16] F53.b12 F53.b13), .tab tb rs (tI (addFi A fl i)), .arr b6 [.sl tb 0 n (some n) 1], .arr bx [I n, encT lines]])) (m := n) (by omega) ⟨0, rfl, by omega, by omega, rfl, H1⟩ ?_
 rintro m' z9 z10 z19 z20 h2 nx2 R ⟨i, rfl, rfl, hi, rfl, H2⟩ hR
 simp only [sLss]
 by_cases hlt : i < n
 case neg =>
  simp only [show ¬ (i : Int) < (n : Int) by omega, decide_false, sCond_f]
  obtain rfl : i = n := by omega
  refine H2.rend (k := 6) rfl fun h3 H3 => ?_
  have e : addF A fl = addFi A fl i := by rw [addF, hfl]
  have e2 : stpD A fl = (addFi A fl i, true) := by rw [stpD, e]
  rw [e2] at hK
  exact hK _ _ _ ⟨hA.fi i (Nat.le_refl _), rs, hrs, rfl⟩ H3
 simp only [show (i : Int) < (n : Int) by omega, decide_true, sCond_t]
 have hx : fl[i]? = some (fl.getD i 0) := by rw [List.getD_eq_getElem?_getD, List.getElem?_eq_getElem (by omega)]; rfl
 obtain ⟨q1, q2⟩ := hrg _ (List.mem_of_getElem? hx)
 have hSq := hA.fi (fl := fl) i hi
 obtain ⟨g1, g2⟩ := hSq.get hlt
 obtain ⟨r, hr⟩ := hrs i hlt
 have hrow := tI_get g1
 have hj : (((addFi A fl i).getD i []).map I)[(fl.getD i 0 - 1).toNat]? = some (I (((addFi A fl i).getD i []).getD (fl.getD i 0 - 1).toNat 0)) := by
  rw [List.getElem?_map, List.getD_eq_getElem?_getD (l := (addFi A fl i).getD i []), List.getElem?_eq_getElem (by omega)]
  try rfl
 rw [sIx (i := i) rfl hlt, H2.load (k := 0) rfl (getI hx), H2.load (k := 8) (i := 0) rfl rfl, sIx (i := i) rfl hlt, H2.tabLoad (w := n) (k := 7) rfl hrow hr (by rw [List.length_map]; exact g2), sSub (by omega), sIx (i := (fl.getD i 0 - 1).toNat) (by omega) (by omega), H2.cellLoad (k := 7) rfl hrow hr hj, sAddW, sIx (i := (fl.getD i 0 - 1).toNat) (by omega) (by omega)]
 refine H2.cellStore (k := 7) rfl hrow hr (by rw [List.length_map]; omega) rfl fun h3 H3 => ?_
 try rw [sAdd (by omega)]
 refine hR _ _ _ _ _ _ _ (by omega) ⟨i + 1, rfl, rfl, by omega, rfl, H3.cast ?_⟩
 have e : tI (addFi A fl (i + 1)) = (tI (addFi A fl i)).set i ((((addFi A fl i).getD i []).map I).set (fl.getD i 0 - 1).toNat (I (IntKind.wrap .i64 (((addFi A fl i).getD i []).getD (fl.getD i 0 - 1).toNat 0 + 1)))) := by
  show tI (incT (addFi A fl i) i (fl.getD i 0)) = _
  rw [incT, tI, List.map_set, List.map_set]; rfl
 rw [e]; rfl
theorem dist53 {n : Nat} {lines : List (List Int)} {s : Int} (hw : ∀ q ∈ lines, q.length ≤ 1000) (he : smErr n lines = 0) (hsy : sysErr n lines = 0) (hn9 : n ≤ 9) (hs : -9223372036854775808 ≤ s ∧ s ≤ 9223372036854775807) :
  Pure Tryz.prog B 53 [.agg [I n, encT lines], I s] (· = .tup [encT (distS n (enumN lines s n n [])), I 0]) := by
 obtain ⟨n', hn, g1, g2, g3, g4⟩ := sys_ok hsy
 obtain rfl : n = n' := by omega
 refine pure_hp fun h nx K H0 hK => by_body tbl_ok dreg 1000 fun hf => ?_
 rw [F53.go]
 refine H0.box (l := [I n, encT lines]) rfl fun bx h1 nx1 H1 => ?_
 rw [H1.loadN (k := 0) (n := 2) rfl rfl]
 refine small106 (fun q hq => Nat.le_trans (hw q hq) (by omega)) _ _ _ _ ?_
 rintro _ rfl _
 rw [he]
 simp only [sNeq, decide_true, Bool.not_true, sCond_f]
 rw [sFx, H1.load (k := 0) (i := 0) rfl rfl]
 refine H1.mk1 n rfl rfl (by omega) (by decide) fun tb h2 nx2 H2 => ?_
 refine H2.asTab.alloc fun b6 h3 nx3 H3 => ?_
 refine H3.store (k := 0) rfl (by simp) rfl fun h4 H4 => ?_
 rw [H4.load (k := 0) (i := 0) rfl rfl]
 simp only [sLen_sl]
 have hz : List.replicate n (I 0) = (List.replicate n (0 : Int)).map I := by simp
 refine F53.L2 (fun m x7 x13 h' nx' => ∃ (i : Nat) (rs : List (Option Pa)), x13 = I i ∧ m = n - i ∧ i ≤ n ∧ (∀ p, i ≤ p → p < n → rs[p]? = some none) ∧ (∀ p, p < i → ∃ r, rs[p]? = some (some r)) ∧ rs.length = n ∧ Hp h h' nx' [.arr b6 [.sl tb 0 n (some n) 1], .tab tb rs (rowL n fun p => if p < i then (List.replicate n (0 : Int)).map I else []), .arr bx [I n, encT lines]]) (m := n) (by omega)
  ⟨0, List.replicate n none, rfl, by simp, by omega, fun p _ hp => by simp [hp], fun p hp => by omega, by simp, by simpa [rowL_const] using H4⟩ ?_
 rintro m x7 x13 x14 h5 nx5 R ⟨i, rs, rfl, rfl, hi, hrs, hrs2, hrl, H5⟩ hR
 simp only [sLss]
 by_cases hlt : i < n
 ·simp only [show (i : Int) < (n : Int) by omega, decide_true, sCond_t]
  rw [H5.load (k := 0) (i := 0) rfl rfl, sFx, H5.load (k := 2) (i := 0) rfl rfl]
  refine H5.mk1 n rfl rfl (by omega) (by decide) fun r h6 nx6 H6 => ?_
  simp only [sSame_refl]
  rw [H6.load (k := 1) (i := 0) rfl rfl, sSame_refl, sIx (i := i) rfl hlt]
  rw [hz] at H6
  refine H6.putRow (w := n) (by simp) (k := 1) rfl (hrs i (Nat.le_refl _) hlt) fun h7 H7 => ?_
  try rw [sAdd (by omega)]
  refine hR (n - (i + 1)) _ _ _ _ _ (by omega) ⟨i + 1, rs.set i (some r), rfl, rfl, by omega, fun p h1 h2 => ?_, fun p hp => ?_, by simp [hrl], H7.cast ?_⟩
  ·rw [List.getElem?_set_ne (by omega)]; exact hrs p (by omega) h2
  ·by_cases e : p = i
   ·subst e; exact ⟨r, by rw [List.getElem?_set, if_pos rfl, if_pos (by omega)]⟩
   ·rw [List.getElem?_set_ne (by omega)]; exact hrs2 p (by omega)
  ·simp only [List.set_cons_zero, List.set_cons_succ, rowL_set]
   congr 2
   congr 1
   refine rowL_congr fun p _ => ?_
   by_cases e : p = i
   ·subst e; simp
   ·simp only [if_neg e]
    by_cases e2 : p < i
    ·rw [if_pos e2, if_pos (by omega)]
    ·rw [if_neg e2, if_neg (by omega)]
 ·simp only [show ¬ (i : Int) < (n : Int) by omega, decide_false, sCond_f]
  obtain rfl : i = n := by omega
  have et : (rowL i fun p => if p < i then (List.replicate i (0 : Int)).map I else []) = tI (zeroT i) := by
   rw [rowL_congr (d' := fun _ => (List.replicate i (0 : Int)).map I) fun p hp => if_pos hp, ← rowL_const]
   simp [tI, zeroT]
  rw [et] at H5
  rw [F53.k9, H5.loadN (k := 2) (n := 2) rfl rfl]
  refine normal107 _ _ _ _ ?_
  rintro _ rfl _
  have H6 : Hp h h5 nx5 [.tab tb rs (tI (zeroT i)), .arr b6 [.sl tb 0 i (some i) 1], .arr bx [I i, encT lines]] := H5.perm (.swap _ _ _)
  refine H6.rf (g := 136) (p := .of 136) (cap := [.fp [I i, encT lines], .fp [I s]]) rfl fun id h7 nx7 H7 => ?_
  refine normal136 (LC := F53.LC i lines s bx b6 tb id x7 (I i) (.bool false)) (stp := stpD) (st := zeroT i) hn9 (by omega) (fun l hl => ⟨g4 l hl, hw l hl⟩) hs (fun f bu bf be bp bg => F53.yc hn9 f bu bf be bp bg) ⟨.zero i, rs, hrs2, rfl⟩ H7 fun h8 nx8 L' hL' H8 => ?_
  rw [foldD] at hL'
  obtain ⟨hSq, rs', _, rfl⟩ := hL'
  refine H8.rfEnd fun h9 H9 => ?_
  rw [rfEnd_on, F53.k22, H9.load (k := 1) (i := 0) rfl rfl]
  refine hK _ _ _ _ _ H9 (frz_tup2 (H9.frzTab (k := 0) rfl (Nat.le_refl _) (by simp [hSq.1]) (fun l hl v hv => by
   obtain ⟨r, _, rfl⟩ := List.mem_map.1 hl
   obtain ⟨x, _, rfl⟩ := List.mem_map.1 hv
   rfl)) (frz_fixd rfl)) ?_
  show AV.tup [AV.lst 1 _ _, _] = AV.tup [AV.lst 1 _ _, _]
  have e1 : (distS i (enumN lines s i i [])).length = i := hSq.1
  rw [e1]
  simp [tI, distS, Function.comp_def]
end Go.Ev
namespace Go.Ev
open Go Go.Proofs
variable {B : Nat}
def wrapN (k : Nat) : Int := IntKind.wrap .i64 (k : Int)
theorem wrapN_succ (k : Nat) : IntKind.wrap .i64 (wrapN k + 1) = wrapN (k + 1) := by
 have := wrap_sub (k : Int) (-1)
 rw [show (IntKind.wrap .i64 (k : Int) - -1) = wrapN k + 1 by rw [wrapN]; omega, show ((k : Int) - -1) = ((k + 1 : Nat) : Int) by omega] at this
 exact this
abbrev rowsV (n : Nat) (rows : List (Pa × Option Nat)) : List AV := rows.map fun r => .sl r.1 0 n r.2 1
abbrev rowsO (rows : List (Pa × Option Nat)) (D : List (List Int)) : List Ob := List.zipWith (fun r fl => Ob.arr r.1 (fl.map I)) rows D
structure TL (n : Nat) (lines : List (List Int)) (s : Int) (most : Nat) (tb : Pa) (D : List (List Int)) (t : AV) (L : List Ob) : Prop where
 ex : ∃ (o : Option Pa) (rs : List (Option Pa)) (rows : List (Pa × Option Nat)) (sv : AV) (S : List Ob), t = .agg [I s, .bool false, I most, I (wrapN D.length), sv, rowV o 1 rows.length, .sl tb 0 n (some n) 1] ∧
  L = .gro o 1 rows.length (rowsV n rows) :: .tab tb rs (tI (distS n D)) :: (S ++ rowsO rows (D.take most)) ∧ rows.length = (D.take most).length ∧ (∀ r ∈ rows, capLe n r.2) ∧ (∀ c, c < n → ∃ r, rs[c]? = some (some r)) ∧
  ((sv = .nils ∧ S = [] ∧ (lines = [] ∨ D = [])) ∨ ∃ id c, sv = .sl id 0 1 none 2 ∧ S = [.arr id [I s, I c]] ∧ lines ≠ [])
theorem Sq.fold {n : Nat} : ∀ (l A : List (List Int)), Sq n A → (∀ f ∈ l, f.length = n) → Sq n (l.foldl addF A)
 | [], A, h, _ => h
 | f :: l, A, h, hl => by
  rw [List.foldl_cons]
  refine Sq.fold l _ ?_ fun x hx => hl x (by simp [hx])
  rw [addF, hl f (by simp)]
  exact h.fi n (Nat.le_refl _)
theorem Sq.dist {n : Nat} {D : List (List Int)} (h : ∀ f ∈ D, f.length = n) : Sq n (distS n D) := Sq.fold D _ (.zero n) h
end Go.Ev
namespace Go.Ev
open Go Go.Proofs
variable {B : Nat}
end Go.Ev
namespace Go.Ev
open Go Go.Proofs
variable {B : Nat}
theorem frz_aggS {N : Pa → Prop} {O : AV → Prop} {hh : T Blk} {l : List AV} (hs : l.all scal = true) (h : ∀ v ∈ l, Frz True N O hh v v) : Frz True N O hh (.agg l) (.agg l) :=
 .agg _ _ rfl hs fun i v v' h1 h2 => by rw [h1] at h2; cases h2; exact h v (List.mem_of_getElem? h1)
theorem frz_own {h' h : T Blk} {id : Pa} {off ln esz : Nat} {cap : Option Nat} (hl : T.get .no id h' ≠ .no) : FrzN h' h (.sl id off ln cap esz) (.sl id off ln cap esz) := .old _ (.inr (.inr (.inr ⟨id, off, ln, cap, esz, rfl, hl⟩)))
variable {n most : Nat} {lines : List (List Int)} {s : Int} {tb us : Pa} {h0 : T Blk} {M : List Ob}
theorem TL.cells {D : List (List Int)} {t : AV} {L : List Ob} (h : TL n lines s most tb D t L) : ∃ a b c d e, t = .agg [I s, .bool false, a, b, c, d, e] ∧ t.cells = some [I s, .bool false, a, b, c, d, e] := by
 obtain ⟨o, rs, rows, sv, S, rfl, rfl, hrl, hcap, hrs, hsp⟩ := h.ex
 refine ⟨_, _, _, _, _, rfl, ?_⟩
 rcases hsp with ⟨rfl, _⟩ | ⟨id, c, rfl, _⟩ <;> cases o <;> rfl
theorem TL.frz {D : List (List Int)} {t : AV} {L A C : List Ob} {h' h : T Blk} {nx : Pa} (hT : TL n lines s most tb D t L) (H : Hp h0 h' nx (A ++ (L ++ C))) : FrzN h' h t t := by
 obtain ⟨o, rs, rows, sv, S, rfl, rfl, hrl, hcap, hrs, hsp⟩ := hT.ex
 have live : ∀ x : Ob, x ∈ (A ++ ((.gro o 1 rows.length (rowsV n rows) :: .tab tb rs (tI (distS n D)) :: (S ++ rowsO rows (D.take most))) ++ C)) → ∀ id ∈ x.names, T.get .no id h' ≠ .no := fun x hx id hid => (H.own x hx).live id hid
 have hrow : FrzN h' h (rowV o 1 rows.length) (rowV o 1 rows.length) := by
  cases o with
  | none => exact .nils
  | some id => exact frz_own (live (.gro (some id) 1 rows.length (rowsV n rows)) (by simp) id (by simp [Ob.names]))
 have htb : FrzN h' h (.sl tb 0 n (some n) 1) (.sl tb 0 n (some n) 1) := frz_own (live (.tab tb rs (tI (distS n D))) (by simp) tb (by simp [Ob.names]))
 have hsv : FrzN h' h sv sv ∧ scal sv = true := by
  rcases hsp with ⟨rfl, _⟩ | ⟨id, c, rfl, rfl, _⟩
  ·exact ⟨.nils, rfl⟩
  ·exact ⟨frz_own (live (.arr id [I s, I c]) (by simp) id (by simp [Ob.names])), rfl⟩
 have hrs' : scal (rowV o 1 rows.length) = true := by cases o <;> rfl
 refine frz_aggS (by simp only [List.all_cons, List.all_nil, hsv.2, hrs', Bool.and_true]; rfl) fun v hv => ?_
 simp only [List.mem_cons, List.not_mem_nil, or_false] at hv
 rcases hv with rfl | rfl | rfl | rfl | rfl | rfl | rfl
 ·exact .int _ _
 ·exact .bool _
 ·exact .int _ _
 ·exact .int _ _
 ·exact hsv.1
 ·exact hrow
 ·exact htb
end Go.Ev
namespace Go.Ev
open Go Go.Proofs
variable {B : Nat}
theorem fixdI2 {l : List Int} : ∀ v ∈ l.map I, fixd v = true := fun v hv => by obtain ⟨x, _, rfl⟩ := List.mem_map.1 hv; rfl
theorem TL.fix {n most : Nat} {lines : List (List Int)} {s : Int} {tb : Pa} {D : List (List Int)} {t : AV} {L A C : List Ob} {h0 h : T Blk} {nx : Pa} (hT : TL n lines s most tb D t L) (hD : ∀ f ∈ D, f.length = n) (H : Hp h0 h nx (A ++ (L ++ C))) :
  ∃ sv, FrzN h0 h t (.agg [I s, .bool false, I most, I (wrapN D.length), sv, encT (D.take most), encT (distS n D)]) ∧ (sv = .nils ∨ ∃ c, sv = .lst 2 1 [I s, I c]) := by
 obtain ⟨o, rs, rows, sv, S, rfl, rfl, hrl, hcap, hrs, hsp⟩ := hT.ex
 have idx : ∀ x : Ob, x ∈ (A ++ ((.gro o 1 rows.length (rowsV n rows) :: .tab tb rs (tI (distS n D)) :: (S ++ rowsO rows (D.take most))) ++ C)) → ∃ k : Nat, (A ++ ((.gro o 1 rows.length (rowsV n rows) :: .tab tb rs (tI (distS n D)) :: (S ++ rowsO rows (D.take most))) ++ C))[k]? = some x := fun x hx => List.mem_iff_getElem?.1 hx
 have hSq := Sq.dist (n := n) hD
 have hrow : ∀ (i : Nat) v v', (rowsV n rows)[i]? = some v → ((D.take most).map encI)[i]? = some v' → FrzN h0 h v v' := by
  intro i v v' q1 q2
  rw [List.getElem?_map] at q1 q2
  cases e1 : rows[i]? with
  | none => rw [e1] at q1; cases q1
  | some r =>
   cases e2 : (D.take most)[i]? with
   | none => rw [e2] at q2; cases q2
   | some fl =>
    rw [e1] at q1; rw [e2] at q2
    have q1 := Option.some.inj q1
    have q2 := Option.some.inj q2
    subst q1 q2
    have hfl : fl.length = n := hD fl (List.mem_of_mem_take (List.mem_of_getElem? e2))
    have hm : Ob.arr r.1 (fl.map I) ∈ rowsO rows (D.take most) := List.mem_iff_getElem?.2 ⟨i, by rw [rowsO, List.getElem?_zipWith, e1, e2]⟩
    obtain ⟨k, hk⟩ := idx (.arr r.1 (fl.map I)) (by simp only [List.mem_append, List.mem_cons]; exact .inr (.inl (.inr (.inr (.inr hm)))))
    have := H.frzArr hk (hcap r (List.mem_of_getElem? e1)) (e := 1) (by simp [hfl]) fixdI2
    have e3 : AV.lst 1 n (fl.map I) = encI fl := by rw [← hfl]
    rw [e3] at this; exact this
 have hlist : FrzN h0 h (rowV o 1 rows.length) (encT (D.take most)) := by
  obtain ⟨k, hk⟩ := idx (.gro o 1 rows.length (rowsV n rows)) (by simp)
  have own := H.own _ (List.mem_of_getElem? hk)
  cases o with
  | none =>
   obtain ⟨_, q⟩ := own
   have : D.take most = [] := List.eq_nil_of_length_eq_zero (by omega)
   rw [this]; exact .lnils 1
  | some id =>
   obtain ⟨t, g1, g2, g3⟩ := own
   have harr : HasArr h id (rowsV n rows) := ⟨true, t, by rw [g1, g2], by rw [g2]; exact g3⟩
   have hoff := H.off id (List.mem_flatMap.2 ⟨_, List.mem_of_getElem? hk, by simp [Ob.names]⟩)
   have := HasArr.frzE (N := fun id => T.get Blk.no id h0 = .no) (O := fun v => (∃ id off, v = .ptr id off ∧ T.get Blk.no id h0 ≠ .no) ∨ (∃ id, v = .yld id ∧ T.get Blk.no id h0 ≠ .no) ∨ (∃ id, v = .map id ∧ T.get Blk.no id h0 ≠ .no) ∨ (∃ id off ln cap esz, v = .sl id off ln cap esz ∧ T.get Blk.no id h0 ≠ .no)) (cap := none) (e := 1) (n := rows.length) (l' := (D.take most).map encI) harr hoff trivial (by simp) (by rw [List.length_map, List.length_map, hrl]) (List.all_eq_true.2 fun v hv => by obtain ⟨x, _, rfl⟩ := List.mem_map.1 hv; rfl) hrow
   rw [hrl] at this ⊢
   exact this
 have htab : FrzN h0 h (.sl tb 0 n (some n) 1) (encT (distS n D)) := by
  obtain ⟨k, hk⟩ := idx (.tab tb rs (tI (distS n D))) (by simp)
  have := H.frzTab hk (cap := some n) (n := n) (Nat.le_refl _) (by simp [hSq.1]) (fun l hl v hv => by
   obtain ⟨r, _, rfl⟩ := List.mem_map.1 hl
   obtain ⟨x, _, rfl⟩ := List.mem_map.1 hv
   rfl)
  have e : AV.lst 1 n ((tI (distS n D)).map fun l => AV.lst 1 l.length l) = encT (distS n D) := by
   show _ = AV.lst 1 _ _
   rw [hSq.1]
   simp [tI, Function.comp_def]
  rw [e] at this; exact this
 have hsv : ∃ sv', FrzN h0 h sv sv' ∧ (sv' = .nils ∨ ∃ c, sv' = .lst 2 1 [I s, I c]) := by
  rcases hsp with ⟨rfl, _⟩ | ⟨id, c, rfl, rfl, _⟩
  ·exact ⟨.nils, .nils, .inl rfl⟩
  ·obtain ⟨k, hk⟩ := idx (.arr id [I s, I c]) (by simp)
   exact ⟨_, H.frzArr hk (cap := none) (n := 1) (e := 2) trivial rfl (fun v hv => by simp only [List.mem_cons, List.not_mem_nil, or_false] at hv; rcases hv with rfl | rfl <;> rfl), .inr ⟨c, rfl⟩⟩
 obtain ⟨sv', hs1, hs2⟩ := hsv
 refine ⟨sv', .agg _ _ rfl (by rcases hs2 with rfl | ⟨c, rfl⟩ <;> rfl) fun i v v' q1 q2 => ?_, hs2⟩
 match i with
 | 0 => simp only [List.getElem?_cons_zero, Option.some.injEq] at q1 q2; subst q1 q2; exact .int _ _
 | 1 => simp only [List.getElem?_cons_succ, List.getElem?_cons_zero, Option.some.injEq] at q1 q2; subst q1 q2; exact .bool _
 | 2 => simp only [List.getElem?_cons_succ, List.getElem?_cons_zero, Option.some.injEq] at q1 q2; subst q1 q2; exact .int _ _
 | 3 => simp only [List.getElem?_cons_succ, List.getElem?_cons_zero, Option.some.injEq] at q1 q2; subst q1 q2; exact .int _ _
 | 4 => simp only [List.getElem?_cons_succ, List.getElem?_cons_zero, Option.some.injEq] at q1 q2; subst q1 q2; exact hs1
 | 5 => simp only [List.getElem?_cons_succ, List.getElem?_cons_zero, Option.some.injEq] at q1 q2; subst q1 q2; exact hlist
 | 6 => simp only [List.getElem?_cons_succ, List.getElem?_cons_zero, Option.some.injEq] at q1 q2; subst q1 q2; exact htab
 | i + 7 => simp at q1
end Go.Ev
namespace Go.Ev
open Go Go.Proofs
variable {B : Nat}
theorem sGW_tf2 (op : KW3 → OP) (h : T Blk) (nx : Pa) (k : KW3) : sGW (.bool true) false op h nx k = k .undef h nx := nr rfl
theorem sGW_ff2 (op : KW3 → OP) (h : T Blk) (nx : Pa) (k : KW3) : sGW (.bool false) false op h nx k = op k := nr rfl
theorem light62 {n : Nat} {lines : List (List Int)} (hm : lines.length ≤ 1000) (hl : ∀ l ∈ lines, AscL n l ∧ l.length ≤ 1000) : Pure Tryz.prog B 62 [.agg [I n, encT lines]] (fun v => ∃ b, v = .bool b) := by
 refine pure_hp fun h nx K H0 hK => by_body tbl_ok dreg 100000 fun hf => ?_
 rw [F62.go]
 refine H0.box (l := [I n, encT lines]) rfl fun bx h1 nx1 H1 => ?_
 have ret : ∀ b, K (.bool b) h1 nx1 = .ok True := fun b => hK _ _ _ _ _ H1 (frz_fixd rfl) ⟨b, rfl⟩
 rw [sFx, H1.load (k := 0) (i := 0) rfl rfl]
 simp only [sLeq]
 have go : ∀ z6, IR.run F62.b2 (CS Tryz.prog B) 100000 (fnO F62.res K) (IR.run F62.b9 (CS Tryz.prog B) 100000 (fnO F62.res K) (retK F62.res K)) (F62.fr (.agg [I n, encT lines]) (.ptr bx 0) (.bool false) (I 0) (I 0) .undef z6 .undef .undef) h1 nx1 = .ok True := by
  intro z6
  refine F62.L2 (fun m x3 x4 h' nx' => ∃ i c : Nat, x3 = I c ∧ x4 = I i ∧ m = lines.length - i ∧ i ≤ lines.length ∧ c ≤ i ∧ h' = h1 ∧ nx' = nx1) (m := lines.length) (by omega) ⟨0, 0, rfl, rfl, by omega, by omega, by omega, rfl, rfl⟩ ?_
  rintro m x3 x4 x5 x7 x8 _ _ R ⟨i, c, rfl, rfl, rfl, hi, hc, rfl, rfl⟩ hR
  rw [sFx, H1.load (k := 0) (i := 0 + 1) rfl rfl]
  simp only [sLen_lst, sLss]
  by_cases hlt : i < lines.length
  ·simp only [show (i : Int) < (lines.length : Int) by omega, decide_true, sCond_t]
   have hx : lines[i]? = some lines[i] := List.getElem?_eq_getElem hlt
   obtain ⟨ha, hlw⟩ := hl _ (List.getElem_mem hlt)
   have hpos : 0 < lines[i].length := List.length_pos_iff.2 ha.1
   have hg : lines[i][lines[i].length - 1]? = some (lines[i][lines[i].length - 1]'(by omega)) := List.getElem?_eq_getElem (by omega)
   rw [sFx, H1.load (k := 0) (i := 0 + 1) rfl rfl, sIxL rfl hlt, ldL (getT hx)]
   simp only [sLen_lst]
   rw [sSub (by omega), sIxL (i := lines[i].length - 1) (by omega) (by omega), ldL (getI hg)]
   simp only [sLeq]
   by_cases c5 : lines[i][lines[i].length - 1]'(by omega) ≤ 5
   ·simp only [c5, decide_true, sCond_t]
    rw [sAdd (by omega), sAdd (by omega)]
    exact hR _ _ _ _ _ _ _ _ (by omega) ⟨i + 1, c + 1, rfl, rfl, rfl, by omega, by omega, rfl, rfl⟩
   ·simp only [c5, decide_false, sCond_f]
    rw [sAdd (by omega)]
    exact hR _ _ _ _ _ _ _ _ (by omega) ⟨i + 1, c, rfl, rfl, rfl, by omega, by omega, rfl, rfl⟩
  ·simp only [show ¬ (i : Int) < (lines.length : Int) by omega, decide_false, sCond_f]
   rw [F62.k9]
   simp only [sGeq]
   exact ret _
 by_cases c6 : (n : Int) ≤ 6
 ·simp only [c6, decide_true, sG_tf, sPick_t, sCond_t]
  exact ret _
 ·simp only [c6, decide_false, sG_ff, sFx]
  rw [H1.load (k := 0) (i := 0) rfl rfl]
  simp only [sGtr, sPick_f]
  by_cases c9 : (9 : Int) < (n : Int)
  ·simp only [c9, decide_true, sCond_t]
   exact ret _
  ·simp only [c9, decide_false, sCond_f]
   exact go _
end Go.Ev
namespace Go.Ev
open Go Go.Proofs
variable {B : Nat}
theorem sort152 {h0 h : T Blk} {nx p : Pa} {L : List Ob} {k n : Nat} {o : Option Pa} {l : List Int} {K : Kw Prop} (hj : ∀ B, JOk Tryz.prog B hookS) (H : Hp h0 h nx L) (hk : L[k]? = some (.gro o 1 n (l.map I))) (hn : n ≤ 1000000)
  (hK : ∀ h', Hp h0 h' nx (L.set k (.gro o 1 n ((srt l).map I))) → K (.tup []) h' nx = .ok True) : (CS Tryz.prog B).fn 152 p [rowV o 1 n] h nx K = .ok True := by
 have own := H.own _ (List.mem_of_getElem? hk)
 cases o with
 | none =>
  obtain ⟨q1, rfl⟩ := own
  obtain rfl : l = [] := by simpa using q1
  refine CS_hook (hj B) (v := .tup []) (h2 := h) rfl (hK h (H.cast ?_))
  have e : (srt ([] : List Int)).map I = [] := by simp [srt]
  rw [e, (getSplit hk).2]; exact (getSplit hk).1
 | some id =>
  obtain ⟨t, h1, h2, h3⟩ := own
  rw [Nat.mul_one] at h1 h2 h3
  have e1 : sortJ (.sl id 0 n none 1) h = some (T.set Blk.no (Blk.cells true n (wrList ((srt l).map I) t 0)) id h) := by
   show (match T.get Blk.no id h with
    | .cells op m t => bif Nat.beq 1 1 && Nat.ble (0 + n) m && Nat.ble n 1000000 then (match intsA (rdList t 0 n) with
     | some l => some (T.set Blk.no (Blk.cells op m (wrList ((srt l).map I) t 0)) id h)
     | none => none) else none
    | _ => none) = _
   rw [h1]
   show (bif Nat.beq 1 1 && Nat.ble (0 + n) n && Nat.ble n 1000000 then (match intsA (rdList t 0 n) with
     | some l => some (T.set Blk.no (Blk.cells true n (wrList ((srt l).map I) t 0)) id h)
     | none => none) else none) = _
   rw [Nat.ble_eq_true_of_le (by omega), Nat.ble_eq_true_of_le hn, h3, intsA_map]; rfl
  have e2 : hookS 152 [rowV (some id) 1 n] h = some (.tup [], T.set Blk.no (Blk.cells true n (wrList ((srt l).map I) t 0)) id h) := by
   show (match sortJ (.sl id 0 n none 1) h with
    | some h => some ((.tup [] : AV), h)
    | none => none) = _
   rw [e1]
  refine CS_hook (hj B) e2 (hK _ (H.upd hk (by simp [Ob.names]) rfl ⟨_, by rw [T.get_set_same, Nat.mul_one], by simpa using h2, ?_⟩))
  have := rdList_wr t [] ((srt l).map I) 0 rfl
  rw [Nat.zero_add, List.nil_append] at this
  have hl : ((srt l).map I).length = n := by simpa using h2
  rw [hl] at this
  rw [Nat.mul_one]; exact this
theorem sorted125 {l : List Int} (hj : ∀ B, JOk Tryz.prog B hookS) (hl : l.length ≤ 100000) : Pure Tryz.prog B 125 [.fn 153 (.of 153) [.fp [encI l]]] (· = encI (srt l)) := by
 refine pure_hp fun h nx K H0 hK => by_body tbl_ok dreg 100 fun hf => ?_
 rw [F125.go]
 refine CS_fn_mono (p := .of 151) (K := fun v1 h2 n3 => (CS Tryz.prog B).fn 152 (.of 152) [v1] h2 n3 fun v4 h5 n6 => K v1 h5 n6) (by_body tbl_ok dreg 100 fun hf => ?_) fun _ _ _ _ q => q
 rw [F151.go]
 refine append173 hl H0 fun o h1 nx1 H1 => ?_
 refine sort152 hj H1 (k := 0) rfl (by omega) fun h2 H2 => ?_
 refine hK _ _ _ _ _ H2 (H2.frzGro (k := 0) rfl (by intro v hv; obtain ⟨t, _, rfl⟩ := List.mem_map.1 hv; rfl)) ?_
 show _ = AV.lst 1 _ _
 rw [srt_length]
def loS (d : List Int) : Int := wsum (fun i => (d.length : Int) - i) d d.length
def hiS (d : List Int) : Int := wsum (fun i => (i : Int) + 1) d d.length
def bndV (cells : Nat) (lines : List (List Int)) : AV := .tup [I ((loS (srt (degS cells lines)) + lines.length - 1).tdiv lines.length), I ((hiS (srt (degS cells lines))).tdiv lines.length)]
theorem quo_bd {a : Int} {n : Nat} (h : 0 ≤ a) (hn : 0 < n) : 0 ≤ a.tdiv n ∧ a.tdiv n ≤ a := by
 rw [Int.tdiv_eq_ediv_of_nonneg h]
 exact ⟨Int.ediv_nonneg h (by omega), Int.ediv_le_self _ h⟩
theorem sQuoN {a : Int} {n : Nat} {K : AV → OP} (h : 0 ≤ a) (h2 : a ≤ 9223372036854775807) (hn : 0 < n) : sBin .quo .int (I a) (I (n : Int)) K = K (I (a.tdiv n)) := by
 obtain ⟨q1, q2⟩ := quo_bd h hn
 have e : sBin .quo .int (I a) (I (n : Int)) K = (bif ieq (n : Int) 0 then Out.no 5 else intK (IntKind.wrap .i64 (a.tdiv n)) fun z => K (.int .i64 z)) := rfl
 rw [e, ieq_eq]
 have hb : ((n : Int) == 0) = false := by simp; omega
 rw [hb, cond_false, intK_eq, wrap64_in (by omega)]
theorem bounds83 {cells : Nat} {lines : List (List Int)} (hj : ∀ B, JOk Tryz.prog B hookS) (h0 : 0 < lines.length) (hcl : cells ≤ 256) (hn : lines.length ≤ 128) (hl : ∀ l ∈ lines, l.length ≤ 1000 ∧ ∀ c ∈ l, 0 ≤ c ∧ c < (cells : Int)) : Pure Tryz.prog B 83 [.agg [I cells, encT lines]] (· = bndV cells lines) := by
 refine pure_hp fun h nx K H0 hK => by_body tbl_ok dreg 10000000 fun hf => ?_
 rw [F83.go]
 refine H0.box (l := [I cells, encT lines]) rfl fun bx h1 nx1 H1 => ?_
 rw [H1.loadN (k := 0) (n := 2) rfl rfl]
 refine deg95 hcl hn hl _ _ _ _ ?_
 rintro _ rfl _
 refine values126 _ _ _ _ ?_
 rintro _ rfl _
 refine sorted125 hj (by rw [degS_length]; omega) _ _ _ _ ?_
 rintro _ rfl _
 simp only [sLen_lst]
 have hM : Bd (srt (degS cells lines)) 128000 := (degS_bd (W := 1000) fun l hm => ⟨(hl l hm).1, fun c hc => by have := (hl l hm).2 c hc; omega⟩).srt.mono (by omega)
 have hlen : (srt (degS cells lines)).length = cells := by rw [srt_length, degS_length]
 unfold bndV at hK
 generalize srt (degS cells lines) = d at *
 have hf1 : ∀ j, j < d.length → 0 ≤ (j : Int) + 1 ∧ (j : Int) + 1 ≤ ((256 : Nat) : Int) := fun j hj => by omega
 have hf2 : ∀ j, j < d.length → 0 ≤ (d.length : Int) - j ∧ (d.length : Int) - j ≤ ((256 : Nat) : Int) := fun j hj => by omega
 refine F83.L1 (fun m z5 z6 z12 h' nx' => ∃ i : Nat, z12 = I i ∧ z5 = I (wsum (fun i => (d.length : Int) - i) d i) ∧ z6 = I (wsum (fun i => (i : Int) + 1) d i) ∧ d.length - i = m ∧ i ≤ d.length ∧ h' = h1 ∧ nx' = nx1) (m := d.length) (by omega) ⟨0, rfl, rfl, rfl, by omega, by omega, rfl, rfl⟩ ?_
 rintro m z5 z6 z7 z8 z12 z13 h1 nx1 R ⟨i, rfl, rfl, rfl, rfl, hi, rfl, rfl⟩ hR
 obtain ⟨w1, w2⟩ := wsum_bd hM hf1 i hi
 obtain ⟨w3, w4⟩ := wsum_bd hM hf2 i hi
 simp (disch := omega) only [sAdd, sSub, sMul, sEql, sNeq, sLss, sLeq, sGtr, sGeq, sPick_t, sPick_f, sCond_t, sCond_f, sG_tt, sG_ff, sG_tf, sG_ft, sNot_b, sExt0, sExt1, sExt2, sPart0, sPart1, sPart2, sLen_lst, sLen_sl, sLen_nils, sSame_refl, decide_true, decide_false, Bool.not_true, Bool.not_false, sChk_t]
 by_cases hlt : i < d.length
 ·simp only [show (i : Int) < (d.length : Int) by omega, decide_true, sCond_t]
  have hx : d[i]? = some (d.getD i 0) := by rw [List.getD_eq_getElem?_getD, List.getElem?_eq_getElem hlt]; rfl
  obtain ⟨a1, a2⟩ := wsum_step hM hf1 hlt
  obtain ⟨a3, a4⟩ := wsum_step hM hf2 hlt
  rw [sIxL rfl hlt, ldL (getI hx)]
  rw [sMul (by omega), sAdd (by omega), sMul (by omega), sAdd (by omega)]
  try rw [sAdd (by omega)]
  exact hR _ _ _ _ _ _ _ _ _ (by omega) ⟨i + 1, rfl, rfl, rfl, rfl, by omega, rfl, rfl⟩
 ·simp only [show ¬ (i : Int) < (d.length : Int) by omega, decide_false, sCond_f]
  obtain rfl : i = d.length := by omega
  rw [F83.k8, sFx, H1.load (k := 0) (i := 0 + 1) rfl rfl]
  simp only [sLen_lst]
  rw [sAdd (by omega), sSub (by omega), sQuoN (by omega) (by omega) h0, sQuoN (by omega) (by omega) h0]
  exact hK _ _ _ _ _ H1 (frz_tup2 (frz_fixd rfl) (frz_fixd rfl)) rfl
end Go.Ev
namespace Go.Ev
open Go Go.Proofs
variable {B : Nat}
def flat2 (q : List (Int × Int)) : List AV := q.flatMap fun p => [I p.1, I p.2]
abbrev encP (q : List (Int × Int)) : AV := .lst 2 q.length (flat2 q)
theorem flat2_app (a b : List (Int × Int)) : flat2 (a ++ b) = flat2 a ++ flat2 b := by simp [flat2]
theorem flat2_drop : ∀ (q : List (Int × Int)) (i : Nat), (flat2 q).drop (i * 2) = flat2 (q.drop i)
 | q, 0 => by simp
 | [], i + 1 => by simp [flat2]
 | p :: q, i + 1 => by
  rw [List.drop_succ_cons, ← flat2_drop q i, show (i + 1) * 2 = i * 2 + 1 + 1 by omega]
  rfl
theorem flat2_mem {q : List (Int × Int)} : ∀ v ∈ flat2 q, ∃ x, v = I x := fun v hv => by
 obtain ⟨p, _, h⟩ := List.mem_flatMap.1 hv
 simp only [List.mem_cons, List.not_mem_nil, or_false] at h
 rcases h with rfl | rfl
 ·exact ⟨_, rfl⟩
 ·exact ⟨_, rfl⟩
theorem fixd_flat2 {q : List (Int × Int)} : ∀ v ∈ flat2 q, fixd v = true := fun v hv => by obtain ⟨x, rfl⟩ := flat2_mem v hv; rfl
theorem fixd_encP (q : List (Int × Int)) : fixd (encP q) = true := fixd_all fixd_flat2
theorem flat2_cons {q : List (Int × Int)} {i : Nat} (h : i < q.length) : (flat2 q).drop (i * 2) = I q[i].1 :: I q[i].2 :: (flat2 q).drop ((i + 1) * 2) := by
 rw [flat2_drop, flat2_drop, List.drop_eq_getElem_cons h]; rfl
def loB (n : Nat) (lines : List (List Int)) : Int := (loS (srt (degS n lines)) + lines.length - 1).tdiv lines.length
def hiB (n : Nat) (lines : List (List Int)) : Int := (hiS (srt (degS n lines))).tdiv lines.length
theorem AscL.len {n : Nat} {l : List Int} (h : AscL n l) : l.length ≤ n := by
 obtain ⟨t, ht⟩ := sub_perm l ((List.range n).map fun (i : Nat) => (i : Int)) (h.2.1.imp fun {x y} q e => by omega) fun x hx => by
  have := h.2.2 x hx
  exact List.mem_map.2 ⟨x.toNat, List.mem_range.2 (by omega), by omega⟩
 have := ht.length_eq
 simp at this
 omega
theorem bnd_bd {n : Nat} {lines : List (List Int)} (h0 : 0 < lines.length) (hn : n ≤ 9) (hm : lines.length ≤ 128) (hl : ∀ l ∈ lines, AscL n l) : 0 ≤ loB n lines ∧ loB n lines ≤ 200000 ∧ 0 ≤ hiB n lines ∧ hiB n lines ≤ 200000 := by
 have hM : Bd (srt (degS n lines)) 1152 := (degS_bd (W := 9) fun l hm => ⟨Nat.le_trans (hl l hm).len hn, fun c hc => by have := (hl l hm).2.2 c hc; omega⟩).srt.mono (by omega)
 have hlen : (srt (degS n lines)).length = n := by rw [srt_length, degS_length]
 unfold loB hiB loS hiS
 generalize srt (degS n lines) = d at *
 have hf1 : ∀ j, j < d.length → 0 ≤ (j : Int) + 1 ∧ (j : Int) + 1 ≤ ((9 : Nat) : Int) := fun j hj => by omega
 have hf2 : ∀ j, j < d.length → 0 ≤ (d.length : Int) - j ∧ (d.length : Int) - j ≤ ((9 : Nat) : Int) := fun j hj => by omega
 obtain ⟨w1, w2⟩ := wsum_bd hM hf1 d.length (Nat.le_refl _)
 obtain ⟨w3, w4⟩ := wsum_bd hM hf2 d.length (Nat.le_refl _)
 obtain ⟨q1, q2⟩ := quo_bd (a := wsum (fun i => (d.length : Int) - i) d d.length + lines.length - 1) (by omega) h0
 obtain ⟨q3, q4⟩ := quo_bd (a := wsum (fun i => (i : Int) + 1) d d.length) (by omega) h0
 refine ⟨q1, ?_, q3, ?_⟩ <;> (have : d.length ≤ 9 := by omega) <;> omega
def stpC (k : Nat) (_ : List Int) : Nat × Bool := (k + 1, true)
theorem foldC : ∀ (l : List (List Int)) (k : Nat), foldE stpC k l = (k + l.length, true)
 | [], k => rfl
 | x :: l, k => by
  show foldE stpC (k + 1) l = _
  rw [foldC l, List.length_cons]
  congr 1; omega
def F113.LC (tm : T AV) (b7 id : Pa) (X : List Ob) (_ : Bool) (k : Nat) (L : List Ob) : Prop := L = .raw id (.loop .ready .none tm [.of 10] F113.b9 F113.b10) :: .arr b7 [I (wrapN k)] :: X
theorem F113.yc {h0 : T Blk} {n : Nat} {lines : List (List Int)} {s : Int} {b7 id : Pa} {X : List Ob} {x0 x1 x2 x3 x4 x5 x6 x8 x9 x10 x11 : AV} (f bu bf be bp bg : Pa) : YC B h0 n lines s f bu bf be bp bg id (F113.LC (F113.fr x0 x1 x2 x3 x4 x5 x6 (.ptr b7 0) x8 x9 x10 x11) b7 id X) stpC := by
 rintro k fl m h nx K L hfl hrg rfl H hK
 refine by_round (fns := tbl) dreg 100 fun hf => ?_
 rw [F113.y10 (getLoop H (k := 6) rfl) rfl]
 have H1 := H.setRaw (k := 6) rfl (b' := .loop .busy .none (F113.fr x0 x1 x2 x3 x4 x5 x6 (.ptr b7 0) x8 x9 x10 x11) [.of 10] F113.b9 F113.b10) (by intro e; cases e)
 rw [H1.load (k := 7) (i := 0) rfl rfl, sAddW, wrapN_succ]
 refine H1.store (k := 7) rfl (by simp) rfl fun h2 H2 => ?_
 refine H2.rend (k := 6) rfl fun h3 H3 => ?_
 exact hK _ _ _ rfl H3
theorem spectrum113 {n : Nat} {lines : List (List Int)} (hj : ∀ B, JOk Tryz.prog B hookS) (h0 : 0 < lines.length) (hn9 : n ≤ 9) (hm : lines.length ≤ 128) (hl : ∀ l ∈ lines, AscL n l ∧ l.length ≤ 1000) : Pure Tryz.prog B 113 [.agg [I n, encT lines]] (· = encP (spV lines n (loB n lines) (hiB n lines + 1 - loB n lines).toNat)) := by
 refine pure_hp fun h nx K H0 hK => by_body tbl_ok dreg 100000000 fun hf => ?_
 obtain ⟨d1, d2, d3, d4⟩ := bnd_bd h0 hn9 hm fun l h => (hl l h).1
 rw [F113.go]
 refine H0.box (l := [I n, encT lines]) rfl fun bx h1 nx1 H1 => ?_
 rw [H1.loadN (k := 0) (n := 2) rfl rfl]
 refine bounds83 hj h0 (by omega) hm (fun l h => ⟨(hl l h).2, (hl l h).1.2.2⟩) _ _ _ _ ?_
 rintro _ rfl _
 unfold bndV
 simp only [sExt0, sExt1]
 rw [show (loS (srt (degS n lines)) + lines.length - 1).tdiv lines.length = loB n lines from rfl, show (hiS (srt (degS n lines))).tdiv lines.length = hiB n lines from rfl]
 generalize loB n lines = lo at *
 generalize hiB n lines = hi at *
 have hcnt : ∀ s, cntS lines n s ≤ 1000000000 := fun s => Nat.le_trans (enum_len n []) (Nat.le_trans (Nat.pow_le_pow_left hn9 n) (Nat.le_trans (Nat.pow_le_pow_right (by omega) hn9) (by decide)))
 refine F113.L1 (fun m x3 x6 x10 x11 h' nx' => ∃ (i : Nat) (o : Option Pa) (X : List Ob), x6 = I (lo + i) ∧ m = (hi + 1 - lo).toNat - i ∧ i ≤ (hi + 1 - lo).toNat ∧ x3 = rowV o 2 (spV lines n lo i).length ∧ Hp h h' nx' (.gro o 2 (spV lines n lo i).length (flat2 (spV lines n lo i)) :: .arr bx [I n, encT lines] :: X)) (m := (hi + 1 - lo).toNat) (by omega)
  ⟨0, none, [], by simp, by omega, by omega, rfl, H1.addGro 2⟩ ?_
 rintro m x3 x6 x7 x8 x9 x10 x11 h2 nx2 R ⟨i, o, X, rfl, rfl, hi', rfl, H2⟩ hR
 simp only [sLeq]
 have hsl := spV_len lines n lo i
 by_cases hlt : lo + i ≤ hi
 case neg =>
  simp only [hlt, decide_false, sCond_f]
  rw [F113.k14]
  obtain rfl : i = (hi + 1 - lo).toNat := by omega
  exact hK _ _ _ _ _ H2 (H2.frzGro (k := 0) rfl fixd_flat2) rfl
 simp only [hlt, decide_true, sCond_t]
 refine H2.alloc fun b7 h3 nx3 H3 => ?_
 refine H3.store (k := 0) rfl (by simp) rfl fun h4 H4 => ?_
 rw [H4.loadN (k := 2) (n := 2) rfl rfl]
 refine normal107 _ _ _ _ ?_
 rintro _ rfl _
 have H4' : Hp h h4 nx3 (.arr b7 [I (wrapN 0)] :: .gro o 2 (spV lines n lo i).length (flat2 (spV lines n lo i)) :: .arr bx [I n, encT lines] :: X) := H4
 refine H4'.rf (g := 136) (p := .of 136) (cap := [.fp [I n, encT lines], .fp [I (lo + i)]]) rfl fun id h5 nx5 H5 => ?_
 refine normal136 (LC := F113.LC _ b7 id (.gro o 2 (spV lines n lo i).length (flat2 (spV lines n lo i)) :: .arr bx [I n, encT lines] :: X)) (stp := stpC) (st := 0) hn9 (by omega) hl (by omega) (fun f bu bf be bp bg => F113.yc f bu bf be bp bg) rfl H5 fun h6 nx6 L' hL' H6 => ?_
 rw [foldC] at hL'
 simp only [Nat.zero_add] at hL'
 unfold F113.LC at hL'
 subst hL'
 refine H6.rfEnd fun h7 H7 => ?_
 show Ev.rfEnd _ _ .ready .none _ h7 nx6 = _
 rw [rfEnd_on, F113.k12, H7.load (k := 0) (i := 0) rfl rfl]
 have hwc : wrapN (enumN lines (lo + (i : Int)) n n []).length = ((cntS lines n (lo + i) : Nat) : Int) := wrap64_in (by have : (enumN lines (lo + (i : Int)) n n []).length ≤ 1000000000 := hcnt (lo + i); omega)
 rw [hwc]
 have hC := hcnt (lo + i)
 simp only [sGtr]
 have e1 : lo + (i : Int) + 1 = lo + ((i + 1 : Nat) : Int) := by omega
 by_cases c : 0 < cntS lines n (lo + i)
 ·simp only [show (0 : Int) < ((cntS lines n (lo + i) : Nat) : Int) by omega, decide_true, sCond_t]
  rw [H7.load (k := 0) (i := 0) rfl rfl, hwc]
  have eb : ∀ (x y : Int) (K' : AV → OP), sBuild [(I 0), (I 0)] [(0, 1, I x), (1, 1, I y)] K' = K' (.agg [I x, I y]) := fun x y K' => nr rfl
  rw [eb]
  refine H7.bslice (l := [I (lo + i), I (cntS lines n (lo + i))]) rfl fun b8 h8 nx8 H8 => ?_
  refine H8.appN (k := 2) (o := o) (c := 1) (new := [I (lo + i), I (cntS lines n (lo + i))]) rfl (HasArr.rd (l := [I (lo + i), I (cntS lines n (lo + i))]) (n := 1) (e := 2) (H8.own _ (List.mem_cons_self ..)) rfl) rfl rfl (by decide) (by decide) (by omega) fun o' h9 nx9 _ H9 => ?_
  rw [F113.k13, sAdd (by omega), e1]
  have es : spV lines n lo (i + 1) = spV lines n lo i ++ [(lo + (i : Int), ((cntS lines n (lo + i) : Nat) : Int))] := by
   rw [spV_succ, spF, if_pos c]; rfl
  have H10 := H9.drop.drop
  refine hR _ _ _ _ _ _ _ _ _ _ (by omega) ⟨i + 1, o', X, rfl, rfl, by omega, by rw [es]; simp, H10.cast ?_⟩
  rw [es, flat2_app]
  simp [flat2]
 ·simp only [show ¬ (0 : Int) < ((cntS lines n (lo + i) : Nat) : Int) by omega, decide_false, sCond_f]
  rw [F113.k13, sAdd (by omega), e1]
  have es : spV lines n lo (i + 1) = spV lines n lo i := by
   rw [spV_succ, spF, if_neg c]; simp
  refine hR _ _ _ _ _ _ _ _ _ _ (by omega) ⟨i + 1, o, X, rfl, rfl, by omega, by rw [es], ?_⟩
  rw [es]
  exact H7.drop
end Go.Ev
namespace Go.Ev
open Go Go.Proofs
variable {B : Nat}
end Go.Ev
namespace Go.Ev
open Go Go.Proofs
variable {B : Nat}
theorem sAx0 {K : AV → OP} {id : Pa} {off : Nat} : sAaddr 1 2 (.ptr id off) (I 0) K = K (.ptr id off) := by
 show (bif Nat.ble (0 + 1) 2 then natK (off + 0 * 1) (fun o => K (.ptr id o)) else .no 14) = _
 rw [Nat.ble_eq_true_of_le (by omega), natK_eq]; simp
theorem sAx1 {K : AV → OP} {id : Pa} {off : Nat} : sAaddr 1 2 (.ptr id off) (I 1) K = K (.ptr id (off + 1)) := by
 show (bif Nat.ble (1 + 1) 2 then natK (off + 1 * 1) (fun o => K (.ptr id o)) else .no 14) = _
 rw [Nat.ble_eq_true_of_le (by omega), natK_eq]; simp
end Go.Ev
namespace Go.Ev
open Go Go.Proofs
variable {B : Nat}
variable {n : Nat} {lines : List (List Int)} {us : Pa} {h0 : T Blk} {M : List Ob}
end Go.Ev
namespace Go.Ev
def dot : List Int → List Int → Int
 | x :: xs, y :: ys => x * y + dot xs ys
 | _, _ => 0
theorem dot_zip : ∀ (xs ys : List Int), dot xs ys = ((xs.zip ys).map fun p => p.1 * p.2).sum
 | [], ys => rfl
 | _ :: _, [] => rfl
 | x :: xs, y :: ys => by rw [dot, dot_zip xs ys]; rfl
theorem isum_perm {l l' : List Int} (h : l.Perm l') : l.sum = l'.sum := by
 induction h with
 | nil => rfl
 | cons x _ ih => rw [List.sum_cons, List.sum_cons, ih]
 | swap x y l => simp only [List.sum_cons]; omega
 | trans _ _ i1 i2 => exact i1.trans i2
def insI (y : Int) : List Int → List Int
 | [] => [y]
 | z :: zs => if y ≤ z then y :: z :: zs else z :: insI y zs
theorem insI_perm (y : Int) : ∀ zs : List Int, (insI y zs).Perm (y :: zs)
 | [] => .refl _
 | z :: zs => by
  rw [insI]
  split
  ·exact .refl _
  ·exact ((insI_perm y zs).cons z).trans (.swap _ _ _)
theorem insI_asc (y : Int) : ∀ {zs : List Int}, zs.Pairwise (· ≤ ·) → (insI y zs).Pairwise (· ≤ ·)
 | [], _ => by simp [insI]
 | z :: zs, h => by
  obtain ⟨h1, h2⟩ := List.pairwise_cons.1 h
  rw [insI]
  split
  ·rename_i c
   refine List.pairwise_cons.2 ⟨fun a ha => ?_, h⟩
   rcases List.mem_cons.1 ha with rfl | ha
   ·exact c
   ·have := h1 a ha; omega
  ·refine List.pairwise_cons.2 ⟨fun a ha => ?_, insI_asc y h2⟩
   rcases List.mem_cons.1 ((insI_perm y zs).mem_iff.1 ha) with rfl | ha
   ·omega
   ·exact h1 a ha
theorem dot_ins (y : Int) : ∀ (zs xs : List Int) (x : Int), (x :: xs).Pairwise (· ≤ ·) → xs.length = zs.length → dot (x :: xs) (y :: zs) ≤ dot (x :: xs) (insI y zs)
 | [], xs, x, _, _ => by rw [insI]; omega
 | z :: zs, [], x, _, h => by simp at h
 | z :: zs, x1 :: xs, x, hp, hl => by
  obtain ⟨h1, h2⟩ := List.pairwise_cons.1 hp
  rw [insI]
  split
  ·omega
  ·have ih := dot_ins y zs xs x1 h2 (by simpa using hl)
   have hx := h1 x1 (by simp)
   have hm : 0 ≤ (x1 - x) * (y - z) := Int.mul_nonneg (by omega) (by omega)
   have e : (x1 - x) * (y - z) = x1 * y - x1 * z - x * y + x * z := by
    rw [Int.sub_mul, Int.mul_sub, Int.mul_sub]; omega
   simp only [dot] at ih ⊢
   omega
def isrt : List Int → List Int
 | [] => []
 | y :: ys => insI y (isrt ys)
theorem isrt_perm : ∀ l : List Int, (isrt l).Perm l
 | [] => .refl _
 | y :: ys => (insI_perm y _).trans ((isrt_perm ys).cons y)
theorem isrt_asc : ∀ l : List Int, (isrt l).Pairwise (· ≤ ·)
 | [] => .nil
 | y :: ys => insI_asc y (isrt_asc ys)
theorem dot_isrt : ∀ (ys xs : List Int), xs.Pairwise (· ≤ ·) → xs.length = ys.length → dot xs ys ≤ dot xs (isrt ys)
 | [], xs, _, _ => by rw [isrt]; omega
 | y :: ys, [], _, h => by simp at h
 | y :: ys, x :: xs, hp, hl => by
  have ih := dot_isrt ys xs (List.pairwise_cons.1 hp).2 (by simpa using hl)
  have := dot_ins y (isrt ys) xs x hp (by rw [(isrt_perm ys).length_eq]; simpa using hl)
  rw [isrt]
  simp only [dot] at this ⊢
  omega
theorem dot_le (d f : List Int) (h : d.length = f.length) : dot d f ≤ dot (srt d) (srt f) := by
 let ps := (d.zip f).mergeSort fun a b => decide (a.1 ≤ b.1)
 have hp : ps.Perm (d.zip f) := List.mergeSort_perm _ _
 have hs : ps.Pairwise fun a b => a.1 ≤ b.1 := (List.pairwise_mergeSort (le := fun a b : Int × Int => decide (a.1 ≤ b.1)) (by intro a b c; simp; omega) (by intro a b; simp; omega) (d.zip f)).imp (by intro a b h; simpa using h)
 have e1 : ps.map (·.1) = srt d := srt_unique (by
  have := hp.map (·.1)
  rwa [List.map_fst_zip (by omega)] at this) (List.pairwise_map.2 hs)
 have p2 : (ps.map (·.2)).Perm f := by
  have := hp.map (·.2)
  rwa [List.map_snd_zip (by omega)] at this
 have e3 : dot d f = dot (ps.map (·.1)) (ps.map (·.2)) := by
  have hz : ∀ l : List (Int × Int), dot (l.map (·.1)) (l.map (·.2)) = (l.map fun p => p.1 * p.2).sum := by
   intro l
   induction l with
   | nil => rfl
   | cons p l ih => rw [List.map_cons, List.map_cons, dot, ih]; rfl
  rw [hz, dot_zip]
  exact (isum_perm (hp.map _)).symm
 have hle := dot_isrt (ps.map (·.2)) (ps.map (·.1)) (List.pairwise_map.2 hs) (by simp)
 rw [e3]
 have e4 : isrt (ps.map (·.2)) = srt f := srt_unique ((isrt_perm _).trans p2) (isrt_asc _)
 rw [e4, e1] at hle
 rw [e1]; exact hle
theorem dot_wsum (g : Nat → Int) (d : List Int) : ∀ i, i ≤ d.length → dot (d.take i) ((List.range i).map g) = wsum g d i
 | 0, _ => by simp [dot, wsum]
 | i + 1, h => by
  have hx : d[i]? = some d[i] := List.getElem?_eq_getElem h
  have app : ∀ (xs ys : List Int) (x y : Int), xs.length = ys.length → dot (xs ++ [x]) (ys ++ [y]) = dot xs ys + x * y := by
   intro xs
   induction xs with
   | nil => intro ys x y h; obtain rfl : ys = [] := List.eq_nil_of_length_eq_zero h.symm; simp [dot]
   | cons a xs ih =>
    intro ys x y h
    cases ys with
    | nil => simp at h
    | cons b ys => rw [List.cons_append, List.cons_append, dot, ih ys x y (by simpa using h), dot]; omega
  rw [List.range_succ, List.map_append, List.take_add_one, hx]
  show dot (d.take i ++ [d[i]]) (_ ++ [g i]) = _
  rw [app _ _ _ _ (by simp; omega), dot_wsum g d i (by omega), wsum, List.getD_eq_getElem?_getD, hx]; rfl
theorem dot_compl (N : Int) : ∀ (d f : List Int), d.length = f.length → dot d (f.map fun x => N - x) = N * d.sum - dot d f
 | [], [], _ => by simp [dot]
 | [], _ :: _, h => by simp at h
 | _ :: _, [], h => by simp at h
 | x :: d, y :: f, h => by
  rw [List.map_cons, dot, dot, dot_compl N d f (by simpa using h), List.sum_cons, Int.mul_sub, Int.mul_add, Int.mul_comm x N]; omega
theorem dot_set : ∀ (d f : List Int) (k : Nat) (v : Int), k < d.length → d.length = f.length → dot (d.set k v) f = dot d f + (v - d.getD k 0) * f.getD k 0
 | [], _, _, _, h, _ => by simp at h
 | _ :: _, [], _, _, _, h => by simp at h
 | x :: d, y :: f, 0, v, _, _ => by
  simp only [List.set_cons_zero, dot, List.getD_cons_zero, Int.sub_mul]; omega
 | x :: d, y :: f, k + 1, v, h, h2 => by
  simp only [List.set_cons_succ, dot, List.getD_cons_succ, dot_set d f k v (by simpa using h) (by simpa using h2)]; omega
theorem dot_line : ∀ (l d f : List Int), (∀ c ∈ l, c.toNat < d.length) → d.length = f.length → dot (l.foldl incr d) f = dot d f + lsumZ l f
 | [], d, f, _, _ => by simp [lsumZ]
 | c :: l, d, f, h, hl => by
  rw [List.foldl_cons, dot_line l (incr d c) f (fun x hx => by rw [incr_length]; exact h x (by simp [hx])) (by rw [incr_length]; exact hl), incr, dot_set _ _ _ _ (h c (by simp)) hl]
  have e : d.getD c.toNat 0 + 1 - d.getD c.toNat 0 = 1 := by omega
  rw [e]
  simp only [lsumZ, List.map_cons, List.sum_cons]; omega
theorem dot_deg {n : Nat} {lines : List (List Int)} {f : List Int} (hl : ∀ l ∈ lines, AscL n l) (hf : f.length = n) : dot (degS n lines) f = (lines.map fun l => lsumZ l f).sum := by
 have key : ∀ (ls : List (List Int)) (d : List Int), (∀ l ∈ ls, AscL n l) → d.length = n → dot (ls.foldl (fun d l => l.foldl incr d) d) f = dot d f + (ls.map fun l => lsumZ l f).sum := by
  intro ls
  induction ls with
  | nil => intro d _ _; simp
  | cons l ls ih =>
   intro d h hd
   rw [List.foldl_cons, ih _ (fun x hx => h x (by simp [hx])) (by rw [foldl_incr_length]; exact hd), dot_line l d f (fun c hc => by have := (h l (by simp)).2.2 c hc; omega) (by omega)]
   simp only [List.map_cons, List.sum_cons]; omega
 rw [degS, key lines _ hl (by simp)]
 have : ∀ (k : Nat) (f : List Int), dot (List.replicate k 0) f = 0 := by
  intro k
  induction k with
  | zero => intro f; rfl
  | succ k ih =>
   intro f
   cases f with
   | nil => rfl
   | cons y f => rw [List.replicate_succ, dot, ih]; simp
 rw [this]; omega
theorem sum_all {lines : List (List Int)} {f : List Int} {s : Int} (h : ∀ l ∈ lines, lsumZ l f = s) : (lines.map fun l => lsumZ l f).sum = lines.length * s := by
 induction lines with
 | nil => simp
 | cons l ls ih =>
  rw [List.map_cons, List.sum_cons, h l (by simp), ih fun x hx => h x (by simp [hx]), List.length_cons, Int.natCast_add, Int.add_mul]; simp; omega
theorem sum_bounds {n : Nat} {lines : List (List Int)} {f : List Int} {s : Int} (h0 : 0 < lines.length) (hl : ∀ l ∈ lines, AscL n l) (hf : f.length = n) (hn : Nrm f) (hs : ∀ l ∈ lines, lsumZ l f = s) :
  (lines.length : Int) * s ≤ wsum (fun i => (i : Int) + 1) (srt (degS n lines)) n ∧ wsum (fun i => (n : Int) - i) (srt (degS n lines)) n ≤ lines.length * s := by
 have e := dot_deg hl hf
 rw [sum_all hs] at e
 have hdl : (degS n lines).length = n := degS_length n lines
 generalize hd : degS n lines = d at *
 have hsl : (srt d).length = n := by rw [srt_length]; exact hdl
 have e1 : srt f = upTo n := by rw [(nrm_iff f).2 hn, hf]
 have w1 : dot (srt d) (upTo n) = wsum (fun i => (i : Int) + 1) (srt d) n := by
  have := dot_wsum (fun i => (i : Int) + 1) (srt d) n (by omega)
  rwa [List.take_of_length_le (by omega)] at this
 have w2 : dot (srt d) ((List.range n).map fun (i : Nat) => (n : Int) - i) = wsum (fun i => (n : Int) - i) (srt d) n := by
  have := dot_wsum (fun i => (n : Int) - i) (srt d) n (by omega)
  rwa [List.take_of_length_le (by omega)] at this
 have hup : (srt d).sum = d.sum := isum_perm (srt_perm d)
 have e2 : (List.range n).map (fun (i : Nat) => (n : Int) - i) = (upTo n).map fun x => ((n : Int) + 1) - x := by
  rw [List.map_map]
  exact List.map_congr_left fun i _ => by simp; omega
 constructor
 ·have := dot_le d f (by omega)
  rw [e1, w1] at this
  omega
 ·have hg : Nrm (f.map fun x => ((n : Int) + 1) - x) := by
   refine ⟨List.pairwise_map.2 (hn.1.imp fun {a b} q e => q (by omega)), fun x hx => ?_⟩
   obtain ⟨y, hy, rfl⟩ := List.mem_map.1 hx
   have := hn.2 y hy
   rw [List.length_map]; omega
  have e3 : srt (f.map fun x => ((n : Int) + 1) - x) = upTo n := by rw [(nrm_iff _).2 hg, List.length_map, hf]
  have := dot_le d (f.map fun x => ((n : Int) + 1) - x) (by simp; omega)
  rw [e3, dot_compl _ _ _ (by omega)] at this
  have c2 := dot_compl ((n : Int) + 1) (srt d) (upTo n) (by simp; omega)
  rw [← e2, w2, hup] at c2
  omega
theorem tdiv_le {a s : Int} {m : Nat} (hm : 0 < m) (ha : 0 ≤ a) (h : (m : Int) * s ≤ a) : s ≤ a.tdiv m := by
 rw [Int.tdiv_eq_ediv_of_nonneg ha]
 exact (Int.le_ediv_iff_mul_le (by omega)).2 (by rw [Int.mul_comm]; exact h)
theorem le_tdiv {a s : Int} {m : Nat} (hm : 0 < m) (ha : 0 ≤ a) (h : a ≤ m * s) : (a + m - 1).tdiv m ≤ s := by
 rw [Int.tdiv_eq_ediv_of_nonneg (by omega)]
 have : (a + m - 1) / (m : Int) < s + 1 := (Int.ediv_lt_iff_lt_mul (by omega)).2 (by rw [Int.add_mul, Int.mul_comm s]; omega)
 omega
end Go.Ev
namespace Go.Ev
open Go Go.Proofs
variable {B : Nat}
end Go.Ev
namespace Go.Ev
open Go Go.Proofs
variable {B : Nat}
theorem cnt_bd {n : Nat} {lines : List (List Int)} {s : Int} (h0 : 0 < lines.length) (hl : ∀ l ∈ lines, AscL n l) (hc : 0 < cntS lines n s) : loB n lines ≤ s ∧ s ≤ hiB n lines := by
 obtain ⟨f, hf⟩ : ∃ f, f ∈ enumN lines s n n [] := by
  unfold cntS at hc
  exact List.exists_mem_of_length_pos hc
 obtain ⟨⟨f1, f2⟩, f3⟩ := (enumN_iff hl).1 hf
 obtain ⟨b1, b2⟩ := sum_bounds h0 hl f1 f2 f3
 have hM : Bd (srt (degS n lines)) (lines.length * n) := (degS_bd (W := n) fun l hm => ⟨(hl l hm).len, fun c hc => by have := (hl l hm).2.2 c hc; omega⟩).srt
 have hlen : (srt (degS n lines)).length = n := by rw [srt_length, degS_length]
 unfold loB hiB loS hiS
 rw [hlen]
 generalize srt (degS n lines) = d at *
 have w1 := wsum_bd (F := n) hM (f := fun i => (i : Int) + 1) (n := n) (fun j hj => by omega) n (Nat.le_refl _)
 have w2 := wsum_bd (F := n) hM (f := fun i => (n : Int) - i) (n := n) (fun j hj => by omega) n (Nat.le_refl _)
 exact ⟨le_tdiv h0 w2.1 b2, tdiv_le h0 w1.1 b1⟩
def spL (n : Nat) (lines : List (List Int)) : List (Int × Int) := spV lines n (loB n lines) (hiB n lines + 1 - loB n lines).toNat
theorem spL_def (n : Nat) (lines : List (List Int)) : spV lines n (loB n lines) (hiB n lines + 1 - loB n lines).toNat = spL n lines := rfl
def spErr (cells : Int) (lines : List (List Int)) : Int := if smErr cells lines ≠ 0 then smErr cells lines else if lines.length = 0 then 12 else 0
theorem spectrum63 {cells : Int} {lines : List (List Int)} (hj : ∀ B, JOk Tryz.prog B hookS) (hw : ∀ q ∈ lines, q.length ≤ 1000) : Pure Tryz.prog B 63 [.agg [I cells, encT lines]] (· = if spErr cells lines ≠ 0 then .tup [.nils, I (spErr cells lines)] else .tup [encP (spL cells.toNat lines), I 0]) := by
 refine pure_hp fun h nx K H0 hK => by_body tbl_ok dreg 1000 fun hf => ?_
 have hw6 : ∀ q ∈ lines, q.length ≤ 1000000 := fun q hq => Nat.le_trans (hw q hq) (by omega)
 rw [F63.go]
 refine H0.box (l := [I cells, encT lines]) rfl fun bx h1 nx1 H1 => ?_
 rw [H1.loadN (k := 0) (n := 2) rfl rfl, sFx, H1.load (k := 0) (i := 0 + 1) rfl rfl]
 simp only [sLen_lst, sEql]
 refine small106 hw6 _ _ _ _ ?_
 rintro _ rfl _
 simp only [sSame_refl, sLen_lst]
 rw [H1.load (k := 0) (i := 0 + 1) rfl rfl]
 simp only [sSame_refl, sFx, sLen_lst]
 refine whenB82 _ _ _ _ _ _ ?_
 rintro _ rfl _
 refine H1.bslice (l := [I (smErr cells lines), I (if decide ((lines.length : Int) = 0) then 12 else 0)]) rfl fun id h4 nx4 H4 => ?_
 refine own_plain (l := [smErr cells lines, if decide ((lines.length : Int) = 0) then 12 else 0]) H4 (k := 0) rfl (fun B => first80 (by simp)) (fun v hv => by rw [hv]; exact .int _ _) ?_
 rintro _ rfl
 have ef : firstE [smErr cells lines, if decide ((lines.length : Int) = 0) then 12 else 0] = spErr cells lines := by
  by_cases c : smErr cells lines = 0
  ·by_cases c2 : lines.length = 0
   ·simp [firstE, spErr, c, c2]
   ·have : ¬ (lines.length : Int) = 0 := by omega
    simp [firstE, spErr, c, c2]
  ·simp [firstE, spErr, c]
 rw [ef]
 by_cases he : spErr cells lines = 0
 case neg =>
  rw [if_pos he] at hK
  simp only [sNeq, he, decide_false, Bool.not_false, sCond_t]
  exact hK _ _ _ _ _ H4 (frz_tup2 (frz_fixd rfl) (frz_fixd rfl)) rfl
 rw [if_neg (by simp [he])] at hK
 simp only [sNeq, he, decide_true, Bool.not_true, sCond_f]
 have hse : smErr cells lines = 0 := by
  by_cases c : smErr cells lines = 0
  ·exact c
  ·rw [spErr, if_pos c] at he; exact absurd he c
 have h0 : 0 < lines.length := by
  by_cases c : lines.length = 0
  ·rw [spErr, if_neg (by simp [hse]), if_pos c] at he; cases he
  ·omega
 have hs : sysErr cells lines = 0 := by
  by_cases c : sysErr cells lines = 0
  ·exact c
  ·rw [smErr_eq, if_pos c] at hse; exact absurd hse c
 have c9 : ¬ 9 < cells := by
  intro c
  rw [smErr_eq, if_neg (by simp [hs]), if_pos c] at hse; cases hse
 obtain ⟨n, rfl, g1, g2, g3, g4⟩ := sys_ok hs
 rw [H4.loadN (k := 1) (n := 2) rfl rfl]
 refine spectrum113 hj h0 (by omega) (by omega) (fun l hl => ⟨g4 l hl, hw l hl⟩) _ _ _ _ ?_
 rintro _ rfl _
 rw [Int.toNat_natCast, ← spL_def] at hK
 exact hK _ _ _ _ _ H4 (frz_tup2 (frz_fixd (fixd_encP _)) (frz_fixd rfl)) rfl
theorem sMul2 {a b : Nat} {K : AV → OP} (h : a * b ≤ 9223372036854775807) : sBin .mul .int (I (a : Int)) (I (b : Int)) K = K (I ((a * b : Nat) : Int)) := by
 rw [sMul (by rw [← Int.natCast_mul]; omega), Int.natCast_mul]
end Go.Ev
namespace Go.Ev
def cnt : Nat → Nat → Nat → Int → Nat
 | _, 0, k, s => if k = 0 ∧ s = 0 then 1 else 0
 | _, _ + 1, 0, s => if s = 0 then 1 else 0
 | lo, m + 1, k + 1, s => cnt (lo + 1) m (k + 1) s + cnt (lo + 1) m k (s - lo)
theorem cnt_zero (lo m : Nat) (s : Int) : cnt lo m 0 s = if s = 0 then 1 else 0 := by cases m <;> simp [cnt]
theorem cnt_last : ∀ (m lo k : Nat) (s : Int), cnt lo (m + 1) (k + 1) s = cnt lo m (k + 1) s + cnt lo m k (s - (lo + m : Nat))
 | 0, lo, k, s => by simp [cnt]
 | m + 1, lo, k, s => by
  rw [cnt, cnt_last m (lo + 1) k s, show lo + 1 + m = lo + (m + 1) by omega]
  cases k with
  | zero => simp only [cnt, cnt_zero]; omega
  | succ k =>
   rw [cnt_last m (lo + 1) k (s - lo), show lo + 1 + m = lo + (m + 1) by omega]
   rw [cnt, cnt, show s - (lo : Int) - ((lo + (m + 1) : Nat) : Int) = s - ((lo + (m + 1) : Nat) : Int) - lo by omega]
   omega
end Go.Ev
namespace Go.Ev
theorem cnt_low : ∀ (m lo k : Nat) (s : Int), 2 * s < k * (2 * lo + (k : Int) - 1) → cnt lo m k s = 0
 | 0, lo, 0, s, h => by simp [cnt]; omega
 | 0, lo, k + 1, s, h => by simp [cnt]
 | m + 1, lo, 0, s, h => by simp [cnt]; omega
 | m + 1, lo, k + 1, s, h => by
  have e1 : ((k + 1 : Nat) : Int) * (2 * lo + ((k + 1 : Nat) : Int) - 1) = 2 * lo + k * (2 * ((lo + 1 : Nat) : Int) + k - 1) := by
   push_cast
   simp only [Int.add_mul, Int.mul_add, Int.mul_sub, Int.sub_mul, Int.mul_one, Int.one_mul]
   omega
  rw [e1] at h
  have e2 : ((k + 1 : Nat) : Int) * (2 * ((lo + 1 : Nat) : Int) + ((k + 1 : Nat) : Int) - 1) = 2 * lo + k * (2 * ((lo + 1 : Nat) : Int) + k - 1) + 2 * (k + 1) := by
   push_cast
   simp only [Int.add_mul, Int.mul_add, Int.mul_sub, Int.sub_mul, Int.mul_one, Int.one_mul]
   omega
  simp only [cnt]
  rw [cnt_low m (lo + 1) (k + 1) s (by rw [e2]; omega), cnt_low m (lo + 1) k (s - lo) (by omega)]
theorem cnt_high : ∀ (m lo k : Nat) (s : Int), (k : Int) * (2 * ((lo + m : Nat) : Int) - k - 1) < 2 * s → cnt lo m k s = 0
 | 0, lo, 0, s, h => by simp [cnt]; omega
 | 0, lo, k + 1, s, h => by simp [cnt]
 | m + 1, lo, 0, s, h => by simp [cnt]; omega
 | m + 1, lo, k + 1, s, h => by
  have e1 : ((k + 1 : Nat) : Int) * (2 * ((lo + (m + 1) : Nat) : Int) - ((k + 1 : Nat) : Int) - 1) = k * (2 * ((lo + m : Nat) : Int) - k - 1) + 2 * ((lo + m : Nat) : Int) := by
   push_cast
   simp only [Int.add_mul, Int.mul_add, Int.mul_sub, Int.sub_mul, Int.mul_one, Int.one_mul]
   omega
  rw [e1] at h
  have e2 : ((k + 1 : Nat) : Int) * (2 * ((lo + m : Nat) : Int) - ((k + 1 : Nat) : Int) - 1) = k * (2 * ((lo + m : Nat) : Int) - k - 1) + 2 * ((lo + m : Nat) : Int) - 2 * (k + 1) := by
   push_cast
   simp only [Int.add_mul, Int.mul_add, Int.mul_sub, Int.sub_mul, Int.mul_one, Int.one_mul]
   omega
  rw [cnt_last, cnt_high m lo (k + 1) s (by rw [e2]; omega), cnt_high m lo k (s - (lo + m : Nat)) (by omega)]
end Go.Ev
namespace Go.Ev
theorem cnt_le : ∀ (m lo k : Nat) (s : Int), cnt lo m k s ≤ 2 ^ m
 | 0, lo, k, s => by simp only [cnt]; split <;> omega
 | m + 1, lo, 0, s => by
  have := Nat.one_le_two_pow (n := m + 1)
  simp only [cnt]; split <;> omega
 | m + 1, lo, k + 1, s => by
  have h1 := cnt_le m (lo + 1) (k + 1) s
  have h2 := cnt_le m (lo + 1) k (s - lo)
  simp only [cnt]
  rw [Nat.pow_succ]; omega
theorem cnt_neg (m lo k : Nat) (s : Int) (h : s < 0) : cnt lo m k s = 0 := by
 cases k with
 | zero => rw [cnt_zero, if_neg (by omega)]
 | succ k =>
  refine cnt_low m lo (k + 1) s ?_
  have : (0 : Int) ≤ ((k + 1 : Nat) : Int) * (2 * lo + ((k + 1 : Nat) : Int) - 1) := Int.mul_nonneg (by omega) (by omega)
  omega
end Go.Ev
namespace Go.Ev
theorem cnt_tab {x i s : Nat} (hx : 1 ≤ x) (hi : 1 ≤ i) : cnt 1 x i (s : Int) = if x ≤ s then cnt 1 (x - 1) i s + cnt 1 (x - 1) (i - 1) ((s - x : Nat) : Int) else cnt 1 (x - 1) i s := by
 obtain ⟨x, rfl⟩ : ∃ y, x = y + 1 := ⟨x - 1, by omega⟩
 obtain ⟨i, rfl⟩ : ∃ y, i = y + 1 := ⟨i - 1, by omega⟩
 rw [cnt_last]
 simp only [Nat.add_sub_cancel]
 by_cases h : x + 1 ≤ s
 ·rw [if_pos h, show (s : Int) - ((1 + x : Nat) : Int) = ((s - (x + 1) : Nat) : Int) by omega]
 ·rw [if_neg h, cnt_neg x 1 i _ (by omega)]; rfl
theorem cnt_init (i s : Nat) : cnt 1 0 i (s : Int) = if i = 0 ∧ s = 0 then 1 else 0 := by
 simp only [cnt]; congr 1; simp
theorem cnt_zero' (x s : Nat) : cnt 1 x 0 (s : Int) = if s = 0 then 1 else 0 := by rw [cnt_zero]; simp
end Go.Ev
namespace Go.Ev
theorem cnt_over : ∀ (m lo k : Nat) (s : Int), m < k → cnt lo m k s = 0
 | 0, lo, k, s, h => by rw [cnt, if_neg (by omega)]
 | m + 1, lo, 0, s, h => by omega
 | m + 1, lo, k + 1, s, h => by rw [cnt, cnt_over m _ _ _ (by omega), cnt_over m _ _ _ (by omega)]
theorem tri_succ (m : Nat) : (m + 1) * (m + 1 + 1) / 2 = m * (m + 1) / 2 + (m + 1) := by
 have : (m + 1) * (m + 1 + 1) = m * (m + 1) + 2 * (m + 1) := by
  simp only [Nat.add_mul, Nat.mul_add]; omega
 rw [this]; omega
theorem cnt_rest : ∀ (m k : Nat) (s : Int), k ≤ m → cnt 1 m k s = cnt 1 m (m - k) (((m * (m + 1) / 2 : Nat) : Int) - s)
 | 0, k, s, h => by
  obtain rfl : k = 0 := by omega
  simp only [cnt, Nat.zero_mul, Nat.zero_div, Nat.sub_zero]
  by_cases c : s = 0
  ·subst c; simp
  ·rw [if_neg (by omega), if_neg (by omega)]
 | m + 1, k, s, h => by
  rw [tri_succ]
  have hT : ((m * (m + 1) / 2 + (m + 1) : Nat) : Int) = ((m * (m + 1) / 2 : Nat) : Int) + ((m : Int) + 1) := by omega
  rw [hT]
  have IH := cnt_rest m
  generalize ((m * (m + 1) / 2 : Nat) : Int) = T at *
  match k, h with
  | 0, _ =>
   rw [Nat.sub_zero, cnt_last, cnt_over m 1 (m + 1) _ (by omega), cnt_zero, Nat.zero_add]
   have := IH 0 s (by omega)
   rw [cnt_zero, Nat.sub_zero] at this
   rw [this]; congr 1; omega
  | k + 1, h =>
   rw [cnt_last]
   by_cases c : k = m
   ·subst c
    rw [cnt_over k 1 (k + 1) _ (by omega), Nat.zero_add, Nat.sub_self, cnt_zero, IH k _ (by omega), Nat.sub_self, cnt_zero]
    by_cases q : T + ((k : Int) + 1) - s = 0
    ·rw [if_pos (by omega), if_pos q]
    ·rw [if_neg (by omega), if_neg q]
   ·obtain ⟨j, hj⟩ : ∃ j, m - k = j + 1 := ⟨m - k - 1, by omega⟩
    rw [show m + 1 - (k + 1) = j + 1 by omega, cnt_last, IH (k + 1) s (by omega), IH k _ (by omega), show m - (k + 1) = j by omega, hj]
    rw [show T + ((m : Int) + 1) - s - ((1 + m : Nat) : Int) = T - s by omega, show T - (s - ((1 + m : Nat) : Int)) = T + ((m : Int) + 1) - s by omega]
    omega
end Go.Ev
namespace Go.Ev
open Go Go.Proofs
variable {B : Nat}
end Go.Ev
namespace Go.Ev
open Go Go.Proofs
variable {B : Nat}
end Go.Ev
namespace Go.Ev
open Go Go.Proofs
variable {B : Nat}
theorem gW_tt (op : KW3 → OP) (h : T Blk) (nx : Pa) (k : KW3) : sGW (.bool true) true op h nx k = op k := nr rfl
theorem gW_ft (op : KW3 → OP) (h : T Blk) (nx : Pa) (k : KW3) : sGW (.bool false) true op h nx k = k .undef h nx := nr rfl
theorem few44 {cells a b : Int} {lines : List (List Int)} (ha : a ≤ 1000) (hb : b ≤ 1000000) : Pure Tryz.prog B 44 [.agg [I cells, encT lines], I a, I b] (· = .bool (decide (((lines.length : Int) ≤ b ∧ ∀ l ∈ lines, (l.length : Int) ≤ a) ∧ sysErr cells lines = 0 ∧ cells ≤ a))) := by
 refine pure_hp fun h nx K H0 hK => by_body tbl_ok dreg 1000 fun hf => ?_
 rw [F44.go]
 refine H0.box (l := [I cells, encT lines]) rfl fun bx h1 nx1 H1 => ?_
 rw [H1.loadN (k := 0) (n := 2) rfl rfl]
 refine short25 hb _ _ _ _ ?_
 rintro _ rfl _
 have ret : ∀ b', b' = decide (((lines.length : Int) ≤ b ∧ ∀ l ∈ lines, (l.length : Int) ≤ a) ∧ sysErr cells lines = 0 ∧ cells ≤ a) → K (.bool b') h1 nx1 = .ok True := fun b' hb' => hK _ _ _ _ _ H1 (frz_fixd rfl) (by rw [hb'])
 by_cases hsh : (lines.length : Int) ≤ b ∧ ∀ l ∈ lines, (l.length : Int) ≤ a
 case neg =>
  rw [decide_eq_false hsh]
  simp only [sG_ft, gW_ft, sPick_f]
  exact ret _ (by simp [hsh])
 rw [decide_eq_true hsh]
 have hw : ∀ q ∈ lines, q.length ≤ 1000000 := fun q hq => by have := hsh.2 q hq; omega
 simp only [sG_tt, gW_tt]
 rw [H1.loadN (k := 0) (n := 2) rfl rfl]
 refine sysErr27 hw _ _ _ _ ?_
 rintro _ rfl _
 simp only [sEql, sPick_t]
 by_cases hs : sysErr cells lines = 0
 case neg =>
  simp only [hs, decide_false, sG_ft, sPick_f]
  exact ret _ (by simp [hs])
 simp only [hs, decide_true, sG_tt, sFx]
 rw [H1.load (k := 0) (i := 0) rfl rfl]
 simp only [sLeq, sPick_t]
 exact ret _ (decide_eq_decide.2 ⟨fun q => ⟨hsh, hs, q⟩, fun q => q.2.2⟩)
end Go.Ev
namespace Go.Ev
open Go Go.Proofs
variable {B : Nat}
theorem when82 (b : Bool) (e : Int) : Pure Tryz.prog B 82 [.bool b, I e] (· = I (if b then e else 0)) := by
 intro p h nx K hK
 refine by_body tbl_ok dreg 9 fun hf => ?_
 rw [F82.go]
 cases b <;> simp (disch := omega) only [sAdd, sSub, sMul, sEql, sNeq, sLss, sLeq, sGtr, sGeq, sPick_t, sPick_f, sCond_t, sCond_f, sG_tt, sG_ff, sG_tf, sG_ft, sNot_b, sExt0, sExt1, sExt2, sPart0, sPart1, sPart2, sLen_lst, sLen_sl, sLen_nils, sSame_refl, decide_true, decide_false, Bool.not_true, Bool.not_false, sChk_t] <;> exact hK _ rfl hf
theorem checkSets76 (n z : Int) : Pure Tryz.prog B 76 [I n, I z] (· = I (if n < 0 ∨ 64 < n ∨ z < 0 ∨ n < z then 3 else 0)) := by
 intro p h nx K hK
 refine by_body tbl_ok dreg 9 fun hf => ?_
 rw [F76.go]
 by_cases h1 : n < 0 <;> by_cases h2 : 64 < n <;> by_cases h3 : z < 0 <;> by_cases h4 : n < z <;> (simp only [h1, h2, h3, h4, decide_true, decide_false, sGtr, sLss, sG_tt, sG_ff, sG_tf, sG_ft, sPick_t, sPick_f]; refine when82 _ _ _ _ _ _ ?_; rintro _ rfl _; exact hK _ (by simp [h1, h2, h3, h4]) hf)
theorem sQuo {a b : Int} {K : AV → OP} (h0 : b ≠ 0) (h : -9223372036854775808 ≤ a.tdiv b ∧ a.tdiv b ≤ 9223372036854775807) : sBin .quo .int (I a) (I b) K = K (I (a.tdiv b)) := by
 have e : sBin .quo .int (I a) (I b) K = (bif ieq b 0 then Out.no 5 else intK (IntKind.wrap .i64 (a.tdiv b)) fun z => K (.int .i64 z)) := rfl
 rw [e, ieq_eq]
 have hb : (b == 0) = false := by simpa using h0
 rw [hb, cond_false, intK_eq]
 have hw : IntKind.wrap .i64 (a.tdiv b) = a.tdiv b := by simpa [wrapF_eq] using wrap64_in h
 rw [hw]
theorem mul_bd {a b M : Int} (ha : -M ≤ a ∧ a ≤ M) (hb : -M ≤ b ∧ b ≤ M) (hM : 0 ≤ M) : -(M * M) ≤ a * b ∧ a * b ≤ M * M := by
 have h1 : (a * b).natAbs ≤ (M * M).natAbs := by
  rw [Int.natAbs_mul, Int.natAbs_mul]
  exact Nat.mul_le_mul (by omega) (by omega)
 have h2 : 0 ≤ M * M := Int.mul_nonneg hM hM
 omega
theorem span78 {f n s : Int} (hf : -1000 ≤ f ∧ f ≤ 1000) (hn : -1000 ≤ n ∧ n ≤ 1000) (hs : -1000 ≤ s ∧ s ≤ 1000) : Pure Tryz.prog B 78 [I f, I n, I s] (· = .tup [I (s * f + (s * (s - 1)).tdiv 2), I (s * n - (s * (s - 1)).tdiv 2)]) := by
 intro p h nx K hK
 refine by_body tbl_ok dreg 9 fun hf' => ?_
 have b1 := mul_bd hs hf (by decide)
 have b2 := mul_bd hs hn (by decide)
 have b3 := mul_bd (M := 1001) (a := s) (b := s - 1) (by omega) (by omega) (by decide)
 generalize hX : s * (s - 1) = X at *
 generalize hY : s * f = Y at *
 generalize hZ : s * n = Z at *
 have b4 : -1002001 ≤ X.tdiv 2 ∧ X.tdiv 2 ≤ 1002001 := by
  rcases Int.le_total 0 X with h0 | h0
  ·rw [Int.tdiv_eq_ediv_of_nonneg h0]; omega
  ·have : X.tdiv 2 = -((-X).tdiv 2) := by rw [Int.neg_tdiv]; omega
   rw [this, Int.tdiv_eq_ediv_of_nonneg (by omega)]; omega
 rw [F78.go]
 rw [sMul (by omega), hY, sSub (by omega), sMul (by omega), hX, sQuo (by decide) (by omega), sAdd (by omega), sMul (by omega), hZ, sSub (by omega), sMul (by omega), hX, sQuo (by decide) (by omega), sSub (by omega)]
 exact hK _ rfl hf'
theorem half_nat (z : Nat) : ((z : Int) * ((z : Int) - 1)).tdiv 2 = ((z * (z - 1) / 2 : Nat) : Int) := by
 cases z with
 | zero => rfl
 | succ z =>
  have : ((z + 1 : Nat) : Int) * (((z + 1 : Nat) : Int) - 1) = (((z + 1) * z : Nat) : Int) := by
   rw [Int.natCast_mul]; congr 1; omega
  rw [this, Int.tdiv_eq_ediv_of_nonneg (by omega), Nat.add_sub_cancel]
  omega
abbrev cI (x i s : Nat) : AV := I (cnt 1 x i (s : Int) : Int)
theorem cnt_lt {x i : Nat} {s : Int} (hx : x ≤ 20) : (cnt 1 x i s : Int) ≤ 1048576 := by
 have h1 := cnt_le x 1 i s
 have h2 : 2 ^ x ≤ 2 ^ 20 := Nat.pow_le_pow_right (by decide) hx
 omega
theorem F20.rows {N : Nat} {K0 : Kw Prop} {K : Ks Prop} {h0 h : T Blk} {nx : Pa} {x0 x1 x3 x4 x5 x6 x7 x9 x10 x11 x12 x13 x14 x17 x18 x19 x20 : AV} {id : Pa} {z s : Nat} (hN : z + 2 < N) (hs : s ≤ 100000) (hz : z ≤ 100000)
  (H : Hp h0 h nx [.arr id (List.replicate (z + 1) .nils)])
  (hK : ∀ x9 x16 x17 h' nx' rs, Hp h0 h' nx' [.tab id rs (tabL (z + 1) (s + 1) fun _ _ => I 0)] → K (F20.fr x0 x1 (I s) x3 x4 x5 x6 x7 (.sl id 0 (z + 1) (some (z + 1)) 1) x9 x10 x11 x12 x13 x14 (I ((z + 1 : Nat) : Int)) x16 x17 x18 x19 x20) h' nx' = .ok True) :
  IR.run F20.b3 (CS Tryz.prog B) N (fnO F20.res K0) K (F20.fr x0 x1 (I s) x3 x4 x5 x6 x7 (.sl id 0 (z + 1) (some (z + 1)) 1) x9 x10 x11 x12 x13 x14 (I ((z + 1 : Nat) : Int)) (I 0) x17 x18 x19 x20) h nx = .ok True := by
 refine F20.L3 (fun m x16 h' nx' => ∃ (i : Nat) (rs : List (Option Pa)), x16 = I i ∧ m = z + 1 - i ∧ i ≤ z + 1 ∧ (∀ p, i ≤ p → p < z + 1 → rs[p]? = some none) ∧ Hp h0 h' nx' [.tab id rs (rowL (z + 1) fun p => if p < i then rowL (s + 1) fun _ => I 0 else [])]) (m := z + 1) (by omega)
  ⟨0, List.replicate (z + 1) none, rfl, by simp, by omega, fun p _ hp => by simp [hp], by simpa [rowL_const] using H.asTab⟩ ?_
 rintro m z9 z16 z17 h1 nx1 R ⟨i, rs, rfl, rfl, hi, hrs, H1⟩ hR
 simp (disch := omega) only [sAdd, sSub, sMul, sEql, sNeq, sLss, sLeq, sGtr, sGeq, sPick_t, sPick_f, sCond_t, sCond_f, sG_tt, sG_ff, sG_tf, sG_ft, sNot_b, sExt0, sExt1, sExt2, sPart0, sPart1, sPart2, sLen_lst, sLen_sl, sLen_nils, sSame_refl, decide_true, decide_false, Bool.not_true, Bool.not_false, sChk_t]
 by_cases hlt : i < z + 1
 ·simp only [show (i : Int) < ((z + 1 : Nat) : Int) by omega, decide_true, sCond_t]
  refine H1.mk1 (s + 1) (by omega) (by omega) (by omega) (by omega) fun r h2 nx2 H2 => ?_
  rw [sIx (i := i) rfl hlt]
  have H3 : Hp h0 h2 nx2 [.arr r (rowL (s + 1) fun _ => I 0), .tab id rs (rowL (z + 1) fun p => if p < i then rowL (s + 1) fun _ => I 0 else [])] := by simpa [rowL_const] using H2
  refine H3.putRow rowL_length (k := 0) rfl (hrs i (Nat.le_refl _) hlt) fun h4 H4 => ?_
  refine hR (z + 1 - (i + 1)) _ _ _ _ _ (by omega) ⟨i + 1, rs.set i (some r), rfl, rfl, by omega, fun p h1 h2 => ?_, H4.cast ?_⟩
  ·rw [List.getElem?_set_ne (by omega)]; exact hrs p (by omega) h2
  ·simp only [List.set_cons_zero, rowL_set]
   congr 2
   refine rowL_congr fun p _ => ?_
   by_cases e : p = i
   ·subst e; simp
   ·simp only [if_neg e]
    by_cases e2 : p < i
    ·rw [if_pos e2, if_pos (by omega)]
    ·rw [if_neg e2, if_neg (by omega)]
 ·simp only [show ¬ (i : Int) < ((z + 1 : Nat) : Int) by omega, decide_false, sCond_f]
  refine hK _ _ _ _ _ rs (H1.cast ?_)
  congr 2
  exact rowL_congr fun p hp => by rw [if_pos (by omega)]
abbrev tabK (x z : Nat) (k : Nat) (p q : Nat) : AV := if k < p then cI x p q else cI (x - 1) p q
theorem tabK_step {x z k s : Nat} (hx : 1 ≤ x) (hk : 1 ≤ k) : tabL (z + 1) (s + 1) (fun p q => if p = k ∧ x ≤ q then I ((cnt 1 (x - 1) k (q : Int) : Int) + (cnt 1 (x - 1) (k - 1) ((q - x : Nat) : Int) : Int)) else tabK x z k p q) = tabL (z + 1) (s + 1) (tabK x z (k - 1)) := by
 refine tabL_congr fun p q _ _ => ?_
 by_cases hp : p = k
 ·subst hp
  simp only [tabK, cI, true_and, Nat.lt_irrefl, if_false, if_pos (show p - 1 < p by omega), cnt_tab (x := x) (i := p) (s := q) hx hk]
  by_cases h : x ≤ q
  ·simp [h]
  ·simp [h]
 ·simp only [hp, false_and, if_false, tabK]
  by_cases h : k < p
  ·rw [if_pos h, if_pos (by omega)]
  ·rw [if_neg h, if_neg (by omega)]
theorem F20.fill {N : Nat} {K0 : Kw Prop} {K : Ks Prop} {h0 h : T Blk} {nx : Pa} {x3 x4 x5 x6 x7 x9 x11 x12 x13 x14 x15 x16 x17 x18 x19 x20 : AV} {id : Pa} {n z s : Nat} {rs : List (Option Pa)} (hN : n + z + s + 3 < N) (hn : n ≤ 20) (hs : s ≤ 100000) (hz : z ≤ 100000)
  (H : Hp h0 h nx [.tab id rs (tabL (z + 1) (s + 1) fun p q => cI 0 p q)])
  (hK : ∀ x10 x11 x12 x18 x19 x20 h' nx', Hp h0 h' nx' [.tab id rs (tabL (z + 1) (s + 1) fun p q => cI n p q)] → K (F20.fr (I n) (I z) (I s) x3 x4 x5 x6 x7 (.sl id 0 (z + 1) (some (z + 1)) 1) x9 x10 x11 x12 x13 x14 x15 x16 x17 x18 x19 x20) h' nx' = .ok True) :
  IR.run F20.b11 (CS Tryz.prog B) N (fnO F20.res K0) K (F20.fr (I n) (I z) (I s) x3 x4 x5 x6 x7 (.sl id 0 (z + 1) (some (z + 1)) 1) x9 (I 1) x11 x12 x13 x14 x15 x16 x17 x18 x19 x20) h nx = .ok True := by
 refine F20.L11 (fun m z10 h' nx' => ∃ x : Nat, z10 = I x ∧ m = n + 1 - x ∧ 1 ≤ x ∧ x ≤ n + 1 ∧ Hp h0 h' nx' [.tab id rs (tabL (z + 1) (s + 1) fun p q => cI (x - 1) p q)]) (m := n) (by omega) ⟨1, rfl, by omega, by omega, by omega, H⟩ ?_
 rintro m z10 z11 z12 z18 z19 z20 h1 nx1 R ⟨x, rfl, rfl, hx1, hx2, H1⟩ hR
 simp (disch := omega) only [sAdd, sSub, sMul, sEql, sNeq, sLss, sLeq, sGtr, sGeq, sPick_t, sPick_f, sCond_t, sCond_f, sG_tt, sG_ff, sG_tf, sG_ft, sNot_b, sExt0, sExt1, sExt2, sPart0, sPart1, sPart2, sLen_lst, sLen_sl, sLen_nils, sSame_refl, decide_true, decide_false, Bool.not_true, Bool.not_false, sChk_t]
 by_cases hlt : x ≤ n
 case neg =>
  simp only [show ¬ (x : Int) ≤ n by omega, decide_false, sCond_f]
  obtain rfl : x = n + 1 := by omega
  exact hK _ _ _ _ _ _ _ _ H1
 simp only [show (x : Int) ≤ n by omega, decide_true, sCond_t]
 refine F20.L17 (fun m z11 h' nx' => ∃ k : Nat, z11 = I k ∧ k = m ∧ k ≤ z ∧ Hp h0 h' nx' [.tab id rs (tabL (z + 1) (s + 1) (tabK x z k))]) (m := z) (by omega) ⟨z, rfl, rfl, Nat.le_refl _, H1.cast ?_⟩ ?_
 ·congr 2
  exact tabL_congr fun p q hp _ => by simp only [tabK]; rw [if_neg (by omega)]
 rintro m z11 z12 z19 z20 h2 nx2 R2 ⟨k, rfl, rfl, hk, H2⟩ hR2
 simp (disch := omega) only [sAdd, sSub, sMul, sEql, sNeq, sLss, sLeq, sGtr, sGeq, sPick_t, sPick_f, sCond_t, sCond_f, sG_tt, sG_ff, sG_tf, sG_ft, sNot_b, sExt0, sExt1, sExt2, sPart0, sPart1, sPart2, sLen_lst, sLen_sl, sLen_nils, sSame_refl, decide_true, decide_false, Bool.not_true, Bool.not_false, sChk_t]
 by_cases hk0 : 0 < k
 case neg =>
  simp only [show ¬ (0 : Int) < k by omega, decide_false, sCond_f]
  rw [F20.k31]
  simp (disch := omega) only [sAdd, sSub, sMul, sEql, sNeq, sLss, sLeq, sGtr, sGeq, sPick_t, sPick_f, sCond_t, sCond_f, sG_tt, sG_ff, sG_tf, sG_ft, sNot_b, sExt0, sExt1, sExt2, sPart0, sPart1, sPart2, sLen_lst, sLen_sl, sLen_nils, sSame_refl, decide_true, decide_false, Bool.not_true, Bool.not_false, sChk_t]
  refine hR (n + 1 - (x + 1)) _ _ _ _ _ _ _ _ (by omega) ⟨x + 1, rfl, rfl, by omega, by omega, H2.cast ?_⟩
  congr 2
  refine tabL_congr fun p q hp _ => ?_
  obtain rfl : k = 0 := by omega
  simp only [tabK, Nat.add_sub_cancel]
  by_cases hp0 : 0 < p
  ·rw [if_pos hp0]
  ·obtain rfl : p = 0 := by omega
   simp [cI, cnt_zero']
 simp only [show (0 : Int) < k by omega, decide_true, sCond_t]
 refine F20.L23 (fun m z12 h' nx' => ∃ t : Nat, z12 = I ((t : Int) - 1) ∧ t = m ∧ t ≤ s + 1 ∧ (x ≤ t ∨ t = s + 1) ∧ Hp h0 h' nx' [.tab id rs (tabL (z + 1) (s + 1) fun p q => if p = k ∧ t ≤ q then I ((cnt 1 (x - 1) k (q : Int) : Int) + (cnt 1 (x - 1) (k - 1) ((q - x : Nat) : Int) : Int)) else tabK x z k p q)]) (m := s + 1) (by omega) ⟨s + 1, by congr 1; omega, rfl, Nat.le_refl _, .inr rfl, H2.cast ?_⟩ ?_
 ·congr 2
  exact tabL_congr fun p q _ hq => by rw [if_neg (by omega)]
 rintro m z12 z20 h3 nx3 R3 ⟨t, rfl, rfl, ht, hxt, H3⟩ hR3
 simp (disch := omega) only [sAdd, sSub, sMul, sEql, sNeq, sLss, sLeq, sGtr, sGeq, sPick_t, sPick_f, sCond_t, sCond_f, sG_tt, sG_ff, sG_tf, sG_ft, sNot_b, sExt0, sExt1, sExt2, sPart0, sPart1, sPart2, sLen_lst, sLen_sl, sLen_nils, sSame_refl, decide_true, decide_false, Bool.not_true, Bool.not_false, sChk_t]
 by_cases hq : x < t
 case neg =>
  simp only [show ¬ (x : Int) ≤ (t : Int) - 1 by omega, decide_false, sCond_f]
  rw [F20.k30]
  simp (disch := omega) only [sAdd, sSub, sMul, sEql, sNeq, sLss, sLeq, sGtr, sGeq, sPick_t, sPick_f, sCond_t, sCond_f, sG_tt, sG_ff, sG_tf, sG_ft, sNot_b, sExt0, sExt1, sExt2, sPart0, sPart1, sPart2, sLen_lst, sLen_sl, sLen_nils, sSame_refl, decide_true, decide_false, Bool.not_true, Bool.not_false, sChk_t]
  refine hR2 (k - 1) _ _ _ _ _ _ (by omega) ⟨k - 1, by congr 1; omega, rfl, by omega, H3.cast ?_⟩
  rw [← tabK_step (s := s) (z := z) hx1 hk0]
  congr 2
  refine tabL_congr fun p q _ hq2 => ?_
  by_cases e : p = k ∧ x ≤ q
  ·rw [if_pos ⟨e.1, by omega⟩, if_pos e]
  ·rw [if_neg e, if_neg (by omega)]
 simp only [show (x : Int) ≤ (t : Int) - 1 by omega, decide_true, sCond_t]
 obtain ⟨t, rfl⟩ : ∃ t', t = t' + 1 := ⟨t - 1, by omega⟩
 have hrow : ∀ p, p < z + 1 → ∃ r, rs[p]? = some (some r) := fun p hp => H3.tabRow (k := 0) rfl (tabL_get hp) (by rw [← List.length_pos_iff]; simp)
 obtain ⟨r1, hr1⟩ := hrow k (by omega)
 obtain ⟨r2, hr2⟩ := hrow (k - 1) (by omega)
 have c1 := cnt_lt (x := x - 1) (i := k) (s := t) (by omega)
 have c2 := cnt_lt (x := x - 1) (i := k - 1) (s := ((t - x : Nat) : Int)) (by omega)
 rw [sIx (i := k) rfl (by omega), H3.tabLoad (k := 0) rfl (tabL_get (by omega)) hr1 rowL_length]
 rw [sIx (i := t) (by omega) (by omega), H3.cellLoad (k := 0) rfl (tabL_get (k := k) (by omega)) hr1 (rowL_get (by omega))]
 rw [sIx (i := k - 1) (by omega) (by omega), H3.tabLoad (k := 0) rfl (tabL_get (by omega)) hr2 rowL_length]
 rw [sIx (i := t - x) (by omega) (by omega), H3.cellLoad (k := 0) rfl (tabL_get (k := k - 1) (by omega)) hr2 (rowL_get (by omega))]
 simp only [tabK]
 rw [if_neg (by omega), if_neg (by omega), if_neg (by omega), if_neg (by omega), sAdd (by omega), sIx (i := t) (by omega) (by omega)]
 refine H3.cellStore (k := 0) rfl (tabL_get (k := k) (by omega)) hr1 (by simp; omega) rfl fun h4 H4 => ?_
 refine hR3 t _ _ _ _ (by omega) ⟨t, by congr 1; omega, rfl, by omega, .inl (by omega), H4.cast ?_⟩
 rw [List.set_cons_zero, tabL_set]
 congr 2
 refine tabL_congr fun p q _ _ => ?_
 by_cases e : p = k ∧ q = t
 ·obtain ⟨rfl, rfl⟩ := e
  rw [if_pos ⟨rfl, rfl⟩, if_pos ⟨rfl, Nat.le_refl _⟩]
 ·rw [if_neg e]
  by_cases e2 : p = k ∧ t + 1 ≤ q
  ·rw [if_pos e2, if_pos ⟨e2.1, by omega⟩]
  ·rw [if_neg e2, if_neg (by omega)]
theorem twoHalf (z : Nat) : 2 * ((z * (z - 1) / 2 : Nat) : Int) ≤ (z : Int) * ((z : Int) - 1) := by
 cases z with
 | zero => simp
 | succ z =>
  have : ((z + 1 : Nat) : Int) * (((z + 1 : Nat) : Int) - 1) = (((z + 1) * z : Nat) : Int) := by
   rw [Int.natCast_mul]; congr 1; omega
  rw [this, Nat.add_sub_cancel]
  omega
theorem halfLe {z M : Nat} (hz : z ≤ M) : ((z * (z - 1) / 2 : Nat) : Int) ≤ ((M * M : Nat) : Int) := by
 have := Nat.mul_le_mul hz (show z - 1 ≤ M by omega)
 omega
theorem cnt_below {n z : Nat} {sum : Int} (h : sum < (z : Int) * 1 + ((z * (z - 1) / 2 : Nat) : Int)) : cnt 1 n z sum = 0 := by
 refine cnt_low n 1 z sum ?_
 have h2 := twoHalf z
 have e1 : (z : Int) * (2 * ((1 : Nat) : Int) + (z : Int) - 1) = 2 * z + (z : Int) * ((z : Int) - 1) := by
  simp only [Int.mul_add, Int.mul_sub, Int.mul_one]; omega
 rw [e1]; omega
theorem cnt_above {n z : Nat} {sum : Int} (h : (z : Int) * n - ((z * (z - 1) / 2 : Nat) : Int) < sum) : cnt 1 n z sum = 0 := by
 refine cnt_high n 1 z sum ?_
 have h2 := twoHalf z
 have e1 : (z : Int) * (2 * ((1 + n : Nat) : Int) - (z : Int) - 1) = 2 * ((z : Int) * n) - (z : Int) * ((z : Int) - 1) := by
  push_cast
  simp only [Int.mul_add, Int.mul_sub, Int.mul_one]
  rw [Int.mul_left_comm]; omega
 rw [e1]; omega
theorem setCount20 {n z : Nat} (hz : z ≤ n) (hn : n ≤ 20) (sum : Int) : Pure Tryz.prog B 20 [I n, I z, I sum] (· = .tup [I (cnt 1 n z sum : Int), I 0]) := by
 refine pure_hp fun h nx K H0 hK => by_body tbl_ok dreg 1000 fun hf => ?_
 rw [F20.go]
 refine checkSets76 _ _ _ _ _ _ ?_
 rintro _ rfl _
 rw [if_neg (by omega)]
 simp (disch := omega) only [sAdd, sSub, sMul, sEql, sNeq, sLss, sLeq, sGtr, sGeq, sPick_t, sPick_f, sCond_t, sCond_f, sG_tt, sG_ff, sG_tf, sG_ft, sNot_b, sExt0, sExt1, sExt2, sPart0, sPart1, sPart2, sLen_lst, sLen_sl, sLen_nils, sSame_refl, decide_true, decide_false, Bool.not_true, Bool.not_false, sChk_t]
 refine span78 (by omega) (by omega) (by omega) _ _ _ _ ?_
 rintro _ rfl _
 rw [half_nat]
 have hhl := halfLe (M := 20) (z := z) (by omega)
 have hzn : (z : Int) * n ≤ 400 := by
  have := Nat.mul_le_mul (show z ≤ 20 by omega) hn
  rw [← Int.natCast_mul]; omega
 have ret : ∀ h' nx' L, Hp h h' nx' L → K (.tup [I (cnt 1 n z sum : Int), I 0]) h' nx' = .ok True := fun h' nx' L H => hK _ _ _ L _ H (frz_tup2 (frz_fixd rfl) (frz_fixd rfl)) rfl
 have hb := @cnt_below n z sum
 have ha := @cnt_above n z sum
 have hq0 : (0 : Int) ≤ ((z * (z - 1) / 2 : Nat) : Int) := Int.natCast_nonneg _
 generalize ((z * (z - 1) / 2 : Nat) : Int) = q at *
 generalize (z : Int) * n = zn at *
 simp (disch := omega) only [sAdd, sSub, sMul, sEql, sNeq, sLss, sLeq, sGtr, sGeq, sPick_t, sPick_f, sCond_t, sCond_f, sG_tt, sG_ff, sG_tf, sG_ft, sNot_b, sExt0, sExt1, sExt2, sPart0, sPart1, sPart2, sLen_lst, sLen_sl, sLen_nils, sSame_refl, decide_true, decide_false, Bool.not_true, Bool.not_false, sChk_t]
 by_cases h1 : sum < z * 1 + q
 ·simp only [h1, decide_true, sG_tf, sPick_t, sCond_t]
  rw [hb h1] at ret
  exact ret _ _ _ H0
 simp only [h1, decide_false, sG_ff, sPick_f]
 by_cases h2 : zn - q < sum
 ·simp only [sGtr, h2, decide_true, sCond_t]
  rw [ha h2] at ret
  exact ret _ _ _ H0
 simp only [sGtr, h2, decide_false, sCond_f]
 obtain ⟨s, rfl⟩ : ∃ s : Nat, sum = s := ⟨sum.toNat, by omega⟩
 refine H0.mk1 (z + 1) (by omega) (by omega) (by omega) (by omega) fun id h1 nx1 H1 => ?_
 simp (disch := omega) only [sAdd, sSub, sMul, sEql, sNeq, sLss, sLeq, sGtr, sGeq, sPick_t, sPick_f, sCond_t, sCond_f, sG_tt, sG_ff, sG_tf, sG_ft, sNot_b, sExt0, sExt1, sExt2, sPart0, sPart1, sPart2, sLen_lst, sLen_sl, sLen_nils, sSame_refl, decide_true, decide_false, Bool.not_true, Bool.not_false, sChk_t]
 refine F20.rows (s := s) (by omega) (by omega) (by omega) H1 fun x9 x16 x17 h2 nx2 rs H2 => ?_
 rw [F20.k10]
 have hrow : ∀ {D : Nat → Nat → AV} {h' nx'} (_ : Hp h h' nx' [.tab id rs (tabL (z + 1) (s + 1) D)]) p, p < z + 1 → ∃ r, rs[p]? = some (some r) := fun H p hp => H.tabRow (k := 0) rfl (tabL_get hp) (by rw [← List.length_pos_iff]; simp)
 obtain ⟨r0, hr0⟩ := hrow H2 0 (by omega)
 rw [sIx (j := 0) (i := 0) rfl (by omega), H2.tabLoad (k := 0) rfl (tabL_get (by omega)) hr0 rowL_length, sIx (j := 0) (i := 0) rfl (by omega)]
 refine H2.cellStore (k := 0) rfl (tabL_get (k := 0) (by omega)) hr0 (by simp) rfl fun h3 H3 => ?_
 refine F20.fill (rs := rs) (by omega) hn (by omega) (by omega) (H3.cast ?_) fun x10 x11 x12 x18 x19 x20 h4 nx4 H4 => ?_
 ·rw [List.set_cons_zero, tabL_set]
  congr 2
  refine tabL_congr fun p q _ _ => ?_
  simp only [cI, cnt_init]
  by_cases e : p = 0 ∧ q = 0
  ·simp [e]
  ·simp [e]
 rw [F20.k32]
 obtain ⟨r1, hr1⟩ := hrow H4 z (by omega)
 rw [sIx (i := z) rfl (by omega), H4.tabLoad (k := 0) rfl (tabL_get (by omega)) hr1 rowL_length]
 rw [sIx (i := s) rfl (by omega), H4.cellLoad (k := 0) rfl (tabL_get (k := z) (by omega)) hr1 (rowL_get (by omega))]
 exact ret _ _ _ H4
end Go.Ev
namespace Go.Ev
open Go Go.Proofs
variable {B : Nat}
theorem sRem17 {a : Nat} {K : AV → OP} (h : a < 256) : sBin .rem .int (I (a : Int)) (I 17) K = K (I ((a % 17 : Nat) : Int)) := by
 have e : sBin .rem .int (I (a : Int)) (I 17) K = (bif ieq (17 : Int) 0 then Out.no 5 else intK ((a : Int).tmod 17) fun z => K (.int .i64 z)) := rfl
 rw [e, show ieq (17 : Int) 0 = false from rfl, cond_false, intK_eq, show (a : Int).tmod 17 = ((a % 17 : Nat) : Int) from rfl]
theorem sAxF0 {a b : AV} {l : List AV} {K : AV → OP} : sAaddr 1 2 (.fp (a :: b :: l)) (I 0) K = K (.fp (a :: b :: l)) := nr rfl
theorem sAxF1 {a b : AV} {l : List AV} {K : AV → OP} : sAaddr 1 2 (.fp (a :: b :: l)) (I 1) K = K (.fp (b :: l)) := nr rfl
theorem sLdF {a : AV} {l : List AV} {h : T Blk} {K : AV → OP} : sLoad (.fp (a :: l)) h K = K a := nr rfl
theorem getD_so {l : List Int} {i : Nat} (h : i < l.length) : l[i]? = some (l.getD i 0) := by
 rw [List.getD_eq_getElem?_getD, List.getElem?_eq_getElem h]; rfl
theorem rev_get {q : List (Int × Int)} {N : Int} (h : (q.map fun p => (N - p.1, p.2)).reverse = q) {i : Nat} (hi : i < q.length) {p p' : Int × Int} (hp : q[i]? = some p) (hp' : q[q.length - 1 - i]? = some p') : p'.1 = N - p.1 ∧ p'.2 = p.2 := by
 have e : q[q.length - 1 - i]? = (q.map fun p => (N - p.1, p.2)).reverse[q.length - 1 - i]? := by rw [h]
 rw [List.getElem?_reverse (by simp; omega), List.length_map, show q.length - 1 - (q.length - 1 - i) = i by omega, List.getElem?_map, hp, hp'] at e
 have := Option.some.inj e
 subst this
 exact ⟨rfl, rfl⟩
theorem law13 {cells : Int} {lines : List (List Int)} {n z : Nat} (hj : ∀ B, JOk Tryz.prog B hookS) (hn : n < 256) (hz : z < 256) (haw : ∀ {B}, Pure Tryz.prog B 18 [] (· = .bool true)) : Pure Tryz.prog B 13 [.agg [I cells, encT lines], .int .u8 n, .int .u8 z] (· = .bool true) := by
 refine pure_hp fun h nx K H0 hK => by_body tbl_ok dreg 1000000 fun hf => ?_
 rw [F13.go]
 refine H0.box (l := [I cells, encT lines]) rfl fun bx h1 nx1 H1 => ?_
 have awk : ∀ (h : T Blk) (nx : Pa) (Z : Kw Prop), Z (.bool true) h nx = .ok True → (CS Tryz.prog B).fn 18 (.of 18) [] h nx Z = .ok True := fun h nx Z hZ => haw _ _ _ _ fun v hv _ => by rw [hv]; exact hZ
 have ret : ∀ h' nx' X, Hp h h' nx' X → K (.bool true) h' nx' = .ok True := fun h' nx' X H => hK _ _ _ _ _ H (frz_fixd rfl) rfl
 rw [sConv_i64 (by omega), sRem17 hn, sConv_i64 (by omega), sRem17 hz]
 simp only [sGtr]
 have main : ∀ (m k : Nat) (z24 : AV), m ≤ 16 → k ≤ m → IR.run F13.b1 (CS Tryz.prog B) 1000000 (fnO F13.res K) (retK F13.res K) (F13.fr (.agg [I cells, encT lines]) (.int .u8 n) (.int .u8 z) (.ptr bx 0) (.bool false) (I m) (I k) .undef .undef .undef .undef .undef .undef .undef .undef .undef .undef .undef .undef .undef .undef .undef .undef .undef z24 .undef .undef .undef .undef .undef .undef .undef .undef .undef .undef .undef .undef .undef) h1 nx1 = .ok True := by
  intro m k z24 hm hk
  rw [F13.k1]
  have hM1 : m * (m + 1) ≤ 16 * 17 := Nat.mul_le_mul hm (by omega)
  have hM : m * (m + 1) / 2 ≤ 136 := by omega
  have hrest := fun s => cnt_rest m k s hk
  refine F13.L2 (fun mm x7 h' nx' => ∃ j : Nat, x7 = I j ∧ m * (m + 1) / 2 + 1 - j = mm ∧ j ≤ m * (m + 1) / 2 + 1 ∧ h' = h1 ∧ nx' = nx1) (m := m * (m + 1) / 2 + 1) (by omega) ⟨0, rfl, by omega, by omega, rfl, rfl⟩ ?_
  rintro mm z4 z7 z8 z9 z10 z11 z25 z26 h2 nx2 R ⟨j, rfl, rfl, hj2, rfl, rfl⟩ hR
  rw [sAdd (by omega), show (m : Int) + 1 = ((m + 1 : Nat) : Int) from rfl, sMul2 (by omega), sQuo2 (by omega)]
  simp only [sLeq]
  by_cases c : j ≤ m * (m + 1) / 2
  ·simp only [show (j : Int) ≤ ((m * (m + 1) / 2 : Nat) : Int) by omega, decide_true, sCond_t]
   refine setCount20 hk (by omega) _ _ _ _ _ ?_
   rintro _ rfl _
   simp only [sExt0, sExt1]
   rw [sSub (by omega), show (m : Int) - (k : Int) = ((m - k : Nat) : Int) by omega, sAdd (by omega), show (m : Int) + 1 = ((m + 1 : Nat) : Int) from rfl, sMul2 (by omega), sQuo2 (by omega), sSub (by omega)]
   refine setCount20 (by omega) (by omega) _ _ _ _ _ ?_
   rintro _ rfl _
   have hr := hrest (j : Int)
   simp only [sExt0, sExt1, sNeq, hr, decide_true, Bool.not_true, sG_ff, sPick_f, sCond_f]
   rw [sAdd (by omega)]
   exact hR _ _ _ _ _ _ _ _ _ _ _ (by omega) ⟨j + 1, rfl, rfl, by omega, rfl, rfl⟩
  ·simp only [show ¬ (j : Int) ≤ ((m * (m + 1) / 2 : Nat) : Int) by omega, decide_false, sCond_f]
   rw [F13.k9, H1.loadN (k := 0) (n := 2) rfl rfl]
   refine few44 (by omega) (by omega) _ _ _ _ ?_
   rintro _ rfl _
   by_cases hfew : ((lines.length : Int) ≤ 12 ∧ ∀ l ∈ lines, (l.length : Int) ≤ 9) ∧ sysErr cells lines = 0 ∧ cells ≤ 9
   case neg =>
    rw [decide_eq_false hfew]
    simp only [sNot_b, Bool.not_false, sG_tf, sGW_tf2, sPick_t, sCond_t]
    exact awk _ _ _ (ret _ _ _ H1)
   rw [decide_eq_true hfew]
   obtain ⟨⟨s1, s2⟩, hs, s3⟩ := hfew
   obtain ⟨w, rfl, g1, g2, g3, g4⟩ := sys_ok hs
   have hw9 : w ≤ 9 := by omega
   have hw : ∀ q ∈ lines, q.length ≤ 1000 := fun q hq => by have := s2 q hq; omega
   simp only [sNot_b, Bool.not_true, sG_ff]
   rw [H1.loadN (k := 0) (n := 2) rfl rfl, sGW_ff2]
   refine light62 (by omega) (fun l hl => ⟨g4 l hl, hw l hl⟩) _ _ _ _ ?_
   rintro _ ⟨b, rfl⟩ _
   cases b with
   | false =>
    simp only [sNot_b, sPick_f, Bool.not_false, sG_tf, sPick_t, sCond_t]
    exact awk _ _ _ (ret _ _ _ H1)
   | true =>
   simp only [sNot_b, sPick_f, Bool.not_true, sG_ff, sFx]
   rw [H1.load (k := 0) (i := 0 + 1) rfl rfl]
   simp only [sLen_lst, sEql, sPick_f]
   by_cases h0 : lines.length = 0
   ·simp only [show (lines.length : Int) = 0 by omega, decide_true, sCond_t]
    exact awk _ _ _ (ret _ _ _ H1)
   simp only [show ¬ (lines.length : Int) = 0 by omega, decide_false, sCond_f]
   have hx0 : lines[0]? = some (lines[0]'(by omega)) := List.getElem?_eq_getElem (by omega)
   rw [F13.k10, sFx, H1.load (k := 0) (i := 0 + 1) rfl rfl, sIxL (i := 0) (j := 0) rfl (by omega), ldL (getT hx0)]
   simp only [sLen_lst]
   have hk9 : (lines[0]'(by omega)).length ≤ 9 := by have := s2 _ (List.mem_of_getElem? hx0); omega
   generalize (lines[0]'(by omega)).length = k0 at hk9
   refine F13.L11 (fun mm x13 h' nx' => ∃ i : Nat, x13 = I i ∧ lines.length - i = mm ∧ i ≤ lines.length ∧ h' = h2 ∧ nx' = nx2 ∧ ∀ l ∈ lines.take i, l.length = k0) (m := lines.length) (by omega) ⟨0, rfl, rfl, by omega, rfl, rfl, by simp⟩ ?_
   rintro mm z4 z13 z28 z29 h2 nx2 R ⟨i, rfl, rfl, hi, rfl, rfl, hall⟩ hR
   rw [sFx, H1.load (k := 0) (i := 0 + 1) rfl rfl]
   simp only [sLen_lst, sLss]
   by_cases ci : i < lines.length
   ·simp only [show (i : Int) < (lines.length : Int) by omega, decide_true, sCond_t]
    have hx : lines[i]? = some lines[i] := List.getElem?_eq_getElem ci
    rw [sFx, H1.load (k := 0) (i := 0 + 1) rfl rfl, sIxL rfl ci, ldL (getT hx)]
    simp only [sLen_lst, sNeq]
    by_cases ck : lines[i].length = k0
    ·simp only [show (lines[i].length : Int) = (k0 : Int) by omega, decide_true, Bool.not_true, sCond_f]
     rw [sAdd (by omega)]
     refine hR _ _ _ _ _ _ _ (by omega) ⟨i + 1, rfl, rfl, by omega, rfl, rfl, fun l hl => ?_⟩
     rw [List.take_add_one, hx] at hl
     rcases List.mem_append.1 hl with q | q
     ·exact hall l q
     ·simp at q; rw [q]; exact ck
    ·simp only [show ¬ (lines[i].length : Int) = (k0 : Int) by omega, decide_false, Bool.not_false, sCond_t]
     exact awk _ _ _ (ret _ _ _ H1)
   simp only [show ¬ (i : Int) < (lines.length : Int) by omega, decide_false, sCond_f]
   rw [List.take_of_length_le (by omega)] at hall
   have hsm : smErr w lines = 0 := by rw [smErr_eq, if_neg (by simp [hs]), if_neg (by omega)]
   have hsp : spErr w lines = 0 := by rw [spErr, if_neg (by simp [hsm]), if_neg h0]
   rw [F13.k18, H1.loadN (k := 0) (n := 2) rfl rfl]
   refine spectrum63 hj hw _ _ _ _ ?_
   rintro _ rfl _
   rw [if_neg (by simp [hsp]), Int.toNat_natCast]
   simp only [sExt0, sExt1, sNeq, decide_true, Bool.not_true, sCond_f]
   have hl : ∀ l ∈ lines, AscL w l := g4
   have hbd := fun s hs => cnt_bd (n := w) (lines := lines) (s := s) (by omega) hl hs
   have hrev := spV_rev (k := k0) (lo := loB w lines) (m := (hiB w lines + 1 - loB w lines).toNat) hl hall fun s hs => by have := hbd s hs; omega
   rw [spL_def] at hrev
   have hbb := bnd_bd (by omega) hw9 g3 hl
   have hmem : ∀ p ∈ spL w lines, 0 ≤ p.1 ∧ p.1 ≤ 200000 := fun p hp => by
    have := spV_mem.1 hp; omega
   have hcnt : ∀ s, cntS lines w s ≤ 1000000000 := fun s => Nat.le_trans (enum_len w []) (Nat.le_trans (Nat.pow_le_pow_left hw9 w) (Nat.le_trans (Nat.pow_le_pow_right (by omega) hw9) (by decide)))
   have hlen : (spL w lines).length ≤ 200001 := Nat.le_trans (spV_len _ _ _ _) (by omega)
   generalize spL w lines = q at *
   refine F13.L20 (fun mm x16 h' nx' => ∃ (i : Nat) (X : List Ob), x16 = I i ∧ q.length - i = mm ∧ i ≤ q.length ∧ Hp h h' nx' (.arr bx [I w, encT lines] :: X)) (m := q.length) (by omega) ⟨0, _, rfl, rfl, by omega, H1⟩ ?_
   rintro mm z4 z16 z17 z18 z19 z20 z21 z22 z23 z31 z32 z33 z34 z35 z36 z37 h4 nx4 R ⟨i, X, rfl, rfl, hi, H4⟩ hR20
   simp only [sLen_lst, sLss]
   by_cases ci : i < q.length
   case neg =>
    simp only [show ¬ (i : Int) < (q.length : Int) by omega, decide_false, sCond_f]
    rw [F13.k44]
    exact awk _ _ _ (ret _ _ _ H4)
   simp only [show (i : Int) < (q.length : Int) by omega, decide_true, sCond_t]
   have cj : q.length - 1 - i < q.length := by omega
   rw [sSub (by omega), sSub (by omega), show ((q.length : Int) - 1 - (i : Int)) = ((q.length - 1 - i : Nat) : Int) by omega, sIxL rfl cj, flat2_cons cj, sLoadN_fp2]
   refine H4.alloc fun b8 h5 nx5 H5 => ?_
   refine H5.storeN (k := 0) (n := 2) rfl rfl rfl fun h6 H6 => ?_
   obtain ⟨r1, r2⟩ := rev_get hrev ci (List.getElem?_eq_getElem ci) (List.getElem?_eq_getElem cj)
   have m1 := hmem _ (List.getElem_mem ci)
   have m2 := hmem _ (List.getElem_mem cj)
   have hkw : k0 * (w + 1) ≤ 9 * 10 := Nat.mul_le_mul hk9 (by omega)
   have eN : (k0 : Int) * ((w : Int) + 1) = ((k0 * (w + 1) : Nat) : Int) := by rw [Int.natCast_mul]; rfl
   rw [sAx0, H6.load (k := 0) (i := 0) rfl rfl, sFx, H6.load (k := 1) (i := 0) rfl rfl, sAdd (by omega), show (w : Int) + 1 = ((w + 1 : Nat) : Int) from rfl, sMul2 (by omega), sIxL rfl ci, flat2_cons ci, sAxF0, sLdF, sSub (by omega)]
   rw [← eN]
   simp only [sNeq, r1, decide_true, Bool.not_true, sG_ff]
   rw [sAx1, H6.load (k := 0) (i := 0 + 1) rfl rfl, sIxL rfl ci, flat2_cons ci, sAxF1, sLdF]
   simp only [sNeq, r2, decide_true, Bool.not_true, sPick_f, sCond_f]
   rw [F13.k26, H6.loadN (k := 1) (n := 2) rfl rfl, sIxL rfl ci, flat2_cons ci, sAxF0, sLdF]
   refine dist53 hw hsm hs hw9 (by omega) _ _ _ _ ?_
   rintro _ rfl _
   simp only [sExt0, sExt1]
   rw [H6.loadN (k := 1) (n := 2) rfl rfl, sAx0, H6.load (k := 0) (i := 0) rfl rfl]
   refine dist53 hw hsm hs hw9 (by omega) _ _ _ _ ?_
   rintro _ rfl _
   have hd := fun c x hc hx => dist_cpl (c := c) (x := x) q[i].1 hl hall (hcnt _) hc hx
   have sq1 := sq_dist (enumN_in (s := q[i].1) hl)
   have sq2 := sq_dist (enumN_in (s := (k0 : Int) * ((w : Int) + 1) - q[i].1) hl)
   have er : q[q.length - 1 - i].1 = (k0 : Int) * ((w : Int) + 1) - q[i].1 := r1
   simp only [er]
   generalize distS w (enumN lines q[i].1 w w []) = A at hd sq1
   generalize distS w (enumN lines ((k0 : Int) * ((w : Int) + 1) - q[i].1) w w []) = A2 at hd sq2
   simp only [sExt0, sExt1, sNeq, decide_true, Bool.not_true, sG_ff, sPick_f, sLen_lst, sFx]
   rw [H6.load (k := 1) (i := 0) rfl rfl]
   simp only [sNeq, sq1.1, decide_true, Bool.not_true, sG_ff, sPick_f, sLen_lst, sFx]
   rw [H6.load (k := 1) (i := 0) rfl rfl]
   simp only [sNeq, sq2.1, decide_true, Bool.not_true, sPick_f, sCond_f]
   rw [F13.k27]
   refine F13.L28 (fun mm x22 h' nx' => ∃ c : Nat, x22 = I c ∧ w - c = mm ∧ c ≤ w ∧ h' = h6 ∧ nx' = nx5) (m := w) (by omega) ⟨0, rfl, rfl, by omega, rfl, rfl⟩ ?_
   rintro mm z4 z22 z23 z34 z35 z36 z37 h6 nx5 R28 ⟨c, rfl, rfl, hc, rfl, rfl⟩ hR28
   rw [sFx, H6.load (k := 1) (i := 0) rfl rfl]
   simp only [sLss]
   by_cases cc : c < w
   case neg =>
    simp only [show ¬ (c : Int) < (w : Int) by omega, decide_false, sCond_f]
    rw [F13.k43, sAdd (by omega)]
    exact hR20 _ _ _ _ _ _ _ _ _ _ _ _ _ _ _ _ _ _ _ (by omega) ⟨i + 1, X, rfl, rfl, by omega, H6.drop⟩
   simp only [show (c : Int) < (w : Int) by omega, decide_true, sCond_t]
   obtain ⟨a1, a2⟩ := sq1.get cc
   obtain ⟨b1, b2⟩ := sq2.get cc
   rw [sIxL rfl (by rw [sq1.1]; exact cc), ldL (getT a1)]
   simp only [sLen_lst, sFx]
   rw [H6.load (k := 1) (i := 0) rfl rfl]
   simp only [sNeq, a2, decide_true, Bool.not_true, sG_ff]
   rw [sIxL rfl (by rw [sq2.1]; exact cc), ldL (getT b1)]
   simp only [sLen_lst, sFx]
   rw [H6.load (k := 1) (i := 0) rfl rfl]
   simp only [sNeq, b2, decide_true, Bool.not_true, sPick_f, sCond_f]
   rw [F13.k34]
   refine F13.L35 (fun mm x23 h' nx' => ∃ x : Nat, x23 = I x ∧ w - x = mm ∧ x ≤ w ∧ h' = h6 ∧ nx' = nx5) (m := w) (by omega) ⟨0, rfl, rfl, by omega, rfl, rfl⟩ ?_
   rintro mm z4 z23 z36 z37 h6 nx5 R35 ⟨x, rfl, rfl, hx, rfl, rfl⟩ hR35
   rw [sFx, H6.load (k := 1) (i := 0) rfl rfl]
   simp only [sLss]
   by_cases cx : x < w
   case neg =>
    simp only [show ¬ (x : Int) < (w : Int) by omega, decide_false, sCond_f]
    rw [F13.k42, sAdd (by omega)]
    exact hR28 _ _ _ _ _ _ _ _ _ _ (by omega) ⟨c + 1, rfl, rfl, by omega, rfl, rfl⟩
   simp only [show (x : Int) < (w : Int) by omega, decide_true, sCond_t]
   have hd1 := hd c x cc cx
   have e1 : (A.getD c [])[x]? = some (ent A c x) := by rw [ent]; exact getD_so (by omega)
   have e2 : (A2.getD c [])[w - 1 - x]? = some (ent A2 c (w - 1 - x)) := by rw [ent]; exact getD_so (by omega)
   rw [sIxL rfl (by rw [sq1.1]; exact cc), ldL (getT a1), sIxL rfl (by omega), ldL (getI e1), sIxL rfl (by rw [sq2.1]; exact cc), ldL (getT b1), sFx, H6.load (k := 1) (i := 0) rfl rfl, sSub (by omega), sSub (by omega), show (w : Int) - 1 - (x : Int) = ((w - 1 - x : Nat) : Int) by omega, sIxL rfl (by omega), ldL (getI e2)]
   simp only [sNeq, hd1, decide_true, Bool.not_true, sCond_f]
   rw [sAdd (by omega)]
   exact hR35 _ _ _ _ _ _ _ (by omega) ⟨x + 1, rfl, rfl, by omega, rfl, rfl⟩
 by_cases c : n % 17 < z % 17
 ·simp only [show ((n % 17 : Nat) : Int) < ((z % 17 : Nat) : Int) by omega, decide_true, sCond_t]
  exact main _ _ _ (by omega) (by omega)
 ·simp only [show ¬ ((n % 17 : Nat) : Int) < ((z % 17 : Nat) : Int) by omega, decide_false, sCond_f]
  exact main _ _ _ (by omega) (by omega)
end Go.Ev
