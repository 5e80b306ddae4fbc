import Derived.Test.YtepfaegpjddehaaGreatDoorEvD
import Derived.Deep.Matrix
import Derived.Lib.SmallJoins
import Derived.Test.YtepfaegpjddehaaGreatDoorCode
import GoSem.Core.Next
import Derived.Test.YtepfaegpjddehaaGreatDoorLaws
set_option linter.unusedSimpArgs false
set_option linter.unusedVariables false
namespace Go.Ev
open Go Go.RowKit Go.ChangeShapes Go.WideShapes Go.Deep Go.Joins
variable {H : Type} {enc : TypeId × Value → H} {P : Program}
theorem uO {w : World} {a : Addr} {i : Nat} {v : Value} (h : w.cell? (a.add i) = some v) : a = ⟨a.block, a.off, a.spot⟩ ∧ (i = 0 → a.spot = none) ∧ uK w a.block (a.off + i) = some v := by
 unfold Addr.add at h
 by_cases hi : i = 0
 ·subst hi
  rw [if_pos rfl] at h
  unfold World.cell? at h
  split at h
  ·rename_i c ty fr hb
   split at h
   ·cases h
   ·rename_i hs
    refine ⟨rfl, fun _ => by cases e : a.spot <;> simp_all, ?_⟩
    simp [uK, hb, h]
  ·cases h
 ·rw [if_neg hi] at h
  unfold World.cell? at h
  split at h
  ·rename_i c ty fr hb
   refine ⟨rfl, fun q => absurd q hi, ?_⟩
   simp at h hb
   simp [uK, hb, h]
  ·cases h
theorem VRF_mk {E : Env} {b : Nat} : ∀ {l : List AV} {off : Nat}, (∀ i a, l[i]? = some a → ∃ v, E.fz b (off + i) = some v ∧ VR E a v) → VRF E l b off
 | [], _, _ => by simp only [VRF]
 | a :: l, off, h => by
  simp only [VRF]
  obtain ⟨v, h1, h2⟩ := h 0 a rfl
  refine ⟨v, h1, h2, VRF_mk fun i x hx => ?_⟩
  obtain ⟨v', h3, h4⟩ := h (i + 1) x (by simpa using hx)
  exact ⟨v', by rw [Nat.add_assoc, Nat.add_comm 1 i]; exact h3, h4⟩
theorem scalI2 (l : List Int) : (l.map I).all scal = true := by
 rw [List.all_eq_true]; intro v hv
 obtain ⟨x, _, rfl⟩ := List.mem_map.1 hv; rfl
theorem scalT2 (l : List (List Int)) : (l.map encI).all scal = true := by
 rw [List.all_eq_true]; intro v hv
 obtain ⟨x, _, rfl⟩ := List.mem_map.1 hv; rfl
theorem vr_row {w : World} {p : Option Addr} {L C : Nat} {Z : List Int} (hL : L ≤ C) (hZ : Z.length = C) (h0 : p = none → C = 0) (hc : ∀ a, p = some a → ∀ c, c < C → w.cell? (a.add c) = some (.int .i64 (Z.getD c 0))) :
  VR (allE w) (encI (Z.take L)) (.slice p L C) := by
 have hlen : (Z.take L).length = L := by rw [List.length_take]; omega
 simp only [VR]
 refine ⟨scalI2 _, by simp, p, C, by rw [hlen], ?_⟩
 rw [hlen]
 cases p with
 | none => exact .inl (by have := h0 rfl; omega)
 | some a =>
  by_cases hL0 : L = 0
  ·exact .inl hL0
  ·obtain ⟨_, hs, _⟩ := uO (hc a rfl 0 (by omega))
   obtain ⟨b, off, sp⟩ := a
   have : sp = none := hs rfl
   subst this
   refine .inr ⟨b, off, rfl, hL, VRF_mk fun i x hx => ?_⟩
   rw [List.getElem?_map] at hx
   have hi : i < L := by
    cases e : (Z.take L)[i]? with
    | none => rw [e] at hx; cases hx
    | some y => have := (List.getElem?_eq_some_iff.1 e).1; omega
   obtain ⟨_, _, h3⟩ := uO (hc _ rfl i (by omega))
   refine ⟨_, h3, ?_⟩
   rw [List.getElem?_take, if_pos hi] at hx
   cases e : Z[i]? with
   | none => rw [e] at hx; cases hx
   | some y =>
    rw [e] at hx
    have hx := Option.some.inj hx
    subst hx
    rw [List.getD_eq_getElem?_getD, e]
    simp only [VR, Option.getD_some]
theorem open_listT {t e q : TypeId} {w : World} {base : Nat} {held : Bool} {fuel : Nat} {cs : List Value} {x : DataW H × List MemPlace} (ht : P.underlying t = some (.slice e)) (he : P.underlying e = some (.slice q)) (hq : P.underlying q = some (.int .i64))
  (ce : P.cellsOf e = 1) (cq : P.cellsOf q = 1) (h : DataW.trod enc P w base (fun _ => true) held fuel t cs = some x) :
  ∃ (ll : List (List Int)) (v : Value), cs = [v] ∧ VR (allE w) (encT ll) v ∧ ll.length ≤ maxLen ∧ ∀ l ∈ ll, l.length ≤ maxLen ∧ ∀ n ∈ l, (Lit.int .i64 n).wf = true := by
 rcases open_int_rows ht he hq ce cq h with ⟨rfl, _⟩ | ⟨a, len, cap, A, L, C, Z, rfl, hb, hl, hm, _, hr⟩
 ·exact ⟨[], _, rfl, by simp only [VR]; exact ⟨rfl, rfl, none, 0, rfl, .inl rfl⟩, by simp, by simp⟩
 ·refine ⟨(List.range len).map fun r => (Z r).take (L r), _, rfl, ?_, by simp; omega, fun l hm' => ?_⟩
  ·simp only [VR]
   refine ⟨scalT2 _, by simp, some a, cap, by simp, ?_⟩
   by_cases h0 : len = 0
   ·exact .inl (by simp [h0])
   ·obtain ⟨_, hs, _⟩ := uO (hr 0 (by omega)).1
    obtain ⟨b, off, sp⟩ := a
    have : sp = none := hs rfl
    subst this
    refine .inr ⟨b, off, rfl, by simpa using hl, VRF_mk fun i x hx => ?_⟩
    rw [List.map_map, List.getElem?_map] at hx
    have hi : i < len := by
     cases e : (List.range len)[i]? with
     | none => rw [e] at hx; cases hx
     | some y => have := (List.getElem?_eq_some_iff.1 e).1; simpa using this
    rw [List.getElem?_range hi] at hx
    have hx := Option.some.inj hx
    subst hx
    obtain ⟨g1, g2, g3, g4, _, g6, g7⟩ := hr i (by omega)
    obtain ⟨_, _, h3⟩ := uO g1
    exact ⟨_, h3, vr_row g2 g4 g6 fun a' q c hc => (g7 a' q).2 c hc⟩
  ·obtain ⟨r, hr', rfl⟩ := List.mem_map.1 hm'
   obtain ⟨_, g2, g3, g4, g5, _⟩ := hr r (by have := List.mem_range.1 hr'; omega)
   exact ⟨by rw [List.length_take]; omega, fun n hn => g5 n (List.mem_of_mem_take hn)⟩
theorem open_system {r : Reach} {b0 base : Nat} {held : Bool} {w : World} {t ti tl tr : TypeId} {f0 f1 : Field} {v : Value} {d : DataW H} {p : List MemPlace} (hs : P.underlying t = some (.struct #[f0, f1])) (hone : oneCellFields P #[f0, f1] = true) (hC : P.cellsOf t = 2)
  (e0 : f0.type = ti) (e1 : f1.type = tl) (u0 : P.underlying ti = some (.int .i64)) (u1 : P.underlying tl = some (.slice tr)) (u2 : P.underlying tr = some (.slice ti)) (c1 : P.cellsOf tr = 1) (c2 : P.cellsOf ti = 1)
  (hv : Value.okWide P w r b0 t v) (h : DataW.Trod enc P w base (fun _ => true) held t v d p) :
  ∃ (cells : Int) (lines : List (List Int)), VR (allE w) (.agg [I cells, encT lines]) v ∧ (Lit.int .i64 cells).wf = true ∧ lines.length ≤ maxLen ∧ ∀ l ∈ lines, l.length ≤ maxLen ∧ ∀ n ∈ l, (Lit.int .i64 n).wf = true := by
 obtain ⟨v0, v1, y0, y1, n, rfl, _, _, h0, h1⟩ := open_agg2 hs hone hC hv h
 rw [e0] at h0
 rw [e1] at h1
 obtain ⟨x, hx, _, hw⟩ := DataW.trod_int u0 h0
 simp only [List.cons.injEq, and_true] at hx
 subst hx
 obtain ⟨ll, v', hv', g1, g2, g3⟩ := open_listT u1 u2 u0 c1 c2 h1
 simp only [List.cons.injEq, and_true] at hv'
 subst hv'
 refine ⟨x, ll, ?_, hw, g2, g3⟩
 simp only [VR]
 exact ⟨rfl, _, rfl, VRL.cons (by simp only [VR]) (VRL.cons g1 VRL.nil)⟩
end Go.Ev
namespace Go.Ev
open Go Go.Proofs
theorem dreg {B : Nat} : DregAll Tryz.prog B Prop := dreg_all mixed
variable {B : Nat}
theorem sameInts35 {a b : List Int} (ha : a.length ≤ 1000000000) : Pure Tryz.prog B 35 [encI a, encI b] (· = .bool (decide (a = b))) := by
 intro p h nx K hK
 refine zP zZ dreg (a.length + 2) fun hf => ?_
 rw [F35.go]
 simp (disch := omega) only [sAdd, sSub, sMul, sEql, sNeq, sLss, sLeq, sGtr, sGeq, zK, zI, zC, zB, yC, zY, yE, yF, zO, yD, yA, yI, zT, zS, zR, zF, zM, zJ, zD, decide_true, decide_false, Bool.not_true, Bool.not_false, zV]
 by_cases hl : a.length = b.length
 ·simp only [hl, decide_true, Bool.not_true, zB]
  refine F35.L2 (fun m z3 h' nx' => ∃ i : Nat, z3 = I i ∧ m = a.length - i ∧ i ≤ a.length ∧ h' = h ∧ nx' = nx ∧ a.take i = b.take i) (m := a.length) (by omega) ⟨0, rfl, by simp, by omega, rfl, rfl, by simp⟩ ?_
  rintro m z2 z3 z5 z6 _ _ R ⟨i, rfl, rfl, hi, rfl, rfl, htk⟩ hR
  simp (disch := omega) only [sAdd, sSub, sMul, sEql, sNeq, sLss, sLeq, sGtr, sGeq, zK, zI, zC, zB, yC, zY, yE, yF, zO, yD, yA, yI, zT, zS, zR, zF, zM, zJ, zD, decide_true, decide_false, Bool.not_true, Bool.not_false, zV]
  by_cases hlt : i < a.length
  ·have h1 : (i : Int) < a.length := by omega
   have hb : i < b.length := by omega
   simp only [h1, decide_true, zC]
   rw [sIxL rfl hlt, ldL (getI (List.getElem?_eq_getElem hlt)), sIxL rfl hb, ldL (getI (List.getElem?_eq_getElem hb))]
   simp (disch := omega) only [sAdd, sSub, sMul, sEql, sNeq, sLss, sLeq, sGtr, sGeq, zK, zI, zC, zB, yC, zY, yE, yF, zO, yD, yA, yI, zT, zS, zR, zF, zM, zJ, zD, decide_true, decide_false, Bool.not_true, Bool.not_false, zV]
   by_cases he : a[i] = b[i]
   ·simp only [he, decide_true, Bool.not_true, zB]
    refine hR (a.length - (i + 1)) _ _ _ _ _ _ (by omega) ⟨i + 1, rfl, rfl, by omega, rfl, rfl, ?_⟩
    rw [List.take_add_one, List.take_add_one, htk, List.getElem?_eq_getElem hlt, List.getElem?_eq_getElem hb, he]
   ·simp only [he, decide_false, Bool.not_false, zC]
    refine hK _ ?_ hf
    rw [decide_eq_false]
    rintro rfl
    exact he rfl
  ·have h1 : ¬ (i : Int) < a.length := by omega
   simp only [h1, decide_false, zB]
   rw [F35.k9]
   refine hK _ ?_ hf
   rw [List.take_of_length_le (by omega), List.take_of_length_le (by omega)] at htk
   rw [decide_eq_true htk]
 ·have h1 : ¬ (a.length : Int) = b.length := by omega
  simp only [h1, decide_false, Bool.not_false, zC]
  refine hK _ ?_ hf
  rw [decide_eq_false]
  rintro rfl; exact hl rfl
end Go.Ev
namespace Go.Ev
def addAt (y : List Nat) (i k : Nat) : List Nat := y.set i ((y.getD i 0 + k) % 256)
def addL (y : List Nat) (idx : List Nat) (k : Nat) : List Nat := idx.foldl (fun y i => addAt y i k) y
@[simp] theorem addAt_length (y : List Nat) (i k : Nat) : (addAt y i k).length = y.length := by simp [addAt]
@[simp] theorem addL_length (idx : List Nat) (k : Nat) : ∀ y : List Nat, (addL y idx k).length = y.length := by
 induction idx with
 | nil => intro y; rfl
 | cons i l ih => intro y; show (addL (addAt y i k) l k).length = _; rw [ih]; simp
theorem addL_snoc (y : List Nat) (l : List Nat) (i k : Nat) : addL y (l ++ [i]) k = addAt (addL y l k) i k := by simp [addL]
def onP (lines : List (List Int)) (i c : Nat) : List Nat := (List.range i).flatMap fun j => ((lines.getD j []).filter (· = (c : Int))).map fun _ => j
abbrev onC (lines : List (List Int)) (c : Nat) : List Nat := onP lines lines.length c
theorem onP_succ (lines : List (List Int)) (i c : Nat) : onP lines (i + 1) c = onP lines i c ++ ((lines.getD i []).filter (· = (c : Int))).map fun _ => i := by
 simp [onP, List.range_succ, List.flatMap_append]
theorem onP_lt {lines : List (List Int)} {i c x : Nat} (h : x ∈ onP lines i c) : x < i := by
 simp only [onP, List.mem_flatMap, List.mem_range, List.mem_map] at h
 obtain ⟨j, h1, y, _, rfl⟩ := h
 exact h1
def tallyT (lines : List (List Int)) (most fr : Nat) : Nat → List (List Nat)
 | 0 => [List.replicate lines.length 0]
 | n + 1 => (tallyT lines most fr n).flatMap fun x => (List.range (most + 1)).map fun k => addL x (onC lines (fr + n)) k
theorem tallyT_length (lines : List (List Int)) (most fr : Nat) : ∀ n, (tallyT lines most fr n).length = (most + 1) ^ n
 | 0 => rfl
 | n + 1 => by
  simp only [tallyT, List.length_flatMap, List.length_map, List.length_range, List.map_const', List.sum_replicate_nat]
  rw [tallyT_length lines most fr n, Nat.pow_succ]
def blk (x : List Nat) (idx : List Nat) (n : Nat) : Nat → List (List Nat)
 | 0 => []
 | j + 1 => List.replicate n (addL x idx j) ++ blk x idx n j
theorem blk_length (x idx : List Nat) (n : Nat) : ∀ j, (blk x idx n j).length = j * n
 | 0 => by simp [blk]
 | j + 1 => by simp [blk, blk_length x idx n j, Nat.add_mul]; omega
theorem perm_self (ks G : List (List Nat)) (nd : ks.Nodup) (hm : ∀ y, y ∈ ks ↔ y ∈ G) : (ks.flatMap fun x => List.replicate (G.count x) x).Perm G := by
 rw [List.perm_iff_count]
 intro y
 have key : ∀ (l : List (List Nat)), l.Nodup → (l.flatMap fun x => List.replicate (G.count x) x).count y = if y ∈ l then G.count y else 0 := by
  intro l
  induction l with
  | nil => intro _; rfl
  | cons a l ih =>
   intro nd
   rw [List.flatMap_cons, List.count_append, ih (List.nodup_cons.1 nd).2, List.count_replicate]
   by_cases e : y = a
   ·subst e
    have : y ∉ l := (List.nodup_cons.1 nd).1
    simp [this]
   ·have : ¬ (a == y) = true := by simpa using fun q => e q.symm
    simp [this, e]
 rw [key ks nd]
 by_cases e : y ∈ ks
 ·rw [if_pos e]
 ·rw [if_neg e, List.count_eq_zero.2 fun q => e ((hm y).2 q)]
theorem blk_perm (x idx : List Nat) (n : Nat) : ∀ j, (blk x idx n j).Perm ((List.replicate n x).flatMap fun x => (List.range j).map fun k => addL x idx k)
 | 0 => by
  have : ((List.replicate n x).flatMap fun x => (List.range 0).map fun k => addL x idx k) = [] := by simp
  rw [this]; exact .refl _
 | j + 1 => by
  refine (List.Perm.append_left _ (blk_perm x idx n j)).trans ?_
  clear blk_perm
  induction n with
  | zero => simp
  | succ n ih =>
   rw [List.replicate_succ, List.replicate_succ, List.flatMap_cons, List.flatMap_cons, List.range_succ, List.map_append, List.map_singleton]
   rw [List.range_succ] at ih
   generalize addL x idx j = a at *
   generalize (List.range j).map (fun k => addL x idx k) = r at *
   have : (a :: List.replicate n a ++ (r ++ (List.replicate n x).flatMap fun x => (List.range j).map fun k => addL x idx k)).Perm (r ++ [a] ++ (List.replicate n a ++ (List.replicate n x).flatMap fun x => (List.range j).map fun k => addL x idx k)) := by
    rw [List.perm_iff_count]; intro y; simp only [List.count_append, List.count_cons, List.cons_append, List.nil_append, List.count_nil]; omega
   refine this.trans ?_
   exact List.Perm.append_left _ ih
theorem next_perm (ks G : List (List Nat)) (idx : List Nat) (j : Nat) (nd : ks.Nodup) (hm : ∀ y, y ∈ ks ↔ y ∈ G) : (ks.flatMap fun x => blk x idx (G.count x) j).Perm (G.flatMap fun x => (List.range j).map fun k => addL x idx k) := by
 refine List.Perm.trans ?_ ((perm_self ks G nd hm).flatMap_right _)
 rw [List.flatMap_assoc]
 clear hm nd
 induction ks with
 | nil => exact .refl _
 | cons a l ih =>
  rw [List.flatMap_cons, List.flatMap_cons]
  exact (blk_perm a idx _ j).append ih
theorem seen_perm {n : Nat} {seen : List Nat} (nd : seen.Nodup) (h1 : ∀ i ∈ seen, i < n) (h2 : ∀ i, i < n → i ∈ seen) : seen.Perm (List.range n) := by
 rw [List.perm_iff_count]
 intro a
 rw [nd.count, List.nodup_range.count]
 by_cases e : a < n
 ·rw [if_pos (h2 a e), if_pos (by simpa using e)]
 ·rw [if_neg fun q => e (h1 a q), if_neg (by simpa using e)]
end Go.Ev
namespace Go.Ev
open Go Go.Proofs
variable {B : Nat}
abbrev nI (x : Nat) : AV := I (x : Int)
noncomputable abbrev Lt (on bx : Pa) (cells : Nat) (lines : List (List Int)) (o : Nat → Option Pa) (D : Nat → List Nat) (L : List Ob) : List Ob :=
 .arr on (rowL cells fun c => rowV (o c) 1 (D c).length) :: .arr bx [I cells, encT lines] :: (rowL cells (fun c => Ob.gro (o c) 1 (D c).length ((D c).map nI)) ++ L)
theorem Lt_get {on bx : Pa} {cells c : Nat} {lines : List (List Int)} {o : Nat → Option Pa} {D : Nat → List Nat} {L : List Ob} (hc : c < cells) : (Lt on bx cells lines o D L)[c + 2]? = some (.gro (o c) 1 (D c).length ((D c).map nI)) := by
 show (rowL cells _ ++ L)[c]? = _
 rw [List.getElem?_append_left (by simpa using hc), uD hc]
theorem F89.on {N : Nat} {K0 : Kw Prop} {K : Ks Prop} {h0 h : T Blk} {nx : Pa} {L : List Ob} {x0 x1 x2 x3 x5 x7 x8 x9 x10 x11 x12 x13 x14 x15 x16 x17 x21 x22 x23 x24 x25 x26 x27 x28 x29 x30 x31 x32 x33 : AV} {on bx : Pa} {cells : Nat} {lines : List (List Int)} (hN : 100000000 < N) (hm : lines.length ≤ 128) (hw : ∀ l ∈ lines, l.length ≤ 1000) (hl : ∀ l ∈ lines, ∀ c ∈ l, 0 ≤ c ∧ c < (cells : Int))
  (H : Hp h0 h nx (.arr on (List.replicate cells .nils) :: .arr bx [I cells, encT lines] :: L))
  (hK : ∀ x7 x8 x9 x20 x21 x22 x23 x24 x25 h' nx' o, Hp h0 h' nx' (Lt on bx cells lines o (onC lines) L) → K (F89.fr x0 x1 x2 x3 (.ptr bx 0) x5 (.sl on 0 cells (some cells) 1) x7 x8 x9 x10 x11 x12 x13 x14 x15 x16 x17 (encT lines) (I lines.length) x20 x21 x22 x23 x24 x25 x26 x27 x28 x29 x30 x31 x32 x33) h' nx' = .ok True) :
  IR.run F89.b1 (CS Tryz.prog B) N (fnO F89.res K0) K (F89.fr x0 x1 x2 x3 (.ptr bx 0) x5 (.sl on 0 cells (some cells) 1) x7 x8 x9 x10 x11 x12 x13 x14 x15 x16 x17 (encT lines) (I lines.length) (I 0) x21 x22 x23 x24 x25 x26 x27 x28 x29 x30 x31 x32 x33) h nx = .ok True := by
 refine F89.L1 (fun m x20 h' nx' => ∃ (i : Nat) (o : Nat → Option Pa), x20 = I i ∧ lines.length - i = m ∧ i ≤ lines.length ∧ Hp h0 h' nx' (Lt on bx cells lines o (onP lines i) L)) (m := lines.length) (by omega) ⟨0, fun _ => none, rfl, rfl, by omega, ?_⟩ ?_
 ·have H2 := (H.addE (E := rowL cells fun _ => Ob.gro none 1 0 []) fun x hx => by
   obtain ⟨j, _, rfl⟩ := rowL_mem hx
   exact ⟨rfl, fun _ => ⟨rfl, rfl⟩⟩).perm (List.perm_append_comm (l₂ := .arr on (List.replicate cells .nils) :: .arr bx [I cells, encT lines] :: L))
  refine (H2.perm (L' := .arr on (List.replicate cells .nils) :: .arr bx [I cells, encT lines] :: (rowL cells (fun _ => Ob.gro none 1 0 []) ++ L)) ?_).cast ?_
  ·exact (List.perm_append_comm.cons _).cons _
  ·rw [rowL_const]; rfl
 rintro m z7 z8 z9 z20 z21 z22 z23 z24 z25 h1 nx1 R ⟨i, o, rfl, rfl, hi, H1⟩ hR
 simp (disch := omega) only [sAdd, sSub, sMul, sEql, sNeq, sLss, sLeq, sGtr, sGeq, zK, zI, zC, zB, yC, zY, yE, yF, zO, yD, yA, yI, zT, zS, zR, zF, zM, zJ, zD, decide_true, decide_false, Bool.not_true, Bool.not_false, zV]
 by_cases hlt : i < lines.length
 case neg =>
  simp only [show ¬ (i : Int) < (lines.length : Int) by omega, decide_false, zB]
  obtain rfl : i = lines.length := by omega
  exact hK _ _ _ _ _ _ _ _ _ _ _ _ H1
 simp only [show (i : Int) < (lines.length : Int) by omega, decide_true, zC]
 obtain ⟨line, hline⟩ : ∃ l, lines[i]? = some l := ⟨_, List.getElem?_eq_getElem hlt⟩
 have hmem := List.mem_of_getElem? hline
 have hgd : lines.getD i [] = line := by rw [List.getD_eq_getElem?_getD, hline]; rfl
 rw [sIxL rfl hlt, ldL (getT hline)]
 simp (disch := omega) only [sAdd, sSub, sMul, sEql, sNeq, sLss, sLeq, sGtr, sGeq, zK, zI, zC, zB, yC, zY, yE, yF, zO, yD, yA, yI, zT, zS, zR, zF, zM, zJ, zD, decide_true, decide_false, Bool.not_true, Bool.not_false, zV]
 have hlw := hw _ hmem
 refine F89.L7 (fun m x24 h' nx' => ∃ (j : Nat) (o : Nat → Option Pa), x24 = I j ∧ line.length - j = m ∧ j ≤ line.length ∧ Hp h0 h' nx' (Lt on bx cells lines o (fun c => onP lines i c ++ ((line.take j).filter (· = (c : Int))).map fun _ => i) L)) (m := line.length) (by omega) ⟨0, o, rfl, rfl, by omega, H1.cast (by simp [Lt])⟩ ?_
 rintro m z9 z24 z25 h2 nx2 R2 ⟨j, o2, rfl, rfl, hj, H2⟩ hR2
 simp (disch := omega) only [sAdd, sSub, sMul, sEql, sNeq, sLss, sLeq, sGtr, sGeq, zK, zI, zC, zB, yC, zY, yE, yF, zO, yD, yA, yI, zT, zS, zR, zF, zM, zJ, zD, decide_true, decide_false, Bool.not_true, Bool.not_false, zV]
 by_cases hjt : j < line.length
 case neg =>
  simp only [show ¬ (j : Int) < (line.length : Int) by omega, decide_false, zB]
  rw [F89.k14]
  simp (disch := omega) only [sAdd, sSub, sMul, sEql, sNeq, sLss, sLeq, sGtr, sGeq, zK, zI, zC, zB, yC, zY, yE, yF, zO, yD, yA, yI, zT, zS, zR, zF, zM, zJ, zD, decide_true, decide_false, Bool.not_true, Bool.not_false, zV]
  refine hR (lines.length - (i + 1)) _ _ _ _ _ _ _ _ _ _ _ (by omega) ⟨i + 1, o2, rfl, rfl, by omega, H2.cast ?_⟩
  have : ∀ c, onP lines (i + 1) c = onP lines i c ++ ((line.take j).filter (· = (c : Int))).map fun _ => i := fun c => by
   rw [onP_succ, hgd, List.take_of_length_le (by omega)]
  simp only [Lt, this]
 simp only [show (j : Int) < (line.length : Int) by omega, decide_true, zC]
 obtain ⟨cz, hcz⟩ : ∃ c, line[j]? = some c := ⟨_, List.getElem?_eq_getElem hjt⟩
 have hcr := hl _ hmem cz (List.mem_of_getElem? hcz)
 obtain ⟨c, rfl⟩ : ∃ c : Nat, cz = c := ⟨cz.toNat, by omega⟩
 have hc : c < cells := by omega
 rw [sIxL rfl hjt, ldL (getI hcz), sIx (i := c) rfl hc, H2.load (k := 0) rfl (uD hc)]
 refine H2.bslice (l := [I i]) rfl fun t h3 nx3 H3 => ?_
 refine H3.appN (k := c + 3) (o := o2 c) (c := 1) (new := [I i]) (by exact Lt_get (on := on) (bx := bx) (lines := lines) hc) (HasArr.rd (l := [I i]) (n := 1) (H3.own _ (List.mem_cons_self ..)) rfl) rfl rfl (by decide) (by decide) ?_ fun o' h4 nx4 _ H4 => ?_
 ·have h1 : (onP lines i c).length ≤ 128000 := by
   have : ∀ i, i ≤ lines.length → (onP lines i c).length ≤ i * 1000 := by
    intro i
    induction i with
    | zero => intro _; simp [onP]
    | succ i ih =>
     intro hi
     rw [onP_succ, List.length_append, List.length_map]
     have h2 := ih (by omega)
     have h3 : ((lines.getD i []).filter (· = (c : Int))).length ≤ 1000 := by
      refine Nat.le_trans (List.length_filter_le _ _) ?_
      rw [List.getD_eq_getElem?_getD, List.getElem?_eq_getElem (by omega)]
      exact hw _ (List.getElem_mem _)
     omega
   have h9 := this i hi
   clear this
   omega
  have h2 : (((line.take j).filter (· = (c : Int))).map fun _ => i).length ≤ 1000 := by
   rw [List.length_map]
   refine Nat.le_trans (List.length_filter_le _ _) ?_
   rw [List.length_take]; omega
  rw [List.length_append]; omega
 rw [sIx (i := c) rfl hc]
 refine H4.store (k := 1) rfl (by simpa using hc) (rowV_cells _ _ _) fun h5 H5 => ?_
 refine hR2 (line.length - (j + 1)) _ _ _ _ _ (by omega) ⟨j + 1, fun p => if p = c then o' else o2 p, rfl, rfl, by omega, H5.drop.cast ?_⟩
 have hD : ∀ p : Nat, (onP lines i p ++ ((line.take (j + 1)).filter (· = (p : Int))).map fun _ => i) = if p = c then (onP lines i c ++ ((line.take j).filter (· = (c : Int))).map fun _ => i) ++ [i] else onP lines i p ++ ((line.take j).filter (· = (p : Int))).map fun _ => i := fun p => by
  rw [List.take_add_one, hcz]
  by_cases e : p = c
  ·subst e; simp
  ·have : ¬ (c : Int) = (p : Int) := by omega
   simp [e, this]
 simp only [hD]
 simp only [Lt, List.set_cons_succ, List.set_cons_zero, List.tail_cons]
 have e1 : ∀ x : Ob, (rowL cells (fun p => Ob.gro (o2 p) 1 (onP lines i p ++ ((line.take j).filter (· = (p : Int))).map fun _ => i).length ((onP lines i p ++ ((line.take j).filter (· = (p : Int))).map fun _ => i).map nI)) ++ L).set c x = rowL cells (fun p => if p = c then x else Ob.gro (o2 p) 1 (onP lines i p ++ ((line.take j).filter (· = (p : Int))).map fun _ => i).length ((onP lines i p ++ ((line.take j).filter (· = (p : Int))).map fun _ => i).map nI)) ++ L := fun x => by
  rw [List.set_append_left _ _ (by simpa using hc), rowL_set]
 rw [e1, rowL_set]
 congr 1
 ·congr 1
  refine rowL_congr fun p _ => ?_
  by_cases e : p = c
  ·subst e; simp [Nat.add_assoc]
  ·simp [e]
 ·congr 2
  refine rowL_congr fun p _ => ?_
  by_cases e : p = c
  ·subst e; simp [Nat.add_assoc]
  ·simp [e]
theorem sConv_u8 {k : IntKind} {x : Nat} {K : AV → OP} : sConv .u8 (.int k (x : Int)) K = K (u8 (x % 256)) := by
 show intK (wrapF .u8 (x : Int)) (fun z => K (.int .u8 z)) = _
 rw [gY, wrapF_eq, IntKind.wrap_u8]
 have : u8 (x % 256) = .int .u8 ((x : Int) % 256) := by unfold u8; congr 1
 rw [this]
theorem sAdd_u8 {x y : Nat} {K : AV → OP} : sBin .add .int (u8 x) (u8 y) K = K (u8 ((x + y) % 256)) := by
 rw [sAddW, IntKind.wrap_u8]
 have : u8 ((x + y) % 256) = .int .u8 (((x : Int) + (y : Int)) % 256) := by unfold u8; congr 1
 rw [this]
theorem F89.add {N : Nat} {K0 : Kw Prop} {E4 E5 E6 E7 E8 E9 K : Ks Prop} {h0 h : T Blk} {nx : Pa} {L : List Ob} {x0 x1 x2 x3 x4 x5 x6 x7 x8 x9 x10 x11 x12 x13 x14 x17 x18 x19 x20 x21 x22 x23 x24 x25 x26 x27 x28 x29 x33 : AV} {yb : Pa} {y : Key} {idx : List Nat} {o : Option Pa} {k c : Nat} (hN : 100000000 < N) (hy : y.length ≤ 128) (hi : ∀ x ∈ idx, x < y.length) (hn : idx.length ≤ 1000000)
  (H : Hp h0 h nx (.arr yb (yW y) :: L)) (hc : L[c]? = some (.gro o 1 idx.length (idx.map nI)))
  (hK : ∀ x17 x32 x33 h' nx', Hp h0 h' nx' (.arr yb (yW (addL y idx k)) :: L) → K (F89.fr x0 x1 x2 x3 x4 x5 x6 x7 x8 x9 x10 x11 x12 x13 x14 (I k) (.ptr yb 0) x17 x18 x19 x20 x21 x22 x23 x24 x25 x26 x27 x28 x29 (rowV o 1 idx.length) (I idx.length) x32 x33) h' nx' = .ok True) :
  IR.run F89.b33 (CS Tryz.prog B) N (((((((fnO F89.res K0).blk 4 E4).blk 5 E5).blk 6 E6).blk 7 E7).blk 8 E8).blk 9 E9) K (F89.fr x0 x1 x2 x3 x4 x5 x6 x7 x8 x9 x10 x11 x12 x13 x14 (I k) (.ptr yb 0) x17 x18 x19 x20 x21 x22 x23 x24 x25 x26 x27 x28 x29 (rowV o 1 idx.length) (I idx.length) (I 0) x33) h nx = .ok True := by
 refine F89.L33 (fun m x32 h' nx' => ∃ j : Nat, x32 = I j ∧ idx.length - j = m ∧ j ≤ idx.length ∧ Hp h0 h' nx' (.arr yb (yW (addL y (idx.take j) k)) :: L)) (m := idx.length) (by omega) ⟨0, rfl, rfl, by omega, H⟩ ?_
 rintro m z17 z32 z33 h1 nx1 R ⟨j, rfl, rfl, hj, H1⟩ hR
 simp (disch := omega) only [sAdd, sSub, sMul, sEql, sNeq, sLss, sLeq, sGtr, sGeq, zK, zI, zC, zB, yC, zY, yE, yF, zO, yD, yA, yI, zT, zS, zR, zF, zM, zJ, zD, decide_true, decide_false, Bool.not_true, Bool.not_false, zV]
 by_cases hlt : j < idx.length
 case neg =>
  simp only [show ¬ (j : Int) < (idx.length : Int) by omega, decide_false, zB]
  rw [List.take_of_length_le (by omega)] at H1
  exact hK _ _ _ _ _ H1
 simp only [show (j : Int) < (idx.length : Int) by omega, decide_true, zC]
 obtain ⟨x, hx⟩ : ∃ x, idx[j]? = some x := ⟨_, List.getElem?_eq_getElem hlt⟩
 have hxl := hi x (List.mem_of_getElem? hx)
 obtain ⟨id, q1, q2⟩ := H1.groIx (k := c + 1) (by exact hc) (v := I x) (by rw [List.getElem?_map, hx]; rfl)
 have hyl : x < (addL y (idx.take j) k).length := by simpa using hxl
 rw [q1, q2, sAx (i := x) rfl (by omega), H1.load (k := 0) rfl (cellsK_get (List.getElem?_eq_getElem hyl)), sConv_u8, sAdd_u8, sAx (i := x) rfl (by omega)]
 refine H1.store (k := 0) rfl (by rw [jJ (by simpa using hy)]; omega) rfl fun h2 H2 => ?_
 refine hR (idx.length - (j + 1)) _ _ _ _ _ (by omega) ⟨j + 1, rfl, rfl, by omega, H2.cast ?_⟩
 rw [List.set_cons_zero, cellsK_set hyl, List.take_add_one, hx]
 show _ = .arr yb (yW (addL y (idx.take j ++ [x]) k)) :: L
 rw [addL_snoc, addAt]
 congr 3
 congr 1
 rw [List.getD_eq_getElem?_getD, List.getElem?_eq_getElem hyl]
 simp
theorem Hp.dropL {h0 h : T Blk} {nx : Pa} : ∀ {A L : List Ob}, Hp h0 h nx (A ++ L) → Hp h0 h nx L
 | [], _, H => H
 | _ :: _, _, H => Hp.dropL H.drop
theorem Hp.dropMid {h0 h : T Blk} {nx : Pa} {A L : List Ob} {x : Ob} (H : Hp h0 h nx (x :: (A ++ L))) : Hp h0 h nx (x :: L) :=
 Hp.dropL (H.perm List.perm_middle.symm)
theorem F89.ks {N : Nat} {K0 : Kw Prop} {E4 E5 E6 E7 K : Ks Prop} {h0 h : T Blk} {nx : Pa} {Lr : List Ob} {x0 x1 x2 x4 x5 x7 x8 x9 x10 x16 x17 x18 x19 x20 x21 x22 x23 x24 x25 x26 x27 x28 x29 x30 x31 x32 x33 : AV} {xb nid on : Pa} {hdr : List AV} {x : Key} {idx : List Nat} {o : Option Pa} {ks G : List Key} {m most n p q r c cells : Nat} (hN : 100000000 < N) (hm : m ≤ 128) (hx : x.length = m) (hi : ∀ z ∈ idx, z < m) (hidx : idx.length ≤ 1000000) (hmost : most ≤ 1000) (hn : 1 ≤ n) (hG : G.length + (most + 2) * n ≤ 4000000000000000000)
  (H : Hp h0 h nx (.arr xb (yW x) :: Lr)) (hp : Lr[p]? = some (.map nid (ks.map (entK (cntV G))))) (O : KsOk m ks G) (hq : Lr[q]? = some (.arr on hdr)) (hqp : p ≠ q) (hh : hdr[c]? = some (rowV o 1 idx.length)) (hr : Lr[r]? = some (.gro o 1 idx.length (idx.map nI))) (hrp : p ≠ r) (hc : c < cells)
  (hK : ∀ x15 x16 x17 x29 x30 x31 x32 x33 h' nx' ks', KsOk m ks' (blk x idx n (most + 1) ++ G) → Hp h0 h' nx' (.arr xb (yW x) :: Lr.set p (.map nid (ks'.map (entK (cntV (blk x idx n (most + 1) ++ G)))))) → K (F89.fr x0 x1 x2 (I most) x4 x5 (.sl on 0 cells (some cells) 1) x7 x8 x9 x10 (I c) (.map nid) (.ptr xb 0) (I n) x15 x16 x17 x18 x19 x20 x21 x22 x23 x24 x25 x26 x27 x28 x29 x30 x31 x32 x33) h' nx' = .ok True) :
  IR.run F89.b27 (CS Tryz.prog B) N (((((fnO F89.res K0).blk 4 E4).blk 5 E5).blk 6 E6).blk 7 E7) K (F89.fr x0 x1 x2 (I most) x4 x5 (.sl on 0 cells (some cells) 1) x7 x8 x9 x10 (I c) (.map nid) (.ptr xb 0) (I n) (I 0) x16 x17 x18 x19 x20 x21 x22 x23 x24 x25 x26 x27 x28 x29 x30 x31 x32 x33) h nx = .ok True := by
 refine F89.L27 (fun m' x15 h' nx' => ∃ (k : Nat) (ks' : List Key), x15 = I k ∧ most + 1 - k = m' ∧ k ≤ most + 1 ∧ KsOk m ks' (blk x idx n k ++ G) ∧ Hp h0 h' nx' (.arr xb (yW x) :: Lr.set p (.map nid (ks'.map (entK (cntV (blk x idx n k ++ G))))))) (m := most + 1) (by omega) ⟨0, ks, rfl, rfl, by omega, O, H.cast ?_⟩ ?_
 ·have e : Lr.set p (.map nid (ks.map (entK (cntV G)))) = Lr := by rw [(getSplit hp).2]; exact (getSplit hp).1.symm
  exact congrArg _ e.symm
 rintro m' z15 z16 z17 z29 z30 z31 z32 z33 h1 nx1 R ⟨k, ks1, rfl, rfl, hk, O1, H1⟩ hR
 simp (disch := omega) only [sAdd, sSub, sMul, sEql, sNeq, sLss, sLeq, sGtr, sGeq, zK, zI, zC, zB, yC, zY, yE, yF, zO, yD, yA, yI, zT, zS, zR, zF, zM, zJ, zD, decide_true, decide_false, Bool.not_true, Bool.not_false, zV]
 by_cases hlt : k ≤ most
 case neg =>
  simp only [show ¬ (k : Int) ≤ (most : Int) by omega, decide_false, zB]
  obtain rfl : k = most + 1 := by omega
  exact hK _ _ _ _ _ _ _ _ _ _ _ O1 H1
 simp only [show (k : Int) ≤ (most : Int) by omega, decide_true, zC]
 have hpl := (List.getElem?_eq_some_iff.1 hp).1
 rw [H1.loadN (k := 0) rfl (jJ (by omega))]
 refine H1.alloc fun yb h2 nx2 H2 => ?_
 refine H2.storeN (k := 0) rfl rfl (jJ (by omega)) fun h3 H3 => ?_
 have H3 : Hp h0 h3 nx2 (.arr yb (yW x) :: .arr xb (yW x) :: Lr.set p (.map nid (ks1.map (entK (cntV (blk x idx n k ++ G)))))) := H3
 have hq3 : (Lr.set p (.map nid (ks1.map (entK (cntV (blk x idx n k ++ G))))))[q]? = some (.arr on hdr) := by rw [List.getElem?_set_ne hqp]; exact hq
 have hr3 : (Lr.set p (.map nid (ks1.map (entK (cntV (blk x idx n k ++ G))))))[r]? = some (.gro o 1 idx.length (idx.map nI)) := by rw [List.getElem?_set_ne hrp]; exact hr
 rw [sIx (i := c) rfl hc, H3.load (k := q + 2) hq3 hh, H3.groLen (k := r + 2) hr3]
 refine F89.add (k := k) hN (by omega) (fun z hz => by rw [hx]; exact hi z hz) hidx H3 (c := r + 1) hr3 fun y17 y32 y33 h4 nx4 H4 => ?_
 rw [F89.k40]
 rw [H4.loadN (k := 0) rfl (jJ (by rw [addL_length]; omega))]
 have hlen : (blk x idx n k ++ G).length + n ≤ 4000000000000000000 := by
  rw [List.length_append, blk_length]
  have : k * n + n ≤ (most + 2) * n := by
   have := Nat.mul_le_mul_right n (show k + 1 ≤ most + 2 by omega)
   rw [Nat.add_mul] at this; omega
  omega
 refine H4.mapAdd (k := p + 2) (nn := n) (y := addL x idx k) hm (by exact List.getElem?_set_self hpl) O1 (by rw [addL_length]; exact hx) hn (by omega) (K := fun h9 n10 => IR.run F89.b41 (CS Tryz.prog B) N ((((((fnO F89.res K0).blk 4 E4).blk 5 E5).blk 6 E6).blk 7 E7).blk 8 K) R _ h9 n10) fun h5 ks2 O2 H5 => ?_
 rw [F89.k41, sAdd (by omega)]
 refine hR (most + 1 - (k + 1)) _ _ _ _ _ _ _ _ _ _ (by omega) ⟨k + 1, ks2, rfl, rfl, by omega, O2.perm (by simp [blk]), H5.drop.cast ?_⟩
 simp only [List.set_cons_succ, List.tail_cons, List.set_set]
 rw [blk, List.append_assoc]
abbrev blkAt (ks G : List Key) (idx : List Nat) (most : Nat) (i : Nat) : List Key := blk (ks.getD i []) idx (G.count (ks.getD i [])) (most + 1)
theorem flatMap_len {α : Type} {f : α → List Key} {M : Nat} : ∀ (l : List α), (∀ i ∈ l, (f i).length ≤ M) → (l.flatMap f).length ≤ l.length * M
 | [], _ => by simp
 | a :: l, h => by
  have h1 := h a (by simp)
  have h2 := flatMap_len l fun i hi => h i (by simp [hi])
  rw [List.flatMap_cons, List.length_append, List.length_cons, Nat.add_mul]; omega
theorem F89.ents {N : Nat} {K0 : Kw Prop} {E4 E5 K : Ks Prop} {h0 h : T Blk} {nx : Pa} {L : List Ob} {x0 x1 x2 x4 x5 x7 x8 x9 x10 x13 x14 x15 x16 x17 x18 x19 x20 x21 x22 x23 x24 x25 x26 x28 x29 x30 x31 x32 x33 : AV} {it mid nid on bx : Pa} {o : Nat → Option Pa} {lines : List (List Int)} {ksM GM : List Key} {most c cells : Nat} (hN : 100000000 < N) (hm : lines.length ≤ 128) (hD : ∀ c, (onC lines c).length ≤ 1000000) (hmost : most ≤ 1000) (hGM : GM.length ≤ 1000000) (O : KsOk lines.length ksM GM) (hkl : ksM.length ≤ 1000000) (hc : c < cells)
  (H : Hp h0 h nx (.iter it mid (ksM.map (entK (cntV GM))).length [] (ksM.map (entK (cntV GM))).length :: .map nid [] :: .map mid (ksM.map (entK (cntV GM))) :: Lt on bx cells lines o (onC lines) L))
  (hK : ∀ x13 x14 x15 x16 x17 x28 x29 x30 x31 x32 x33 h' nx' ks' G', KsOk lines.length ks' G' → G'.Perm (GM.flatMap fun x => (List.range (most + 1)).map fun k => addL x (onC lines c) k) → Hp h0 h' nx' (.map nid (ks'.map (entK (cntV G'))) :: .map mid (ksM.map (entK (cntV GM))) :: Lt on bx cells lines o (onC lines) L) → K (F89.fr x0 x1 x2 (I most) x4 x5 (.sl on 0 cells (some cells) 1) x7 x8 x9 x10 (I c) (.map nid) x13 x14 x15 x16 x17 x18 x19 x20 x21 x22 x23 x24 x25 x26 (.ptr it 0) x28 x29 x30 x31 x32 x33) h' nx' = .ok True) :
  IR.run F89.b22 (CS Tryz.prog B) N (((fnO F89.res K0).blk 4 E4).blk 5 E5) K (F89.fr x0 x1 x2 (I most) x4 x5 (.sl on 0 cells (some cells) 1) x7 x8 x9 x10 (I c) (.map nid) x13 x14 x15 x16 x17 x18 x19 x20 x21 x22 x23 x24 x25 x26 (.ptr it 0) x28 x29 x30 x31 x32 x33) h nx = .ok True := by
 refine F89.L22 (fun m' h' nx' => ∃ (seen : List Nat) (ks' : List Key), (gO ksM.length seen).length = m' ∧ seen.length + m' = ksM.length ∧ seen.Nodup ∧ (∀ i ∈ seen, i < ksM.length) ∧ KsOk lines.length ks' (seen.flatMap (blkAt ksM GM (onC lines c) most)) ∧
  Hp h0 h' nx' (.iter it mid (ksM.map (entK (cntV GM))).length seen (ksM.map (entK (cntV GM))).length :: .map nid (ks'.map (entK (cntV (seen.flatMap (blkAt ksM GM (onC lines c) most))))) :: .map mid (ksM.map (entK (cntV GM))) :: Lt on bx cells lines o (onC lines) L)) (m := ksM.length) (by omega) ⟨[], [], by (have e : gO ksM.length [] = List.range ksM.length := List.filter_eq_self.2 (by simp)); rw [e]; simp, by simp, by simp, by simp, KsOk.nil _, H⟩ ?_
 rintro m' z13 z14 z15 z16 z17 z28 z29 z30 z31 z32 z33 h1 nx1 R ⟨seen, ks1, rfl, hsl, hnd, hlt, O1, H1⟩ hR
 refine H1.next (k := 0) (j := 2) rfl rfl (fun hall => ?_) fun i a b h2 hi hns hab H2 => ?_
 ·simp (disch := omega) only [sAdd, sSub, sMul, sEql, sNeq, sLss, sLeq, sGtr, sGeq, zK, zI, zC, zB, yC, zY, yE, yF, zO, yD, yA, yI, zT, zS, zR, zF, zM, zJ, zD, decide_true, decide_false, Bool.not_true, Bool.not_false, zV]
  refine hK _ _ _ _ _ _ _ _ _ _ _ _ _ ks1 _ O1 ?_ H1.drop
  have hsp := seen_perm hnd hlt fun i hi => hall i (by simpa using hi)
  refine (hsp.flatMap_right _).trans ?_
  have e : (List.range ksM.length).flatMap (blkAt ksM GM (onC lines c) most) = ksM.flatMap fun x => blk x (onC lines c) (GM.count x) (most + 1) := by
   have : ksM = (List.range ksM.length).map fun i => ksM.getD i [] := by
    have := rowL_self ksM []
    exact this
   conv => rhs; rw [this]
   rw [List.flatMap_map]
  rw [e]
  exact next_perm ksM GM (onC lines c) (most + 1) O.nd O.mem
 ·have hi' : i < ksM.length := by simpa using hi
  obtain ⟨x, hx⟩ : ∃ x, ksM[i]? = some x := ⟨_, List.getElem?_eq_getElem hi'⟩
  have hxm := List.mem_of_getElem? hx
  rw [List.getElem?_map, hx] at hab
  obtain ⟨rfl, rfl⟩ : encK x = a ∧ cntV GM x = b := by simpa [entK] using hab
  have hgx : ksM.getD i [] = x := by rw [List.getD_eq_getElem?_getD, hx]; rfl
  have hxl := O.klen x hxm
  have hcx : 1 ≤ GM.count x := List.count_pos_iff.2 ((O.mem x).1 hxm)
  have hcx2 : GM.count x ≤ GM.length := List.count_le_length
  simp (disch := omega) only [sAdd, sSub, sMul, sEql, sNeq, sLss, sLeq, sGtr, sGeq, zK, zI, zC, zB, yC, zY, yE, yF, zO, yD, yA, yI, zT, zS, zR, zF, zM, zJ, zD, decide_true, decide_false, Bool.not_true, Bool.not_false, zV]
  have hent : (ksM.map (entK (cntV GM)))[i]? = some (encK x, cntV GM x) := by rw [List.getElem?_map, hx]; rfl
  rw [H2.entry (k := 0) (j := 2) rfl rfl hent]
  simp (disch := omega) only [sAdd, sSub, sMul, sEql, sNeq, sLss, sLeq, sGtr, sGeq, zK, zI, zC, zB, yC, zY, yE, yF, zO, yD, yA, yI, zT, zS, zR, zF, zM, zJ, zD, decide_true, decide_false, Bool.not_true, Bool.not_false, zV]
  refine H2.alloc fun xb h3 nx3 H3 => ?_
  refine H3.storeN (k := 0) rfl rfl (jJ (by omega)) fun h4 H4 => ?_
  have hb : ∀ j ∈ seen, (blkAt ksM GM (onC lines c) most j).length ≤ 1001 * 1000000 := fun j _ => by
   rw [blk_length]
   exact Nat.mul_le_mul (by omega) (Nat.le_trans List.count_le_length hGM)
  have hfl : (seen.flatMap (blkAt ksM GM (onC lines c) most)).length ≤ seen.length * (1001 * 1000000) := flatMap_len seen hb
  have hsl2 : seen.length * (1001 * 1000000) ≤ 1000000 * (1001 * 1000000) := Nat.mul_le_mul_right _ (by omega)
  have hmn : (most + 2) * GM.count x ≤ 1002 * 1000000 := Nat.mul_le_mul (by omega) (by omega)
  refine F89.ks (most := most) (n := GM.count x) (p := 1) (q := 3) (r := c + 5) (idx := onC lines c) (o := o c) hN hm hxl (fun z hz => onP_lt hz) (hD c) hmost hcx (by omega) H4 rfl O1 rfl (by decide) (uD hc) (by exact Lt_get (on := on) (bx := bx) (lines := lines) hc) (by omega) hc fun y15 y16 y17 y29 y30 y31 y32 y33 h5 nx5 ks2 O2 H5 => ?_
  have hst := leftA_step hi' hns
  have e : (i :: seen).flatMap (blkAt ksM GM (onC lines c) most) = blk x (onC lines c) (GM.count x) (most + 1) ++ seen.flatMap (blkAt ksM GM (onC lines c) most) := by
   rw [List.flatMap_cons, blkAt, hgx]
  refine hR _ _ _ _ _ _ _ _ _ _ _ _ _ _ (by omega) ⟨i :: seen, ks2, rfl, by simp; omega, List.nodup_cons.2 ⟨hns, hnd⟩, fun j hj => ?_, by rw [e]; exact O2, by rw [e]; exact H5.drop⟩
  rcases List.mem_cons.1 hj with rfl | q
  ·exact hi'
  ·exact hlt j q
theorem Hp.swap {h0 h : T Blk} {nx : Pa} {a b : Ob} {L : List Ob} (H : Hp h0 h nx (a :: b :: L)) : Hp h0 h nx (b :: a :: L) := H.perm (.swap _ _ _)
theorem F89.cells {N : Nat} {K0 : Kw Prop} {K : Ks Prop} {h0 h : T Blk} {nx : Pa} {L : List Ob} {x0 x1 x4 x5 x7 x8 x9 x12 x13 x14 x15 x16 x17 x18 x19 x20 x21 x22 x23 x24 x25 x26 x27 x28 x29 x30 x31 x32 x33 : AV} {mid on bx : Pa} {o : Nat → Option Pa} {lines : List (List Int)} {most fr to cells : Nat} (hN : 100000000 < N) (hm : lines.length ≤ 128) (hD : ∀ c, (onC lines c).length ≤ 1000000) (hmost : most ≤ 1000) (hfr : fr ≤ to) (hto : to ≤ cells) (hcl : cells ≤ 1000000) (hpow : (most + 1) ^ (to - fr) ≤ 1000000)
  (H : Hp h0 h nx (.map mid ([List.replicate lines.length 0].map (entK (cntV [List.replicate lines.length 0]))) :: Lt on bx cells lines o (onC lines) L))
  (hK : ∀ x12 x13 x14 x15 x16 x17 x26 x27 x28 x29 x30 x31 x32 x33 h' nx' id ks G, KsOk lines.length ks G → G.Perm (tallyT lines most fr (to - fr)) → Hp h0 h' nx' (.map id (ks.map (entK (cntV G))) :: Lt on bx cells lines o (onC lines) L) → K (F89.fr x0 x1 (I to) (I most) x4 x5 (.sl on 0 cells (some cells) 1) x7 x8 x9 (.map id) (I to) x12 x13 x14 x15 x16 x17 x18 x19 x20 x21 x22 x23 x24 x25 x26 x27 x28 x29 x30 x31 x32 x33) h' nx' = .ok True) :
  IR.run F89.b16 (CS Tryz.prog B) N (fnO F89.res K0) K (F89.fr x0 x1 (I to) (I most) x4 x5 (.sl on 0 cells (some cells) 1) x7 x8 x9 (.map mid) (I fr) x12 x13 x14 x15 x16 x17 x18 x19 x20 x21 x22 x23 x24 x25 x26 x27 x28 x29 x30 x31 x32 x33) h nx = .ok True := by
 refine F89.L16 (fun m' x10 x11 h' nx' => ∃ (c : Nat) (mid : Pa) (ks G : List Key), x10 = .map mid ∧ x11 = I c ∧ to - c = m' ∧ fr ≤ c ∧ c ≤ to ∧ KsOk lines.length ks G ∧ G.Perm (tallyT lines most fr (c - fr)) ∧ Hp h0 h' nx' (.map mid (ks.map (entK (cntV G))) :: Lt on bx cells lines o (onC lines) L)) (m := to - fr) (by omega)
  ⟨fr, mid, [List.replicate lines.length 0], [List.replicate lines.length 0], rfl, rfl, rfl, Nat.le_refl _, hfr, ⟨by simp, by simp, by simp⟩, by rw [Nat.sub_self]; exact .refl _, H⟩ ?_
 rintro m' z10 z11 z12 z13 z14 z15 z16 z17 z26 z27 z28 z29 z30 z31 z32 z33 h1 nx1 R ⟨c, mid1, ks1, G1, rfl, rfl, rfl, hc1, hc2, O1, hp1, H1⟩ hR
 simp (disch := omega) only [sAdd, sSub, sMul, sEql, sNeq, sLss, sLeq, sGtr, sGeq, zK, zI, zC, zB, yC, zY, yE, yF, zO, yD, yA, yI, zT, zS, zR, zF, zM, zJ, zD, decide_true, decide_false, Bool.not_true, Bool.not_false, zV]
 by_cases hlt : c < to
 case neg =>
  simp only [show ¬ (c : Int) < (to : Int) by omega, decide_false, zB]
  obtain rfl : c = to := by omega
  exact hK _ _ _ _ _ _ _ _ _ _ _ _ _ _ _ _ _ _ _ O1 hp1 H1
 simp only [show (c : Int) < (to : Int) by omega, decide_true, zC]
 refine H1.mkmap fun nid h2 nx2 H2 => ?_
 refine H2.range (k := 1) rfl fun it h3 nx3 H3 => ?_
 have hlen : G1.length ≤ 1000000 := by
  rw [hp1.length_eq, tallyT_length]
  exact Nat.le_trans (Nat.pow_le_pow_right (by omega) (by omega)) hpow
 have hkl : ks1.length ≤ G1.length := by
  have h1 := (perm_self ks1 G1 O1.nd O1.mem).length_eq
  rw [← h1, List.length_flatMap]
  have : ∀ l : List Key, (∀ y ∈ l, y ∈ G1) → l.length ≤ (l.map fun x => (List.replicate (G1.count x) x).length).sum := by
   intro l
   induction l with
   | nil => simp
   | cons a l ih =>
    intro h
    have h2 := ih fun y hy => h y (by simp [hy])
    have h3 : 1 ≤ G1.count a := List.count_pos_iff.2 (h a (by simp))
    simp only [List.map_cons, List.sum_cons, List.length_cons, List.length_replicate] at h2 ⊢
    omega
  exact this ks1 fun y hy => (O1.mem y).1 hy
 refine F89.ents (c := c) (o := o) (bx := bx) (L := L) hN hm hD hmost hlen O1 (by omega) (by omega) H3 fun y13 y14 y15 y16 y17 y28 y29 y30 y31 y32 y33 h4 nx4 ks2 G2 O2 hp2 H4 => ?_
 rw [F89.k42, F89.k43, sAdd (by omega)]
 refine hR (to - (c + 1)) _ _ _ _ _ _ _ _ _ _ _ _ _ _ _ _ _ _ (by omega) ⟨c + 1, nid, ks2, G2, rfl, rfl, rfl, by omega, by omega, O2, ?_, H4.swap.drop⟩
 rw [show c + 1 - fr = (c - fr) + 1 by omega, tallyT, show fr + (c - fr) = c by omega]
 exact hp2.trans (hp1.flatMap_right _)
theorem tally89 {h0 h : T Blk} {nx : Pa} {L : List Ob} {lines : List (List Int)} {most fr to cells : Nat} {p : Pa} {K : Kw Prop} (hm : lines.length ≤ 128) (hw : ∀ l ∈ lines, l.length ≤ 1000) (hl : ∀ l ∈ lines, ∀ c ∈ l, 0 ≤ c ∧ c < (cells : Int)) (hmost : most ≤ 1000) (hfr : fr ≤ to) (hto : to ≤ cells) (hcl : cells ≤ 1000000) (hpow : (most + 1) ^ (to - fr) ≤ 1000000) (H : Hp h0 h nx L)
  (hK : ∀ h' nx' id ks G, KsOk lines.length ks G → G.Perm (tallyT lines most fr (to - fr)) → Hp h0 h' nx' (.map id (ks.map (entK (cntV G))) :: L) → K (.map id) h' nx' = .ok True) :
  (CS Tryz.prog B).fn 89 p [.agg [I cells, encT lines], I fr, I to, I most] h nx K = .ok True := by
 have hD : ∀ c, (onC lines c).length ≤ 1000000 := fun c => by
  have : ∀ i, i ≤ lines.length → (onP lines i c).length ≤ i * 1000 := by
   intro i
   induction i with
   | zero => intro _; simp [onP]
   | succ i ih =>
    intro hi
    rw [onP_succ, List.length_append, List.length_map]
    have h2 := ih (by omega)
    have h3 : ((lines.getD i []).filter (· = (c : Int))).length ≤ 1000 := by
     refine Nat.le_trans (List.length_filter_le _ _) ?_
     rw [List.getD_eq_getElem?_getD, List.getElem?_eq_getElem (by omega)]
     exact hw _ (List.getElem_mem _)
    omega
  have h9 := this _ (Nat.le_refl _)
  clear this
  show (onP lines lines.length c).length ≤ _
  omega
 refine jI (p := .of 89) (K := K) (zP zZ dreg 1000000000 fun hf => ?_) fun _ _ _ _ q => q
 rw [F89.go]
 refine H.box (l := [I cells, encT lines]) rfl fun bx h1 nx1 H1 => ?_
 rw [sFx, H1.load (k := 0) (i := 0) rfl rfl]
 refine H1.mk1 cells rfl rfl hcl (by decide) fun on h2 nx2 H2 => ?_
 rw [sFx, H2.load (k := 1) (i := 0 + 1) rfl rfl]
 simp (disch := omega) only [sAdd, sSub, sMul, sEql, sNeq, sLss, sLeq, sGtr, sGeq, zK, zI, zC, zB, yC, zY, yE, yF, zO, yD, yA, yI, zT, zS, zR, zF, zM, zJ, zD, decide_true, decide_false, Bool.not_true, Bool.not_false, zV]
 refine F89.on (by decide) hm hw hl H2 fun y7 y8 y9 y20 y21 y22 y23 y24 y25 h3 nx3 o H3 => ?_
 rw [F89.k15]
 refine H3.mkmap fun mid h4 nx4 H4 => ?_
 have hz : encK (List.replicate lines.length 0) = .agg (List.replicate 128 (u8 0)) := by rw [encK, cellsK_zero hm]
 have hb : ∀ (z : List AV) (op : AV → OP), sBuild z [] op = op (.agg z) := fun z op => rfl
 rw [hb]
 have hz2 : AV.agg (List.replicate 128 (u8 0)) = encK (List.replicate lines.length 0) := hz.symm
 refine Eq.trans (b := sMapup (.agg 128) (.map mid) (AV.agg (List.replicate 128 (u8 0))) (I 1) h4 nx4 _) rfl ?_
 rw [hz2]
 refine H4.mapFirst (m := lines.length) hm (by simp) (k := 0) rfl fun h5 H5 => ?_
 refine F89.cells (o := o) (by decide) hm hD hmost hfr hto hcl hpow H5 fun y12 y13 y14 y15 y16 y17 y26 y27 y28 y29 y30 y31 y32 y33 h6 nx6 id ks G O6 hp6 H6 => ?_
 rw [F89.k44]
 exact hK _ _ _ _ _ O6 hp6 (Hp.dropMid (A := .arr on _ :: .arr bx _ :: rowL cells _) H6)
end Go.Ev
namespace Go.Ev
open Go Go.Proofs
variable {B : Nat}
theorem tallyT_lt (lines : List (List Int)) (most fr : Nat) : ∀ n, ∀ y ∈ tallyT lines most fr n, ∀ v ∈ y, v < 256
 | 0, y, h, v, hv => by
  rw [List.mem_singleton.1 h] at hv
  rw [(List.mem_replicate.1 hv).2]; decide
 | n + 1, y, h, v, hv => by
  simp only [tallyT, List.mem_flatMap, List.mem_map] at h
  obtain ⟨x, hx, k, _, rfl⟩ := h
  have ih := tallyT_lt lines most fr n x hx
  have : ∀ (idx : List Nat) (y : List Nat), (∀ v ∈ y, v < 256) → ∀ v ∈ addL y idx k, v < 256 := by
   intro idx
   induction idx with
   | nil => exact fun y h => h
   | cons i l ih2 =>
    intro y h
    refine ih2 _ fun v hv => ?_
    rcases List.mem_or_eq_of_mem_set hv with q | rfl
    ·exact h v q
    ·omega
  exact this _ _ ih v hv
def fB (sum : Nat) (G : List Key) (x : Key) : Nat := if x.all (fun v => decide (v ≤ sum)) then G.count (x.map fun v => sum - v) else 0
def bsum (lines : List (List Int)) (most sum half cells : Nat) : Nat := ((tallyT lines most 0 half).map (fB sum (tallyT lines most half (cells - half)))).sum
theorem sum_perm {α : Type} {l l' : List α} (f : α → Nat) (h : l.Perm l') : (l.map f).sum = (l'.map f).sum := by
 induction h with
 | nil => rfl
 | cons a _ ih => simp [ih]
 | swap a b l => simp; omega
 | trans _ _ h1 h2 => exact h1.trans h2
theorem sum_flat {f : Key → Nat} {G : List Key} : ∀ (l : List Key), ((l.flatMap fun x => List.replicate (G.count x) x).map f).sum = (l.map fun x => G.count x * f x).sum
 | [] => rfl
 | a :: l => by
  rw [List.flatMap_cons, List.map_append, List.sum_append, sum_flat l, List.map_cons, List.sum_cons]
  congr 1
  rw [List.map_replicate, List.sum_replicate_nat]
theorem sum_keys {f : Key → Nat} {ks G : List Key} {m : Nat} (O : KsOk m ks G) : (ks.map fun x => G.count x * f x).sum = (G.map f).sum := by
 rw [← sum_flat, sum_perm f (perm_self ks G O.nd O.mem)]
theorem fB_perm {sum : Nat} {G G' : List Key} (h : G.Perm G') : fB sum G = fB sum G' := by
 funext x; simp only [fB]; rw [h.count_eq]
theorem fB_le {sum : Nat} {G : List Key} {x : Key} : fB sum G x ≤ G.length := by
 unfold fB; split
 ·exact List.count_le_length
 ·omega
theorem sConv_i64 {k : IntKind} {x : Nat} {K : AV → OP} (h : x ≤ 1000000) : sConv .i64 (.int k (x : Int)) K = K (I x) := by
 show intK (wrapF .i64 (x : Int)) (fun z => K (.int .i64 z)) = _
 rw [gY, wrapF_eq, uL (by omega)]
theorem sSub_u8 {x y : Nat} {K : AV → OP} (h : y ≤ x) (hx : x < 256) : sBin .sub .int (u8 x) (u8 y) K = K (u8 (x - y)) := by
 rw [sSubW, IntKind.wrap_u8]
 have : u8 (x - y) = .int .u8 (((x : Int) - (y : Int)) % 256) := by unfold u8; congr 1; omega
 rw [this]
theorem F31.rest {N : Nat} {K0 : Kw Prop} {E0 E1 K : Ks Prop} {h0 h : T Blk} {nx : Pa} {L : List Ob} {x0 x1 x3 x4 x5 x6 x7 x8 x9 x11 x13 x14 x15 x16 x17 x18 x21 x22 : AV} {xb rb : Pa} {x : Key} {sum m : Nat} (hN : 1000 < N) (hm : m ≤ 128) (hx : x.length = m) (hv : ∀ v ∈ x, v < 256) {s : Int} (hs : m = 0 ∨ (s = sum ∧ sum ≤ 255))
  (H : Hp h0 h nx (.arr rb (yW (List.replicate m 0)) :: .arr xb (yW x) :: L))
  (hno : ∀ x13 x20 x21 x22 h' nx', ¬ x.all (fun v => decide (v ≤ sum)) = true → Hp h0 h' nx' L → E1 (F31.fr x0 x1 (I s) x3 x4 x5 x6 x7 x8 x9 (.ptr xb 0) x11 (.ptr rb 0) x13 x14 x15 x16 x17 x18 (I m) x20 x21 x22) h' nx' = .ok True)
  (hK : ∀ x13 x20 x21 x22 h' nx', x.all (fun v => decide (v ≤ sum)) = true → Hp h0 h' nx' (.arr rb (yW (x.map fun v => sum - v)) :: .arr xb (yW x) :: L) → K (F31.fr x0 x1 (I s) x3 x4 x5 x6 x7 x8 x9 (.ptr xb 0) x11 (.ptr rb 0) x13 x14 x15 x16 x17 x18 (I m) x20 x21 x22) h' nx' = .ok True) :
  IR.run F31.b9 (CS Tryz.prog B) N (((fnO F31.res K0).blk 0 E0).blk 1 E1) K (F31.fr x0 x1 (I s) x3 x4 x5 x6 x7 x8 x9 (.ptr xb 0) x11 (.ptr rb 0) x13 x14 x15 x16 x17 x18 (I m) (I 0) x21 x22) h nx = .ok True := by
 refine F31.L9 (fun m' x20 h' nx' => ∃ j : Nat, x20 = I j ∧ m - j = m' ∧ j ≤ m ∧ (x.take j).all (fun v => decide (v ≤ sum)) = true ∧ Hp h0 h' nx' (.arr rb (yW ((x.take j).map (fun v => sum - v) ++ List.replicate (m - j) 0)) :: .arr xb (yW x) :: L)) (m := m) (by omega) ⟨0, rfl, rfl, by omega, rfl, H⟩ ?_
 rintro m' z13 z20 z21 z22 h1 nx1 R ⟨j, rfl, rfl, hj, hall, H1⟩ hR
 simp (disch := omega) only [sAdd, sSub, sMul, sEql, sNeq, sLss, sLeq, sGtr, sGeq, zK, zI, zC, zB, yC, zY, yE, yF, zO, yD, yA, yI, zT, zS, zR, zF, zM, zJ, zD, decide_true, decide_false, Bool.not_true, Bool.not_false, zV]
 by_cases hlt : j < m
 case neg =>
  simp only [show ¬ (j : Int) < (m : Int) by omega, decide_false, zB]
  obtain rfl : j = m := by omega
  rw [List.take_of_length_le (by omega)] at hall H1
  exact hK _ _ _ _ _ _ hall (H1.cast (by simp))
 simp only [show (j : Int) < (m : Int) by omega, decide_true, zC]
 have hjx : j < x.length := by omega
 have hxj : x[j]? = some x[j] := List.getElem?_eq_getElem hjx
 have hv1 := hv _ (List.getElem_mem hjx)
 obtain ⟨rfl, hs'⟩ := hs.resolve_left (by omega)
 rw [sAx (i := j) rfl (by omega), H1.load (k := 1) rfl (cellsK_get hxj), sConv_i64 (by omega)]
 simp (disch := omega) only [sAdd, sSub, sMul, sEql, sNeq, sLss, sLeq, sGtr, sGeq, zK, zI, zC, zB, yC, zY, yE, yF, zO, yD, yA, yI, zT, zS, zR, zF, zM, zJ, zD, decide_true, decide_false, Bool.not_true, Bool.not_false, zV]
 by_cases hle : x[j] ≤ sum
 case neg =>
  simp only [show (sum : Int) < (x[j] : Int) by omega, decide_true, zC]
  refine hno _ _ _ _ _ _ (fun q => ?_) H1.drop.drop
  have := List.all_eq_true.1 q _ (List.getElem_mem hjx)
  exact hle (of_decide_eq_true this)
 simp only [show ¬ (sum : Int) < (x[j] : Int) by omega, decide_false, zB]
 have hlen : ((x.take j).map (fun v => sum - v) ++ List.replicate (m - j) 0).length = m := by simp; omega
 rw [sConv_u8, Nat.mod_eq_of_lt (show sum < 256 by omega), sAx (i := j) rfl (by omega), H1.load (k := 1) rfl (cellsK_get hxj), sSub_u8 hle (by omega), sAx (i := j) rfl (by omega)]
 refine H1.store (k := 0) rfl (by rw [jJ (by omega)]; omega) rfl fun h2 H2 => ?_
 refine hR (m - (j + 1)) _ _ _ _ _ _ (by omega) ⟨j + 1, by congr 1, rfl, by omega, ?_, H2.cast ?_⟩
 ·rw [List.take_add_one, hxj, List.all_append, hall]
  simp [hle]
 ·rw [List.set_cons_zero, cellsK_set (by omega), List.take_add_one, hxj]
  congr 3
  rw [List.set_append_right _ _ (by simp; omega)]
  have e : m - j = (m - (j + 1)) + 1 := by omega
  have e2 : j - ((x.take j).map fun v => sum - v).length = 0 := by simp; omega
  rw [e, e2, List.replicate_succ, List.set_cons_zero]
  simp only [Option.toList_some, List.map_append, List.map_cons, List.map_nil, List.append_assoc, List.cons_append, List.nil_append]
theorem sum_len {α : Type} {f : α → Nat} {M : Nat} : ∀ (l : List α), (∀ i ∈ l, f i ≤ M) → (l.map f).sum ≤ l.length * M
 | [], _ => by simp
 | a :: l, h => by
  have h1 := h a (by simp)
  have h2 := sum_len l fun i hi => h i (by simp [hi])
  rw [List.map_cons, List.sum_cons, List.length_cons, Nat.add_mul]; omega
abbrev termB (ks GL GR : List Key) (sum i : Nat) : Nat := GL.count (ks.getD i []) * fB sum GR (ks.getD i [])
theorem F31.meet {N : Nat} {K0 : Kw Prop} {K : Ks Prop} {h0 h : T Blk} {nx : Pa} {L : List Ob} {x0 x1 x4 x5 x6 x7 x10 x11 x12 x13 x14 x15 x16 x18 x19 x20 x21 x22 : AV} {it lid rid bx : Pa} {lines : List (List Int)} {ksL GL ksR GR : List Key} {sum cells : Nat} {s : Int} (hN : 100000000 < N) (hm : lines.length ≤ 128) (hs : lines.length = 0 ∨ (s = sum ∧ sum ≤ 255)) (OL : KsOk lines.length ksL GL) (OR : KsOk lines.length ksR GR) (hL : GL.length ≤ 1000000) (hR0 : GR.length ≤ 1000000) (hkl : ksL.length ≤ 1000000) (hlt : ∀ y ∈ GL, ∀ v ∈ y, v < 256)
  (H : Hp h0 h nx (.iter it lid (ksL.map (entK (cntV GL))).length [] (ksL.map (entK (cntV GL))).length :: .map lid (ksL.map (entK (cntV GL))) :: .map rid (ksR.map (entK (cntV GR))) :: .arr bx [I cells, encT lines] :: L))
  (hK : ∀ x10 x11 x12 x13 x18 x19 x20 x21 x22 h' nx' L', Hp h0 h' nx' L' → K (F31.fr x0 x1 (I s) (.ptr bx 0) x4 x5 x6 x7 (.map rid) (I ((GL.map (fB sum GR)).sum : Nat)) x10 x11 x12 x13 x14 x15 x16 (.ptr it 0) x18 x19 x20 x21 x22) h' nx' = .ok True) :
  IR.run F31.b4 (CS Tryz.prog B) N (fnO F31.res K0) K (F31.fr x0 x1 (I s) (.ptr bx 0) x4 x5 x6 x7 (.map rid) (I 0) x10 x11 x12 x13 x14 x15 x16 (.ptr it 0) x18 x19 x20 x21 x22) h nx = .ok True := by
 refine F31.L4 (fun m' x9 h' nx' => ∃ (seen : List Nat), x9 = I ((seen.map (termB ksL GL GR sum)).sum : Nat) ∧ (gO ksL.length seen).length = m' ∧ seen.length + m' = ksL.length ∧ seen.Nodup ∧ (∀ i ∈ seen, i < ksL.length) ∧
  Hp h0 h' nx' (.iter it lid (ksL.map (entK (cntV GL))).length seen (ksL.map (entK (cntV GL))).length :: .map lid (ksL.map (entK (cntV GL))) :: .map rid (ksR.map (entK (cntV GR))) :: .arr bx [I cells, encT lines] :: L)) (m := ksL.length) (by omega) ⟨[], rfl, by (have e : gO ksL.length [] = List.range ksL.length := List.filter_eq_self.2 (by simp)); rw [e]; simp, by simp, by simp, by simp, H⟩ ?_
 rintro m' z9 z10 z11 z12 z13 z18 z19 z20 z21 z22 h1 nx1 R ⟨seen, rfl, rfl, hsl, hnd, hse, H1⟩ hR
 refine H1.next (k := 0) (j := 1) rfl rfl (fun hall => ?_) fun i a b h2 hi hns hab H2 => ?_
 ·simp (disch := omega) only [sAdd, sSub, sMul, sEql, sNeq, sLss, sLeq, sGtr, sGeq, zK, zI, zC, zB, yC, zY, yE, yF, zO, yD, yA, yI, zT, zS, zR, zF, zM, zJ, zD, decide_true, decide_false, Bool.not_true, Bool.not_false, zV]
  have hsp := seen_perm hnd hse fun i hi => hall i (by simpa using hi)
  have e : (seen.map (termB ksL GL GR sum)).sum = (GL.map (fB sum GR)).sum := by
   rw [sum_perm _ hsp, ← sum_keys OL]
   have : ksL = (List.range ksL.length).map fun i => ksL.getD i [] := rowL_self ksL []
   conv => rhs; rw [this]
   rw [List.map_map]
   rfl
  rw [e]
  exact hK _ _ _ _ _ _ _ _ _ _ _ _ H1
 ·have hi' : i < ksL.length := by simpa using hi
  obtain ⟨x, hx⟩ : ∃ x, ksL[i]? = some x := ⟨_, List.getElem?_eq_getElem hi'⟩
  have hxm := List.mem_of_getElem? hx
  rw [List.getElem?_map, hx] at hab
  obtain ⟨rfl, rfl⟩ : encK x = a ∧ cntV GL x = b := by simpa [entK] using hab
  have hgx : ksL.getD i [] = x := by rw [List.getD_eq_getElem?_getD, hx]; rfl
  have hxl := OL.klen x hxm
  have hcx2 : GL.count x ≤ GL.length := List.count_le_length
  simp (disch := omega) only [sAdd, sSub, sMul, sEql, sNeq, sLss, sLeq, sGtr, sGeq, zK, zI, zC, zB, yC, zY, yE, yF, zO, yD, yA, yI, zT, zS, zR, zF, zM, zJ, zD, decide_true, decide_false, Bool.not_true, Bool.not_false, zV]
  have hent : (ksL.map (entK (cntV GL)))[i]? = some (encK x, cntV GL x) := by rw [List.getElem?_map, hx]; rfl
  rw [H2.entry (k := 0) (j := 1) rfl rfl hent]
  simp (disch := omega) only [sAdd, sSub, sMul, sEql, sNeq, sLss, sLeq, sGtr, sGeq, zK, zI, zC, zB, yC, zY, yE, yF, zO, yD, yA, yI, zT, zS, zR, zF, zM, zJ, zD, decide_true, decide_false, Bool.not_true, Bool.not_false, zV]
  refine H2.alloc fun xb h3 nx3 H3 => ?_
  refine H3.storeN (k := 0) rfl rfl (jJ (by omega)) fun h4 H4 => ?_
  refine H4.alloc fun rb h5 nx5 H5 => ?_
  rw [sFx, H5.load (k := 5) (i := 0 + 1) rfl rfl]
  simp (disch := omega) only [sAdd, sSub, sMul, sEql, sNeq, sLss, sLeq, sGtr, sGeq, zK, zI, zC, zB, yC, zY, yE, yF, zO, yD, yA, yI, zT, zS, zR, zF, zM, zJ, zD, decide_true, decide_false, Bool.not_true, Bool.not_false, zV]
  have hst := leftA_step hi' hns
  have hterm : termB ksL GL GR sum i = GL.count x * fB sum GR x := by rw [termB, hgx]
  have hb : ∀ j ∈ seen, termB ksL GL GR sum j ≤ 1000000 * 1000000 := fun j _ => Nat.mul_le_mul (Nat.le_trans List.count_le_length hL) (Nat.le_trans fB_le hR0)
  have hfl := sum_len seen hb
  have hsl2 : seen.length * (1000000 * 1000000) ≤ 1000000 * (1000000 * 1000000) := Nat.mul_le_mul_right _ (by omega)
  have hres : ∀ (v : Nat) (hv : v = termB ksL GL GR sum i) (h' : T Blk) (w10 w11 w12 w13 w18 w19 w20 w21 w22 : AV) (nx' : Pa), Hp h0 h' nx' (.iter it lid (ksL.map (entK (cntV GL))).length (i :: seen) (ksL.map (entK (cntV GL))).length :: .map lid (ksL.map (entK (cntV GL))) :: .map rid (ksR.map (entK (cntV GR))) :: .arr bx [I cells, encT lines] :: L) →
    R (F31.fr x0 x1 (I s) (.ptr bx 0) x4 x5 x6 x7 (.map rid) (I (((seen.map (termB ksL GL GR sum)).sum : Nat) + (v : Int))) w10 w11 w12 w13 x14 x15 x16 (.ptr it 0) w18 w19 w20 w21 w22) h' nx' = .ok True := by
   rintro v rfl h' w10 w11 w12 w13 w18 w19 w20 w21 w22 nx' H'
   refine hR _ _ _ _ _ _ _ _ _ _ _ _ _ (by omega) ⟨i :: seen, ?_, rfl, by simp; omega, List.nodup_cons.2 ⟨hns, hnd⟩, fun j hj => ?_, H'⟩
   ·congr 1
    rw [List.map_cons, List.sum_cons]; omega
   ·rcases List.mem_cons.1 hj with rfl | q
    ·exact hi'
    ·exact hse j q
  have H6 : Hp h0 h5 nx5 (.arr rb (yW (List.replicate lines.length 0)) :: .arr xb (yW x) :: .iter it lid (ksL.map (entK (cntV GL))).length (i :: seen) (ksL.map (entK (cntV GL))).length :: .map lid (ksL.map (entK (cntV GL))) :: .map rid (ksR.map (entK (cntV GR))) :: .arr bx [I cells, encT lines] :: L) := H5.cast (by rw [cellsK_zero hm]; rfl)
  have hcm : ((GL.count x : Int) * ((fB sum GR x : Nat) : Int)) = ((termB ksL GL GR sum i : Nat) : Int) := by rw [hterm, Int.natCast_mul]
  have htl : termB ksL GL GR sum i ≤ 1000000 * 1000000 := by
   rw [hterm]; exact Nat.mul_le_mul (by omega) (Nat.le_trans fB_le hR0)
  refine F31.rest (m := lines.length) (x := x) (sum := sum) (by omega) hm hxl (hlt x ((OL.mem x).1 hxm)) hs H6 (fun y13 y20 y21 y22 h7 nx7 hall H7 => ?_) fun y13 y20 y21 y22 h7 nx7 hall H7 => ?_
  ·have := hres 0 (by rw [hterm, fB, if_neg hall]; simp) h7 (.ptr xb 0) (cntV GL x) (.ptr rb 0) y13 (.bool true) (I lines.length) y20 y21 y22 nx7 H7
   simpa using this
  ·rw [F31.k17]
   have hrl : (x.map fun v => sum - v).length = lines.length := by rw [List.length_map]; exact hxl
   rw [H7.loadN (k := 0) rfl (jJ (by omega))]
   have hlk := fun op => sLook_map (op := op) hm H7 (k := 4) (id := rid) rfl OR hrl
   refine Eq.trans (b := sLook (.agg 128) (I 0) false (.map rid) (encK (x.map fun v => sum - v)) h7 _) rfl ?_
   rw [hlk]
   have hf : fB sum GR x = GR.count (x.map fun v => sum - v) := by rw [fB, if_pos hall]
   rw [cntV, cntV, ← hf, sMul (by omega), hcm, sAdd (by omega)]
   exact hres _ rfl h7 _ _ _ _ _ _ _ _ _ nx7 H7.drop.drop
end Go.Ev
namespace Go.Ev
open Go Go.Proofs
variable {B : Nat}
theorem half_q (n : Nat) : ((n : Int)).tdiv 2 = ((n / 2 : Nat) : Int) := by
 rw [Int.tdiv_eq_ediv_of_nonneg (by omega)]; omega
theorem sQuo2 {n : Nat} {K : AV → OP} (h : n ≤ 1000000) : sBin .quo .int (I (n : Int)) (I 2) K = K (I ((n / 2 : Nat) : Int)) := by
 have e : sBin .quo .int (I (n : Int)) (I 2) K = (bif ieq (2 : Int) 0 then Out.no 5 else intK (IntKind.wrap .i64 ((n : Int).tdiv 2)) fun z => K (.int .i64 z)) := rfl
 rw [e, show ieq (2 : Int) 0 = false from rfl, cond_false, gY, half_q, uL (by omega)]
theorem sG_undef (b : Bool) (op : (AV → OP) → OP) (K : AV → OP) : sG .undef b op K = K .undef := nr rfl
theorem bounded31 {lines : List (List Int)} {cells most : Nat} {s : Int} (hm : lines.length ≤ 128) (hw : ∀ l ∈ lines, l.length ≤ 1000) (hl : ∀ l ∈ lines, ∀ c ∈ l, 0 ≤ c ∧ c < (cells : Int)) (hcl : cells ≤ 16) (hmost : most ≤ 9) (hpow : (most + 1) ^ (cells - cells / 2) ≤ 1000000)
  (h87 : Pure Tryz.prog B 87 [.agg [I cells, encT lines], I most] (· = I 0)) (h88 : Pure Tryz.prog B 88 [I ((cells - cells / 2 : Nat) : Int), I most] (· = .bool false)) :
  Pure Tryz.prog B 31 [.agg [I cells, encT lines], I most, I s] (· = .tup [I (if 0 < lines.length ∧ (s < 0 ∨ 255 < s) then 0 else (bsum lines most s.toNat (cells / 2) cells : Nat)), I 0]) := by
 refine yV fun h nx K H0 hK => zP zZ dreg 1000000000 fun hf => ?_
 rw [F31.go]
 refine H0.box (l := [I cells, encT lines]) rfl fun bx h1 nx1 H1 => ?_
 rw [H1.loadN (k := 0) (n := 2) rfl rfl]
 refine h87 _ _ _ _ ?_
 rintro _ rfl _
 simp (disch := omega) only [sAdd, sSub, sMul, sEql, sNeq, sLss, sLeq, sGtr, sGeq, zK, zI, zC, zB, yC, zY, yE, yF, zO, yD, yA, yI, zT, zS, zR, zF, zM, zJ, zD, decide_true, decide_false, Bool.not_true, Bool.not_false, zV]
 rw [sFx, H1.load (k := 0) (i := 0) rfl rfl, sQuo2 (by omega), sFx, H1.load (k := 0) (i := 0) rfl rfl, sSub (by omega), show (cells : Int) - ((cells / 2 : Nat) : Int) = ((cells - cells / 2 : Nat) : Int) by omega]
 refine h88 _ _ _ _ ?_
 rintro _ rfl _
 rw [zB, sFx, H1.load (k := 0) (i := 0 + 1) rfl rfl]
 simp (disch := omega) only [sAdd, sSub, sMul, sEql, sNeq, sLss, sLeq, sGtr, sGeq, zK, zI, zC, zB, yC, zY, yE, yF, zO, yD, yA, yI, zT, zS, zR, zF, zM, zJ, zD, decide_true, decide_false, Bool.not_true, Bool.not_false, zV]
 have ret : ∀ v : Int, v = (if 0 < lines.length ∧ (s < 0 ∨ 255 < s) then (0 : Int) else ((bsum lines most s.toNat (cells / 2) cells : Nat) : Int)) → ∀ h' nx' L, Hp h h' nx' L → K (.tup [I v, I 0]) h' nx' = .ok True := fun v hv h' nx' L H => by
  rw [hv]; exact hK _ _ _ L _ H (uN (yB rfl) (yB rfl)) rfl
 by_cases hz : 0 < lines.length ∧ (s < 0 ∨ 255 < s)
 ·rw [if_pos hz] at ret
  simp only [show (0 : Int) < (lines.length : Int) by omega, decide_true, yC]
  by_cases hs0 : s < 0
  ·simp only [sLss, hs0, decide_true, yE, zK, zC]
   exact ret 0 rfl _ _ _ H1
  ·simp only [sLss, sGtr, hs0, show (255 : Int) < s by omega, decide_true, decide_false, zY, zK, zI, zC]
   exact ret 0 rfl _ _ _ H1
 rw [if_neg hz] at ret
 have fin : ∀ z5 z6 z14 z15 z16, IR.run F31.b3 (CS Tryz.prog B) 1000000000 (fnO F31.res K) (retK F31.res K) (F31.fr (.agg [I cells, encT lines]) (I most) (I s) (.ptr bx 0) (I 0) z5 z6 (I ((cells / 2 : Nat) : Int)) .undef .undef .undef .undef .undef .undef z14 z15 z16 .undef .undef .undef .undef .undef .undef) h1 nx1 = .ok True := by
  intro z5 z6 z14 z15 z16
  rw [F31.k3, H1.loadN (k := 0) (n := 2) rfl rfl, sFx, H1.load (k := 0) (i := 0) rfl rfl]
  refine tally89 (cells := cells) hm hw hl (by omega) (by omega) (Nat.le_refl _) (by omega) hpow H1 fun h2 nx2 rid ksR GR OR hpR H2 => ?_
  rw [H2.loadN (k := 1) (n := 2) rfl rfl]
  refine tally89 (fr := 0) (cells := cells) hm hw hl (by omega) (by omega) (by omega) (by omega) (by rw [Nat.sub_zero]; exact Nat.le_trans (Nat.pow_le_pow_right (by omega) (by omega)) hpow) H2 fun h3 nx3 lid ksL GL OL hpL H3 => ?_
  rw [Nat.sub_zero] at hpL
  refine H3.range (k := 0) rfl fun it h4 nx4 H4 => ?_
  have hLl : GL.length ≤ 1000000 := by
   rw [hpL.length_eq, tallyT_length]
   exact Nat.le_trans (Nat.pow_le_pow_right (by omega) (by omega)) hpow
  have hRl : GR.length ≤ 1000000 := by rw [hpR.length_eq, tallyT_length]; exact hpow
  have hkl : ksL.length ≤ GL.length := by
   have h1 := (perm_self ksL GL OL.nd OL.mem).length_eq
   rw [← h1, List.length_flatMap]
   have : ∀ l : List Key, (∀ y ∈ l, y ∈ GL) → l.length ≤ (l.map fun x => (List.replicate (GL.count x) x).length).sum := by
    intro l
    induction l with
    | nil => simp
    | cons a l ih =>
     intro h
     have h2 := ih fun y hy => h y (by simp [hy])
     have h3 : 1 ≤ GL.count a := List.count_pos_iff.2 (h a (by simp))
     simp only [List.map_cons, List.sum_cons, List.length_cons, List.length_replicate] at h2 ⊢
     omega
   exact this ksL fun y hy => (OL.mem y).1 hy
  refine F31.meet (sum := s.toNat) (cells := cells) (by decide) hm (by omega) OL OR hLl hRl (by omega) (fun y hy => tallyT_lt _ _ _ _ y (hpL.mem_iff.1 hy)) H4 fun w10 w11 w12 w13 w18 w19 w20 w21 w22 h5 nx5 L5 H5 => ?_
  rw [F31.k18]
  refine ret _ ?_ _ _ _ H5
  rw [sum_perm _ hpL, fB_perm hpR]; rfl
 by_cases hl0 : 0 < lines.length
 ·simp only [show (0 : Int) < (lines.length : Int) by omega, decide_true, yC, sLss, sGtr, show ¬ s < 0 by omega, show ¬ (255 : Int) < s by omega, decide_false, zY, zK, zI, zB]
  exact fin _ _ _ _ _
 ·simp only [show ¬ (0 : Int) < (lines.length : Int) by omega, decide_false, yF, sG_undef, zI, zB]
  exact fin _ _ _ _ _
end Go.Ev
namespace Go.Ev
open Go Go.Proofs
variable {B : Nat}
theorem when123 (b : Bool) (e : Int) : Pure Tryz.prog B 123 [.bool b, I e] (· = I (if b then e else 0)) := by
 intro p h nx K hK
 refine zP zZ dreg 9 fun hf => ?_
 rw [F123.go]
 cases b <;> simp (disch := omega) only [sAdd, sSub, sMul, sEql, sNeq, sLss, sLeq, sGtr, sGeq, zK, zI, zC, zB, yC, zY, yE, yF, zO, yD, yA, yI, zT, zS, zR, zF, zM, zJ, zD, decide_true, decide_false, Bool.not_true, Bool.not_false, zV] <;> exact hK _ rfl hf
def jT : List Int → Int
 | [] => 0
 | e :: l => if e ≠ 0 then e else jT l
theorem firstE_skip : ∀ (l : List Int) (i : Nat), (∀ e ∈ l.take i, e = 0) → jT l = jT (l.drop i)
 | l, 0, _ => rfl
 | [], _ + 1, _ => rfl
 | e :: l, i + 1, h => by
  have h0 : e = 0 := h e (by simp)
  rw [jT, if_neg (by simp [h0]), List.drop_succ_cons]
  exact firstE_skip l i fun x hx => h x (by simp [hx])
theorem first121 {l : List Int} (hl : l.length ≤ 1000000) : Pure Tryz.prog B 121 [encI l] (· = I (jT l)) := by
 intro p h nx K hK
 refine zP zZ dreg 10000000 fun hf => ?_
 rw [F121.go]
 simp (disch := omega) only [sAdd, sSub, sMul, sEql, sNeq, sLss, sLeq, sGtr, sGeq, zK, zI, zC, zB, yC, zY, yE, yF, zO, yD, yA, yI, zT, zS, zR, zF, zM, zJ, zD, decide_true, decide_false, Bool.not_true, Bool.not_false, zV]
 refine F121.L1 (fun m z5 h' nx' => ∃ i : Nat, z5 = I i ∧ l.length - i = m ∧ i ≤ l.length ∧ h' = h ∧ nx' = nx ∧ ∀ e ∈ l.take i, e = 0) (m := l.length) (by omega) ⟨0, rfl, rfl, by omega, rfl, rfl, by simp⟩ ?_
 rintro m z1 z2 z5 z6 z7 _ _ R ⟨i, rfl, rfl, hi, rfl, rfl, htk⟩ hR
 simp (disch := omega) only [sAdd, sSub, sMul, sEql, sNeq, sLss, sLeq, sGtr, sGeq, zK, zI, zC, zB, yC, zY, yE, yF, zO, yD, yA, yI, zT, zS, zR, zF, zM, zJ, zD, decide_true, decide_false, Bool.not_true, Bool.not_false, zV]
 by_cases hlt : i < l.length
 ·simp only [show (i : Int) < (l.length : Int) by omega, decide_true, zC]
  have hx : l[i]? = some l[i] := List.getElem?_eq_getElem hlt
  rw [sIxL rfl hlt, ldL (getI hx)]
  simp (disch := omega) only [sAdd, sSub, sMul, sEql, sNeq, sLss, sLeq, sGtr, sGeq, zK, zI, zC, zB, yC, zY, yE, yF, zO, yD, yA, yI, zT, zS, zR, zF, zM, zJ, zD, decide_true, decide_false, Bool.not_true, Bool.not_false, zV]
  have hd : l.drop i = l[i] :: l.drop (i + 1) := List.drop_eq_getElem_cons hlt
  by_cases h0 : l[i] = 0
  ·simp only [h0, decide_true, Bool.not_true, zB]
   refine hR _ _ _ _ _ _ _ _ (by omega) ⟨i + 1, rfl, rfl, by omega, rfl, rfl, fun e he => ?_⟩
   rw [List.take_add_one, hx] at he
   rcases List.mem_append.1 he with q | q
   ·exact htk e q
   ·simp at q; rw [q]; exact h0
  ·simp only [h0, decide_false, Bool.not_false, zC]
   refine hK _ ?_ hf
   rw [firstE_skip l i htk, hd, jT, if_pos h0]
 ·simp only [show ¬ (i : Int) < (l.length : Int) by omega, decide_false, zB]
  rw [F121.k8]
  refine hK _ ?_ hf
  rw [firstE_skip l i htk, List.drop_of_length_le (by omega)]; rfl
theorem equal150 {a b : List Int} (ha : a.length ≤ 1000000000) : Pure Tryz.prog B 150 [encI a, encI b] (· = .bool (decide (a = b))) := by
 intro p h nx K hK
 refine zP zZ dreg (a.length + 2) fun hf => ?_
 rw [F150.go]
 simp (disch := omega) only [sAdd, sSub, sMul, sEql, sNeq, sLss, sLeq, sGtr, sGeq, zK, zI, zC, zB, yC, zY, yE, yF, zO, yD, yA, yI, zT, zS, zR, zF, zM, zJ, zD, decide_true, decide_false, Bool.not_true, Bool.not_false, zV]
 by_cases hl : a.length = b.length
 ·simp only [hl, decide_true, Bool.not_true, zB]
  refine F150.L2 (fun m z6 h' nx' => ∃ i : Nat, z6 = I i ∧ a.length - i = m ∧ i ≤ a.length ∧ h' = h ∧ nx' = nx ∧ a.take i = b.take i) (m := a.length) (by omega) ⟨0, rfl, by simp, by omega, rfl, rfl, by simp⟩ ?_
  rintro m z2 z3 z6 z7 z8 _ _ R ⟨i, rfl, rfl, hi, rfl, rfl, htk⟩ hR
  simp (disch := omega) only [sAdd, sSub, sMul, sEql, sNeq, sLss, sLeq, sGtr, sGeq, zK, zI, zC, zB, yC, zY, yE, yF, zO, yD, yA, yI, zT, zS, zR, zF, zM, zJ, zD, decide_true, decide_false, Bool.not_true, Bool.not_false, zV]
  by_cases hlt : i < a.length
  ·have hb : i < b.length := by omega
   simp only [show (i : Int) < (b.length : Int) by omega, decide_true, zC]
   rw [sIxL rfl hlt, ldL (getI (List.getElem?_eq_getElem hlt)), sIxL rfl hb, ldL (getI (List.getElem?_eq_getElem hb))]
   simp (disch := omega) only [sAdd, sSub, sMul, sEql, sNeq, sLss, sLeq, sGtr, sGeq, zK, zI, zC, zB, yC, zY, yE, yF, zO, yD, yA, yI, zT, zS, zR, zF, zM, zJ, zD, decide_true, decide_false, Bool.not_true, Bool.not_false, zV]
   by_cases he : a[i] = b[i]
   ·simp only [he, decide_true, Bool.not_true, zB]
    refine hR (a.length - (i + 1)) _ _ _ _ _ _ _ (by omega) ⟨i + 1, rfl, rfl, by omega, rfl, rfl, ?_⟩
    rw [List.take_add_one, List.take_add_one, htk, List.getElem?_eq_getElem hlt, List.getElem?_eq_getElem hb, he]
   ·simp only [he, decide_false, Bool.not_false, zC]
    refine hK _ ?_ hf
    rw [decide_eq_false]
    rintro rfl
    exact he rfl
  ·simp only [show ¬ (i : Int) < (b.length : Int) by omega, decide_false, zB]
   rw [F150.k9]
   refine hK _ ?_ hf
   rw [List.take_of_length_le (by omega), List.take_of_length_le (by omega)] at htk
   rw [decide_eq_true htk]
 ·have h1 : ¬ (a.length : Int) = b.length := by omega
  simp only [h1, decide_false, Bool.not_false, zC]
  refine hK _ ?_ hf
  rw [decide_eq_false]
  rintro rfl; exact hl rfl
theorem contains148 {h0 h : T Blk} {nx : Pa} {L : List Ob} {k : Nat} {x p : Pa} {l : List Int} {prev : List (List Int)} {K : Kw Prop} (H : Hp h0 h nx L) (hk : L[k]? = some (.arr x [encI l])) (hp : prev.length ≤ 1000000) (hw : ∀ q ∈ prev, q.length ≤ 1000000)
  (hK : K (.bool (decide (l ∈ prev))) h nx = .ok True) : (CS Tryz.prog B).fn 148 p [encT prev, .fn 149 (.of 149) [.ptr x 0]] h nx K = .ok True := by
 refine jI (p := .of 148) (K := K) (zP zZ dreg 9 fun hf => ?_) fun _ _ _ _ q => q
 rw [F148.go]
 refine jI (p := .of 172) (K := fun v1 h2 n3 => sBin .geq .int v1 (I 0) fun v4 => K v4 h2 n3) (zP zZ dreg 10000000 fun hf => ?_) fun _ _ _ _ q => q
 rw [F172.go]
 simp (disch := omega) only [sAdd, sSub, sMul, sEql, sNeq, sLss, sLeq, sGtr, sGeq, zK, zI, zC, zB, yC, zY, yE, yF, zO, yD, yA, yI, zT, zS, zR, zF, zM, zJ, zD, decide_true, decide_false, Bool.not_true, Bool.not_false, zV]
 refine F172.L1 (fun m z5 h' nx' => ∃ i : Nat, z5 = I i ∧ prev.length - i = m ∧ i ≤ prev.length ∧ h' = h ∧ nx' = nx ∧ l ∉ prev.take i) (m := prev.length) (by omega) ⟨0, rfl, rfl, by omega, rfl, rfl, by simp⟩ ?_
 rintro m z2 z3 z5 z6 z7 _ _ R ⟨i, rfl, rfl, hi, rfl, rfl, htk⟩ hR
 simp (disch := omega) only [sAdd, sSub, sMul, sEql, sNeq, sLss, sLeq, sGtr, sGeq, zK, zI, zC, zB, yC, zY, yE, yF, zO, yD, yA, yI, zT, zS, zR, zF, zM, zJ, zD, decide_true, decide_false, Bool.not_true, Bool.not_false, zV]
 by_cases hlt : i < prev.length
 ·simp only [show (i : Int) < (prev.length : Int) by omega, decide_true, zC]
  have hx : prev[i]? = some prev[i] := List.getElem?_eq_getElem hlt
  rw [sIxL rfl hlt, ldL (getT hx), sCall_fn]
  refine jI (p := .of 149) (zP zZ dreg 9 fun hf => ?_) fun _ _ _ _ q => q
  show zQ tbl 9 _ (Pa.of 149) [encI prev[i], .ptr x 0] _ _ _ = _
  rw [F149.go, H.load (k := k) (i := 0) hk rfl]
  refine equal150 (Nat.le_trans (hw _ (List.getElem_mem hlt)) (by omega)) _ _ _ _ ?_
  rintro _ rfl _
  by_cases he : prev[i] = l
  ·simp only [he, decide_true, zC, sGeq, show (0 : Int) ≤ (i : Int) by omega]
   rw [decide_eq_true (he ▸ List.getElem_mem hlt)] at hK
   exact hK
  ·simp only [he, decide_false, zB]
   refine hR _ _ _ _ _ _ _ _ (by omega) ⟨i + 1, rfl, rfl, by omega, rfl, rfl, fun q => ?_⟩
   rw [List.take_add_one, hx] at q
   rcases List.mem_append.1 q with q | q
   ·exact htk q
   ·simp at q; exact he q.symm
 ·simp only [show ¬ (i : Int) < (prev.length : Int) by omega, decide_false, zB]
  rw [F172.k8]
  rw [List.take_of_length_le (by omega)] at htk
  rw [decide_eq_false htk] at hK
  simp only [sGeq, show ¬ (0 : Int) ≤ -1 by omega, decide_false]
  exact hK
end Go.Ev
namespace Go.Ev
open Go Go.Proofs
variable {B : Nat}
def yQ (cells : Int) : Option Int → List Int → Int
 | _, [] => 0
 | p, c :: l => if c < 0 ∨ cells ≤ c then 10 else if p.any (fun q => decide (c ≤ q)) then 11 else yQ cells (some c) l
def jB (cells : Int) (prev : List (List Int)) (l : List Int) : Int := if l = [] then 12 else if yQ cells none l ≠ 0 then yQ cells none l else if l ∈ prev then 9 else 0
def gI (cells : Int) : List (List Int) → List (List Int) → Int
 | _, [] => 0
 | prev, l :: r => if jB cells prev l ≠ 0 then jB cells prev l else gI cells (prev ++ [l]) r
def yR (cells : Int) (lines : List (List Int)) : Int := if cells < 1 ∨ 256 < cells then 3 else if 128 < lines.length then 5 else gI cells [] lines
def pv (l : List Int) (k : Nat) : Option Int := if k = 0 then none else l[k - 1]?
theorem pv_succ {l : List Int} {k : Nat} (h : k < l.length) : pv l (k + 1) = some l[k] := by simp [pv, h]
theorem short25 {cells a b : Int} {lines : List (List Int)} (hb : b ≤ 1000000) : Pure Tryz.prog B 25 [.agg [I cells, encT lines], I a, I b] (· = .bool (decide ((lines.length : Int) ≤ b ∧ ∀ l ∈ lines, (l.length : Int) ≤ a))) := by
 refine yV fun h nx K H0 hK => zP zZ dreg 10000000 fun hf => ?_
 rw [F25.go]
 refine H0.box (l := [I cells, encT lines]) rfl fun bx h1 nx1 H1 => ?_
 rw [sFx, H1.load (k := 0) (i := 0 + 1) rfl rfl]
 simp (disch := omega) only [sAdd, sSub, sMul, sEql, sNeq, sLss, sLeq, sGtr, sGeq, zK, zI, zC, zB, yC, zY, yE, yF, zO, yD, yA, yI, zT, zS, zR, zF, zM, zJ, zD, decide_true, decide_false, Bool.not_true, Bool.not_false, zV]
 have ret : ∀ v : Bool, v = decide ((lines.length : Int) ≤ b ∧ ∀ l ∈ lines, (l.length : Int) ≤ a) → K (.bool v) h1 nx1 = .ok True := fun v hv => by rw [hv]; exact hK _ _ _ _ _ H1 (yB rfl) rfl
 by_cases hlen : b < (lines.length : Int)
 ·simp only [hlen, decide_true, zC]
  refine ret _ ?_
  rw [decide_eq_false]
  rintro ⟨q, _⟩; omega
 simp only [hlen, decide_false, zB]
 refine F25.L2 (fun m z5 h' nx' => ∃ i : Nat, z5 = I i ∧ lines.length - i = m ∧ i ≤ lines.length ∧ h' = h1 ∧ nx' = nx1 ∧ ∀ l ∈ lines.take i, (l.length : Int) ≤ a) (m := lines.length) (by omega) ⟨0, rfl, rfl, by omega, rfl, rfl, by simp⟩ ?_
 rintro m z4 z5 z7 z8 _ _ R ⟨i, rfl, rfl, hi, rfl, rfl, htk⟩ hR
 rw [sFx, H1.load (k := 0) (i := 0 + 1) rfl rfl]
 simp (disch := omega) only [sAdd, sSub, sMul, sEql, sNeq, sLss, sLeq, sGtr, sGeq, zK, zI, zC, zB, yC, zY, yE, yF, zO, yD, yA, yI, zT, zS, zR, zF, zM, zJ, zD, decide_true, decide_false, Bool.not_true, Bool.not_false, zV]
 by_cases hlt : i < lines.length
 ·simp only [show (i : Int) < (lines.length : Int) by omega, decide_true, zC]
  have hx : lines[i]? = some lines[i] := List.getElem?_eq_getElem hlt
  rw [sFx, H1.load (k := 0) (i := 0 + 1) rfl rfl, sIxL rfl hlt, ldL (getT hx)]
  simp (disch := omega) only [sAdd, sSub, sMul, sEql, sNeq, sLss, sLeq, sGtr, sGeq, zK, zI, zC, zB, yC, zY, yE, yF, zO, yD, yA, yI, zT, zS, zR, zF, zM, zJ, zD, decide_true, decide_false, Bool.not_true, Bool.not_false, zV]
  by_cases hw : a < (lines[i].length : Int)
  ·simp only [hw, decide_true, zC]
   refine ret _ ?_
   rw [decide_eq_false]
   rintro ⟨_, q⟩
   have := q _ (List.getElem_mem hlt)
   omega
  ·simp only [hw, decide_false, zB]
   refine hR _ _ _ _ _ _ _ (by omega) ⟨i + 1, rfl, rfl, by omega, rfl, rfl, fun l hl => ?_⟩
   rw [List.take_add_one, hx] at hl
   rcases List.mem_append.1 hl with q | q
   ·exact htk l q
   ·simp at q; rw [q]; omega
 ·simp only [show ¬ (i : Int) < (lines.length : Int) by omega, decide_false, zB]
  rw [F25.k9]
  rw [List.take_of_length_le (by omega)] at htk
  refine ret _ ?_
  rw [decide_eq_true ⟨by omega, htk⟩]
theorem hasLine84 {prev : List (List Int)} {l : List Int} (hp : prev.length ≤ 1000000) (hw : ∀ q ∈ prev, q.length ≤ 1000000000) : Pure Tryz.prog B 84 [encT prev, encI l] (· = .bool (decide (l ∈ prev))) := by
 intro p h nx K hK
 refine zP zZ dreg 10000000 fun hf => ?_
 rw [F84.go]
 refine F84.L1 (fun m z3 h' nx' => ∃ i : Nat, z3 = I i ∧ prev.length - i = m ∧ i ≤ prev.length ∧ h' = h ∧ nx' = nx ∧ l ∉ prev.take i) (m := prev.length) (by omega) ⟨0, rfl, rfl, by omega, rfl, rfl, by simp⟩ ?_
 rintro m z2 z3 z4 z5 _ _ R ⟨i, rfl, rfl, hi, rfl, rfl, htk⟩ hR
 simp (disch := omega) only [sAdd, sSub, sMul, sEql, sNeq, sLss, sLeq, sGtr, sGeq, zK, zI, zC, zB, yC, zY, yE, yF, zO, yD, yA, yI, zT, zS, zR, zF, zM, zJ, zD, decide_true, decide_false, Bool.not_true, Bool.not_false, zV]
 by_cases hlt : i < prev.length
 ·simp only [show (i : Int) < (prev.length : Int) by omega, decide_true, zC]
  have hx : prev[i]? = some prev[i] := List.getElem?_eq_getElem hlt
  rw [sIxL rfl hlt, ldL (getT hx)]
  refine sameInts35 (hw _ (List.getElem_mem hlt)) _ _ _ _ ?_
  rintro _ rfl _
  by_cases he : prev[i] = l
  ·simp only [he, decide_true, zC]
   refine hK _ ?_ hf
   rw [decide_eq_true (he ▸ List.getElem_mem hlt)]
  ·simp only [he, decide_false, zB]
   refine hR _ _ _ _ _ _ _ (by omega) ⟨i + 1, rfl, rfl, by omega, rfl, rfl, fun q => ?_⟩
   rw [List.take_add_one, hx] at q
   rcases List.mem_append.1 q with q | q
   ·exact htk q
   ·simp at q; exact he q.symm
 ·simp only [show ¬ (i : Int) < (prev.length : Int) by omega, decide_false, zB]
  rw [F84.k8]
  rw [List.take_of_length_le (by omega)] at htk
  refine hK _ ?_ hf
  rw [decide_eq_false htk]
end Go.Ev
namespace Go.Ev
open Go Go.Proofs
variable {B : Nat}
theorem sSliceF {n i : Nat} {l : List AV} {op : AV → OP} (hn : 1 ≤ n) (hi : i ≤ n) : sSlice 1 (.lst 1 n l) none (some (I (i : Int))) none op = op (.lst 1 i (l.take i)) := by
 show (bif Nat.beq 1 1 && Nat.ble 1 n then (match bnd (some (I (i : Int))) n n with | none => Out.no 17 | some h => match bnd none h 0 with | none => .no 17 | some q => op (.lst 1 (h - q) ((l.drop (q * 1)).take ((h - q) * 1)))) else .no 17) = _
 rw [Nat.ble_eq_true_of_le hn]
 have : bnd (some (I (i : Int))) n n = some i := by
  show (bif Nat.ble i n then some i else none) = _
  rw [Nat.ble_eq_true_of_le hi]; rfl
 rw [this]
 show op (.lst 1 (i - 0) ((l.drop (0 * 1)).take ((i - 0) * 1))) = _
 simp
theorem sysErr27 {cells : Int} {lines : List (List Int)} (hw : ∀ q ∈ lines, q.length ≤ 1000000) : Pure Tryz.prog B 27 [.agg [I cells, encT lines]] (· = I (yR cells lines)) := by
 refine yV fun h nx K H0 hK => zP zZ dreg 10000000 fun hf => ?_
 rw [F27.go]
 refine H0.box (l := [I cells, encT lines]) rfl fun bx h1 nx1 H1 => ?_
 rw [sFx, H1.load (k := 0) (i := 0) rfl rfl]
 have ret : ∀ v : Int, v = yR cells lines → K (I v) h1 nx1 = .ok True := fun v hv => by rw [hv]; exact hK _ _ _ _ _ H1 (yB rfl) rfl
 by_cases hc : cells < 1 ∨ 256 < cells
 ·have hv : (3 : Int) = yR cells lines := by rw [yR, if_pos hc]
  by_cases c1 : cells < 1
  ·simp only [sLss, c1, decide_true, yE, zK, zC]
   exact ret 3 hv
  ·simp only [sLss, c1, decide_false, zY]
   rw [sFx, H1.load (k := 0) (i := 0) rfl rfl]
   simp only [sGtr, show (256 : Int) < cells by omega, decide_true, zI, zC]
   exact ret 3 hv
 simp only [sLss, show ¬ cells < 1 by omega, decide_false, zY]
 rw [sFx, H1.load (k := 0) (i := 0) rfl rfl]
 simp only [sGtr, show ¬ (256 : Int) < cells by omega, decide_false, zI, zB]
 rw [sFx, H1.load (k := 0) (i := 0 + 1) rfl rfl]
 simp (disch := omega) only [sAdd, sSub, sMul, sEql, sNeq, sLss, sLeq, sGtr, sGeq, zK, zI, zC, zB, yC, zY, yE, yF, zO, yD, yA, yI, zT, zS, zR, zF, zM, zJ, zD, decide_true, decide_false, Bool.not_true, Bool.not_false, zV]
 by_cases hm : 128 < lines.length
 ·simp only [show (128 : Int) < (lines.length : Int) by omega, decide_true, zC]
  exact ret 5 (by rw [yR, if_neg hc, if_pos hm])
 simp only [show ¬ (128 : Int) < (lines.length : Int) by omega, decide_false, zB]
 have hs : yR cells lines = gI cells [] lines := by rw [yR, if_neg hc, if_neg hm]
 refine F27.L3 (fun m z3 h' nx' => ∃ i : Nat, z3 = I i ∧ lines.length - i = m ∧ i ≤ lines.length ∧ h' = h1 ∧ nx' = nx1 ∧ yR cells lines = gI cells (lines.take i) (lines.drop i)) (m := lines.length) (by omega) ⟨0, rfl, rfl, by omega, rfl, rfl, by simpa using hs⟩ ?_
 rintro m z2 z3 z4 z5 z8 z9 z10 z11 z12 z13 h1 nx1 R ⟨i, rfl, rfl, hi, rfl, rfl, he⟩ hR
 rw [sFx, H1.load (k := 0) (i := 0 + 1) rfl rfl]
 simp (disch := omega) only [sAdd, sSub, sMul, sEql, sNeq, sLss, sLeq, sGtr, sGeq, zK, zI, zC, zB, yC, zY, yE, yF, zO, yD, yA, yI, zT, zS, zR, zF, zM, zJ, zD, decide_true, decide_false, Bool.not_true, Bool.not_false, zV]
 by_cases hlt : i < lines.length
 case neg =>
  simp only [show ¬ (i : Int) < (lines.length : Int) by omega, decide_false, zB]
  rw [F27.k20]
  exact ret 0 (by rw [he, List.drop_of_length_le (by omega)]; rfl)
 simp only [show (i : Int) < (lines.length : Int) by omega, decide_true, zC]
 obtain ⟨l, hx⟩ : ∃ l, lines[i]? = some l := ⟨_, List.getElem?_eq_getElem hlt⟩
 have hmem := List.mem_of_getElem? hx
 have hd : lines.drop i = l :: lines.drop (i + 1) := by
  rw [List.drop_eq_getElem_cons hlt]
  rw [List.getElem?_eq_getElem hlt] at hx
  rw [Option.some.inj hx]
 have htake : lines.take (i + 1) = lines.take i ++ [l] := by rw [List.take_add_one, hx]; rfl
 rw [sFx, H1.load (k := 0) (i := 0 + 1) rfl rfl, sIxL rfl hlt, ldL (getT hx)]
 simp (disch := omega) only [sAdd, sSub, sMul, sEql, sNeq, sLss, sLeq, sGtr, sGeq, zK, zI, zC, zB, yC, zY, yE, yF, zO, yD, yA, yI, zT, zS, zR, zF, zM, zJ, zD, decide_true, decide_false, Bool.not_true, Bool.not_false, zV]
 have hlw := hw l hmem
 have hline : jB cells (lines.take i) l ≠ 0 → yR cells lines = jB cells (lines.take i) l := fun h => by rw [he, hd, gI, if_pos h]
 by_cases h0 : l.length = 0
 ·simp only [show (l.length : Int) = 0 by omega, decide_true, zC]
  have hl0 : l = [] := List.eq_nil_of_length_eq_zero h0
  have e12 : jB cells (lines.take i) l = 12 := by rw [jB, if_pos hl0]
  exact ret 12 (by rw [hline (by rw [e12]; decide), e12])
 simp only [show ¬ (l.length : Int) = 0 by omega, decide_false, zB]
 have hl0 : l ≠ [] := fun q => h0 (by rw [q]; rfl)
 have hcell : yQ cells none l ≠ 0 → yR cells lines = yQ cells none l := fun h => by
  have e : jB cells (lines.take i) l = yQ cells none l := by rw [jB, if_neg hl0, if_pos h]
  rw [hline (by rw [e]; exact h), e]
 refine F27.L10 (fun m z5 h' nx' => ∃ k : Nat, z5 = I k ∧ l.length - k = m ∧ k ≤ l.length ∧ h' = h1 ∧ nx' = nx1 ∧ yQ cells none l = yQ cells (pv l k) (l.drop k)) (m := l.length) (by omega) ⟨0, rfl, rfl, by omega, rfl, rfl, rfl⟩ ?_
 rintro m y2 y5 y10 y11 y12 h1 nx1 R2 ⟨k, rfl, rfl, hk, rfl, rfl, hce⟩ hR2
 simp (disch := omega) only [sAdd, sSub, sMul, sEql, sNeq, sLss, sLeq, sGtr, sGeq, zK, zI, zC, zB, yC, zY, yE, yF, zO, yD, yA, yI, zT, zS, zR, zF, zM, zJ, zD, decide_true, decide_false, Bool.not_true, Bool.not_false, zV]
 by_cases hkt : k < l.length
 case neg =>
  simp only [show ¬ (k : Int) < (l.length : Int) by omega, decide_false, zB]
  have hz : yQ cells none l = 0 := by rw [hce, List.drop_of_length_le (by omega)]; rfl
  rw [F27.k18, sFx, H1.load (k := 0) (i := 0 + 1) rfl rfl, sSliceF (by omega) (by omega)]
  have ep : AV.lst 1 i ((lines.map encI).take i) = encT (lines.take i) := by
   rw [← List.map_take]
   simp [encT, Nat.min_eq_left (Nat.le_of_lt hlt)]
  rw [ep]
  refine hasLine84 (by rw [List.length_take]; omega) (fun q hq => Nat.le_trans (hw q (List.mem_of_mem_take hq)) (by omega)) _ _ _ _ ?_
  rintro _ rfl _
  by_cases hin : l ∈ lines.take i
  ·simp only [hin, decide_true, zC]
   have e9 : jB cells (lines.take i) l = 9 := by rw [jB, if_neg hl0, if_neg (by rw [hz]; simp), if_pos hin]
   exact ret 9 (by rw [hline (by rw [e9]; decide), e9])
  ·simp only [hin, decide_false, zB]
   rw [F27.k19, sAdd (by omega)]
   have e0 : jB cells (lines.take i) l = 0 := by rw [jB, if_neg hl0, if_neg (by rw [hz]; simp), if_neg hin]
   refine hR _ _ _ _ _ _ _ _ _ _ _ _ _ (by omega) ⟨i + 1, rfl, rfl, by omega, rfl, rfl, ?_⟩
   rw [he, hd, gI, if_neg (by rw [e0]; simp), htake]
 simp only [show (k : Int) < (l.length : Int) by omega, decide_true, zC]
 have hxk : l[k]? = some l[k] := List.getElem?_eq_getElem hkt
 have hdk : l.drop k = l[k] :: l.drop (k + 1) := List.drop_eq_getElem_cons hkt
 rw [sIxL rfl hkt, ldL (getI hxk)]
 by_cases hbad : l[k] < 0 ∨ cells ≤ l[k]
 ·have e10 : yQ cells none l = 10 := by rw [hce, hdk, yQ, if_pos hbad]
  have fin := ret 10 (by rw [hcell (by rw [e10]; decide), e10])
  by_cases hneg : l[k] < 0
  ·simp only [sLss, hneg, decide_true, yE, zK, zC]
   exact fin
  ·simp only [sLss, hneg, decide_false, zY]
   rw [sIxL rfl hkt, ldL (getI hxk), sFx, H1.load (k := 0) (i := 0) rfl rfl]
   simp only [sGeq, show cells ≤ l[k] by omega, decide_true, zI, zC]
   exact fin
 simp only [sLss, show ¬ l[k] < 0 by omega, decide_false, zY]
 rw [sIxL rfl hkt, ldL (getI hxk), sFx, H1.load (k := 0) (i := 0) rfl rfl]
 simp only [sGeq, show ¬ cells ≤ l[k] by omega, decide_false, zI, zB]
 rw [F27.k16]
 have next : ∀ z12, (pv l k).any (fun q => decide (l[k] ≤ q)) = false → R2 (F27.fr (.agg [I cells, encT lines]) (.ptr bx 0) y2 (I i) (encI l) (I ((k : Int) + 1)) (.bool false) (.bool false) (.bool true) (.bool false) (.bool true) (.bool false) z12 z13) h1 nx1 = .ok True := fun z12 hany => by
  refine hR2 _ _ _ _ _ _ _ _ (by omega) ⟨k + 1, rfl, rfl, by omega, rfl, rfl, ?_⟩
  rw [hce, hdk, yQ, if_neg hbad, hany]
  simp [pv_succ hkt]
 by_cases hk0 : 0 < k
 ·obtain ⟨k, rfl⟩ : ∃ j, k = j + 1 := ⟨k - 1, by omega⟩
  have hk1 : k < l.length := by omega
  have hxk1 : l[k]? = some l[k] := List.getElem?_eq_getElem hk1
  simp only [sGtr, show (0 : Int) < ((k + 1 : Nat) : Int) by omega, decide_true, yC]
  rw [sIxL rfl hkt, ldL (getI hxk), sSub (by omega), sIxL (i := k) (by omega) hk1, ldL (getI hxk1)]
  rw [pv_succ hk1] at next
  by_cases hle : l[k + 1] ≤ l[k]
  ·simp only [sLeq, hle, decide_true, zK, zC]
   have e11 : yQ cells none l = 11 := by rw [hce, hdk, yQ, if_neg hbad, pv_succ hk1, if_pos (by simp [hle])]
   exact ret 11 (by rw [hcell (by rw [e11]; decide), e11])
  ·simp only [sLeq, hle, decide_false, zK, zB]
   rw [F27.k17, sAdd (by omega)]
   exact next _ (by simp [hle])
 ·obtain rfl : k = 0 := by omega
  simp only [sGtr, show ¬ (0 : Int) < ((0 : Nat) : Int) by omega, decide_false, yF, zI, zB]
  rw [F27.k17, sAdd (by omega)]
  exact next _ (by simp [pv])
end Go.Ev
namespace Go.Ev
open Go Go.Proofs
variable {B : Nat}
theorem own_plain {P : Program} {f : Nat} {p id : Pa} {h0 h : T Blk} {nx : Pa} {L : List Ob} {k : Nat} {l : List Int} {K : Kw Prop} {Q : AV → Prop} (H : Hp h0 h nx L) (hk : L[k]? = some (.arr id (l.map I))) (hq : ∀ B, Pure P B f [encI l] Q) (hpl : ∀ v, Q v → Plain v)
  (hK : ∀ v, Q v → K v h nx = .ok True) : (CS P B).fn f p [.sl id 0 l.length (some l.length) 1] h nx K = .ok True :=
 CS_plain (.cons (HasArr.frz (H.own _ (List.mem_of_getElem? hk)) (T.get_e _ id) (Nat.le_refl _) (by simp) fun v hv => by obtain ⟨x, _, rfl⟩ := List.mem_map.1 hv; rfl) .nil) (by
  have := fixd_encI l
  simp only [nns, fixd.nn this, Bool.and_self]) hq hpl fun v hv _ => hK v hv
theorem contF131 {h : T Blk} {nx : Pa} {l : List Int} {g : Nat} {p q : Pa} {cap : List AV} {pr : Int → Bool} {K : Kw Prop} (hl : l.length ≤ 1000000) (hcl : ∀ x ∈ l, ∀ K : Kw Prop, K (.bool (pr x)) h nx = .ok True → (CS Tryz.prog B).fn g q (I x :: cap) h nx K = .ok True)
  (hK : K (.bool (l.any pr)) h nx = .ok True) : (CS Tryz.prog B).fn 131 p [encI l, .fn g q cap] h nx K = .ok True := by
 refine jI (p := .of 131) (K := K) (zP zZ dreg 9 fun hf => ?_) fun _ _ _ _ q => q
 rw [F131.go]
 refine jI (p := .of 165) (K := fun v1 h2 n3 => sBin .geq .int v1 (I 0) fun v4 => K v4 h2 n3) (zP zZ dreg 10000000 fun hf => ?_) fun _ _ _ _ q => q
 rw [F165.go]
 simp (disch := omega) only [sAdd, sSub, sMul, sEql, sNeq, sLss, sLeq, sGtr, sGeq, zK, zI, zC, zB, yC, zY, yE, yF, zO, yD, yA, yI, zT, zS, zR, zF, zM, zJ, zD, decide_true, decide_false, Bool.not_true, Bool.not_false, zV]
 refine F165.L1 (fun m z5 h' nx' => ∃ i : Nat, z5 = I i ∧ l.length - i = m ∧ i ≤ l.length ∧ h' = h ∧ nx' = nx ∧ (l.take i).any pr = false) (m := l.length) (by omega) ⟨0, rfl, rfl, by omega, rfl, rfl, by simp⟩ ?_
 rintro m z2 z3 z5 z6 z7 _ _ R ⟨i, rfl, rfl, hi, rfl, rfl, htk⟩ hR
 simp (disch := omega) only [sAdd, sSub, sMul, sEql, sNeq, sLss, sLeq, sGtr, sGeq, zK, zI, zC, zB, yC, zY, yE, yF, zO, yD, yA, yI, zT, zS, zR, zF, zM, zJ, zD, decide_true, decide_false, Bool.not_true, Bool.not_false, zV]
 by_cases hlt : i < l.length
 ·simp only [show (i : Int) < (l.length : Int) by omega, decide_true, zC]
  have hx : l[i]? = some l[i] := List.getElem?_eq_getElem hlt
  rw [sIxL rfl hlt, ldL (getI hx), sCall_fn]
  refine hcl _ (List.getElem_mem hlt) _ ?_
  cases he : pr l[i] with
  | true =>
   simp only [zC, sGeq, show (0 : Int) ≤ (i : Int) by omega, decide_true]
   rw [List.any_eq_true.2 ⟨_, List.getElem_mem hlt, he⟩] at hK
   exact hK
  | false =>
   simp only [zB]
   refine hR _ _ _ _ _ _ _ _ (by omega) ⟨i + 1, rfl, rfl, by omega, rfl, rfl, ?_⟩
   rw [List.take_add_one, hx, List.any_append, htk]
   simp [he]
 ·simp only [show ¬ (i : Int) < (l.length : Int) by omega, decide_false, zB]
  rw [F165.k8]
  rw [List.take_of_length_le (by omega)] at htk
  rw [htk] at hK
  simp only [sGeq, show ¬ (0 : Int) ≤ -1 by omega, decide_false]
  exact hK
theorem from122 {a b : Int} {l : List Int} (hl : l.length ≤ 1000000) : Pure Tryz.prog B 122 [I a, I b, encI l] (· = I (if l.any (fun x => decide (x < a) || decide (b < x)) then 3 else 0)) := by
 refine yV fun h nx K H0 hK => zP zZ dreg 1000 fun hf => ?_
 rw [F122.go]
 refine H0.box (l := [I a]) rfl fun x1 h1 nx1 H1 => ?_
 refine H1.box (l := [I b]) rfl fun x2 h2 nx2 H2 => ?_
 refine contF131 (pr := fun x => decide (x < a) || decide (b < x)) hl (fun x _ K hK => ?_) ?_
 ·refine jI (p := .of 147) (K := K) (zP zZ dreg 9 fun hf => ?_) fun _ _ _ _ q => q
  show zQ tbl 9 _ (Pa.of 147) [I x, .ptr x1 0, .ptr x2 0] _ _ _ = _
  rw [F147.go, H2.load (k := 1) (i := 0) rfl rfl]
  by_cases c : x < a
  ·simp only [sLss, c, decide_true, yE, zK]
   simpa [c] using hK
  ·simp only [sLss, c, decide_false, zY]
   rw [H2.load (k := 0) (i := 0) rfl rfl]
   simp only [sGtr, zI]
   simpa [c] using hK
 ·refine when123 _ _ _ _ _ _ ?_
  rintro _ rfl _
  exact hK _ _ _ _ _ H2 (yB rfl) rfl
theorem line124 {cells : Int} {lines : List (List Int)} {i : Nat} {l : List Int} (hi : lines[i]? = some l) (hn : lines.length ≤ 1000000) (hw : ∀ q ∈ lines, q.length ≤ 1000000) : Pure Tryz.prog B 124 [.agg [I cells, encT lines], I i] (· = I (jB cells (lines.take i) l)) := by
 refine yV fun h nx K H0 hK => zP zZ dreg 10000000 fun hf => ?_
 have hlt : i < lines.length := (List.getElem?_eq_some_iff.1 hi).1
 have hlw := hw l (List.mem_of_getElem? hi)
 rw [F124.go]
 refine H0.box (l := [I cells, encT lines]) rfl fun bx h1 nx1 H1 => ?_
 rw [sFx, H1.load (k := 0) (i := 0 + 1) rfl rfl, sIxL rfl hlt, ldL (getT hi)]
 refine H1.alloc fun x h2 nx2 H2 => ?_
 refine H2.store (k := 0) rfl (by decide) rfl fun h3 H3 => ?_
 rw [H3.load (k := 0) (i := 0) rfl rfl]
 simp (disch := omega) only [sAdd, sSub, sMul, sEql, sNeq, sLss, sLeq, sGtr, sGeq, zK, zI, zC, zB, yC, zY, yE, yF, zO, yD, yA, yI, zT, zS, zR, zF, zM, zJ, zD, decide_true, decide_false, Bool.not_true, Bool.not_false, zV]
 have ret : ∀ (v : Int) h' nx' L, v = jB cells (lines.take i) l → Hp h h' nx' L → K (I v) h' nx' = .ok True := fun v h' nx' L hv H' => by rw [hv]; exact hK _ _ _ _ _ H' (yB rfl) rfl
 by_cases h0 : l.length = 0
 ·simp only [show (l.length : Int) = 0 by omega, decide_true, zC]
  have hl0 : l = [] := List.eq_nil_of_length_eq_zero h0
  exact ret 12 _ _ _ (by rw [jB, if_pos hl0]) H3
 simp only [show ¬ (l.length : Int) = 0 by omega, decide_false, zB]
 have hl0 : l ≠ [] := fun q => h0 (by rw [q]; rfl)
 have hcell : yQ cells none l ≠ 0 → yQ cells none l = jB cells (lines.take i) l := fun h => by rw [jB, if_neg hl0, if_pos h]
 rw [H3.load (k := 0) (i := 0) rfl rfl]
 simp (disch := omega) only [sAdd, sSub, sMul, sEql, sNeq, sLss, sLeq, sGtr, sGeq, zK, zI, zC, zB, yC, zY, yE, yF, zO, yD, yA, yI, zT, zS, zR, zF, zM, zJ, zD, decide_true, decide_false, Bool.not_true, Bool.not_false, zV]
 refine F124.L2 (fun m z11 h' nx' => ∃ k : Nat, z11 = I k ∧ l.length - k = m ∧ k ≤ l.length ∧ Hp h h' nx' [.arr x [encI l], .arr bx [I cells, encT lines]] ∧ yQ cells none l = yQ cells (pv l k) (l.drop k)) (m := l.length) (by omega) ⟨0, rfl, rfl, by omega, H3, rfl⟩ ?_
 rintro m z3 z5 z6 z7 z11 z12 z13 h1 nx1 R ⟨k, rfl, rfl, hk, H1, hce⟩ hR
 simp (disch := omega) only [sAdd, sSub, sMul, sEql, sNeq, sLss, sLeq, sGtr, sGeq, zK, zI, zC, zB, yC, zY, yE, yF, zO, yD, yA, yI, zT, zS, zR, zF, zM, zJ, zD, decide_true, decide_false, Bool.not_true, Bool.not_false, zV]
 by_cases hkt : k < l.length
 case neg =>
  simp only [show ¬ (k : Int) < (l.length : Int) by omega, decide_false, zB]
  have hz : yQ cells none l = 0 := by rw [hce, List.drop_of_length_le (by omega)]; rfl
  rw [F124.k9, sFx, H1.load (k := 1) (i := 0 + 1) rfl rfl, sSliceF (by omega) (by omega)]
  have ep : AV.lst 1 i ((lines.map encI).take i) = encT (lines.take i) := by
   rw [← List.map_take]
   simp [encT, Nat.min_eq_left (Nat.le_of_lt hlt)]
  rw [ep]
  refine contains148 H1 (k := 0) rfl (by rw [List.length_take]; omega) (fun q hq => hw q (List.mem_of_mem_take hq)) ?_
  refine when123 _ _ _ _ _ _ ?_
  rintro _ rfl _
  refine ret _ _ _ _ ?_ H1
  have e9 : jB cells (lines.take i) l = if l ∈ lines.take i then 9 else 0 := by rw [jB, if_neg hl0, if_neg (by rw [hz]; simp)]
  rw [e9]
  by_cases hin : l ∈ lines.take i <;> simp [hin]
 simp only [show (k : Int) < (l.length : Int) by omega, decide_true, zC]
 have hxk : l[k]? = some l[k] := List.getElem?_eq_getElem hkt
 have hdk : l.drop k = l[k] :: l.drop (k + 1) := List.drop_eq_getElem_cons hkt
 rw [sIxL rfl hkt, ldL (getI hxk)]
 have tail : ∀ (b1 b2 : Bool) (z : AV) (z' : AV) (Z : AV → T Blk → Pa → Out Prop), b1 = (decide (l[k] < 0 ∨ cells ≤ l[k])) → b2 = (pv l k).any (fun q => decide (l[k] ≤ q)) →
   (∀ (e : Int) h' nx', e = (if l[k] < 0 ∨ cells ≤ l[k] then 10 else if (pv l k).any (fun q => decide (l[k] ≤ q)) then 11 else 0) → Hp h h' nx' [.arr x [encI l], .arr bx [I cells, encT lines]] → Z (I e) h' nx' = .ok True) →
   (CS Tryz.prog B).fn 123 (.of 123) [.bool b2, I 11] h1 nx1 (fun v22 h23 n24 => yX 1 2 [(I 0)] [(0, 1, I (if b1 then 10 else 0)), (1, 1, v22)] h23 n24 fun v25 h26 n27 => (CS Tryz.prog B).fn 121 (.of 121) [v25] h26 n27 Z) = .ok True := by
  intro b1 b2 z z' Z e1 e2 hZ
  refine when123 _ _ _ _ _ _ ?_
  rintro _ rfl _
  refine H1.bslice (l := [I (if b1 then 10 else 0), I (if b2 then 11 else 0)]) rfl fun id h4 nx4 H4 => ?_
  refine own_plain (l := [if b1 then 10 else 0, if b2 then 11 else 0]) H4 (k := 0) rfl (fun B => first121 (by simp)) (fun v hv => by rw [hv]; exact .int _ _) ?_
  rintro _ rfl
  refine hZ _ _ _ ?_ H4.drop
  subst e1 e2
  by_cases c1 : l[k] < 0 ∨ cells ≤ l[k]
  ·simp [c1, jT]
  ·cases c2 : (pv l k).any (fun q => decide (l[k] ≤ q)) <;> simp [c1, jT]
 have fin : ∀ (e : Int) h' nx', e = (if l[k] < 0 ∨ cells ≤ l[k] then 10 else if (pv l k).any (fun q => decide (l[k] ≤ q)) then 11 else 0) → Hp h h' nx' [.arr x [encI l], .arr bx [I cells, encT lines]] →
   (sBin .neq .int (I e) (I 0) fun v31 => zH v31 (K (I e) h' nx') (R (F124.fr (.agg [I cells, encT lines]) (I i) (.ptr bx 0) z3 (.ptr x 0) (I k) (I l[k]) (I e) (.bool false) (encI l) (I l.length) (I ((k : Int) + 1)) (.bool true) v31) h' nx')) = .ok True := by
  intro e h' nx' he H'
  have hstep : yQ cells none l = if e ≠ 0 then e else yQ cells (some l[k]) (l.drop (k + 1)) := by
   rw [hce, hdk, yQ, he]
   by_cases c1 : l[k] < 0 ∨ cells ≤ l[k]
   ·simp [c1]
   ·cases c2 : (pv l k).any (fun q => decide (l[k] ≤ q)) <;> simp [c1]
  simp (disch := omega) only [sAdd, sSub, sMul, sEql, sNeq, sLss, sLeq, sGtr, sGeq, zK, zI, zC, zB, yC, zY, yE, yF, zO, yD, yA, yI, zT, zS, zR, zF, zM, zJ, zD, decide_true, decide_false, Bool.not_true, Bool.not_false, zV]
  by_cases c : e = 0
  ·simp only [c, decide_true, Bool.not_true, zB]
   refine hR _ _ _ _ _ _ _ _ _ _ (by omega) ⟨k + 1, rfl, rfl, by omega, H', ?_⟩
   rw [hstep, if_neg (by simp [c]), pv_succ hkt]
  ·simp only [c, decide_false, Bool.not_false, zC]
   rw [if_pos c] at hstep
   exact ret _ _ _ _ (by rw [← hcell (by rw [hstep]; exact c), hstep]) H'
 have mid : ∀ b1 : Bool, b1 = decide (l[k] < 0 ∨ cells ≤ l[k]) →
   (CS Tryz.prog B).fn 123 (.of 123) [.bool b1, I 10] h1 nx1 (fun v10 h11 n12 =>
    sG (.bool (decide (0 < (k : Int)))) true (fun k => zA (.ptr x 0) h11 k) fun v14 => sG (.bool (decide (0 < (k : Int)))) true (fun q => q (I (k : Int))) fun v15 => sG (.bool (decide (0 < (k : Int)))) true (fun k => sBin .sub .int v15 (I 1) k) fun v16 => sG (.bool (decide (0 < (k : Int)))) true (fun k => zE 1 v14 v16 k) fun v17 => sG (.bool (decide (0 < (k : Int)))) true (fun k => zA v17 h11 k) fun v18 =>
    sG (.bool (decide (0 < (k : Int)))) true (fun q => q (I l[k])) fun v19 => sG (.bool (decide (0 < (k : Int)))) true (fun k => sBin .geq .int v18 v19 k) fun v20 => jL (.bool (decide (0 < (k : Int)))) v20 (.bool false) fun v21 =>
    (CS Tryz.prog B).fn 123 (.of 123) [v21, I 11] h11 n12 fun v22 h23 n24 => yX 1 2 [(I 0)] [(0, 1, v10), (1, 1, v22)] h23 n24 fun v25 h26 n27 => (CS Tryz.prog B).fn 121 (.of 121) [v25] h26 n27 fun v28 h29 n30 =>
    sBin .neq .int v28 (I 0) fun v31 => zH v31 (K v28 h29 n30) (R (F124.fr (.agg [I cells, encT lines]) (I i) (.ptr bx 0) z3 (.ptr x 0) (I k) (I l[k]) v28 (.bool false) (encI l) (I l.length) (I ((k : Int) + 1)) (.bool true) v31) h29 n30)) = .ok True := by
  intro b1 e1
  refine when123 _ _ _ _ _ _ ?_
  rintro _ rfl _
  by_cases ck : 0 < k
  ·obtain ⟨k, rfl⟩ : ∃ j, k = j + 1 := ⟨k - 1, by omega⟩
   have hk1 : k < l.length := by omega
   have hxk1 : l[k]? = some l[k] := List.getElem?_eq_getElem hk1
   simp only [show (0 : Int) < ((k + 1 : Nat) : Int) by omega, decide_true, yC, zK]
   rw [H1.load (k := 0) (i := 0) rfl rfl, sSub (by omega), sIxL (i := k) (by omega) hk1, ldL (getI hxk1)]
   simp only [sGeq]
   exact tail _ _ .undef .undef _ e1 (by rw [pv_succ hk1]; rfl) fin
  ·obtain rfl : k = 0 := by omega
   simp only [show ¬ (0 : Int) < ((0 : Nat) : Int) by omega, decide_false, yF, zI]
   exact tail _ _ .undef .undef _ e1 rfl fin
 by_cases c : l[k] < 0
 ·simp only [sLss, c, decide_true, yE, zK]
  exact mid true (by simp [c])
 ·simp only [sLss, c, decide_false, zY, sFx]
  rw [H1.load (k := 1) (i := 0) rfl rfl]
  simp only [sGeq, zI]
  exact mid _ (by simp [c])
theorem sys81 {cells : Int} {lines : List (List Int)} (hw : ∀ q ∈ lines, q.length ≤ 1000000) : Pure Tryz.prog B 81 [.agg [I cells, encT lines]] (· = I (yR cells lines)) := by
 refine yV fun h nx K H0 hK => zP zZ dreg 10000000 fun hf => ?_
 rw [F81.go]
 refine H0.box (l := [I cells, encT lines]) rfl fun bx h1 nx1 H1 => ?_
 rw [sFx, H1.load (k := 0) (i := 0) rfl rfl, sFx, H1.load (k := 0) (i := 0 + 1) rfl rfl]
 simp only [zF, sGtr]
 refine H1.bslice (l := [I cells]) rfl fun id h2 nx2 H2 => ?_
 simp only [zD, zF]
 rw [H2.load (k := 1) (i := 0 + 1) rfl rfl]
 simp only [zD, sFx]
 refine CS_plain (args' := [I 1, I 256, encI [cells]]) (.cons (.int _ _) (.cons (.int _ _) (.cons (HasArr.frz (H2.own (.arr id [I cells]) (by simp)) (T.get_e _ id) (Nat.le_refl _) rfl (fun v hv => by simp at hv; subst hv; rfl)) .nil))) rfl (fun B => from122 (l := [cells]) (by simp)) (fun v hv => by rw [hv]; exact .int _ _) ?_
 rintro _ rfl _
 rw [H2.load (k := 1) (i := 0 + 1) rfl rfl]
 simp only [zD, zF]
 refine when123 _ _ _ _ _ _ ?_
 rintro _ rfl _
 refine H2.bslice (l := [I (if [cells].any (fun x => decide (x < 1) || decide (256 < x)) then 3 else 0), I (if decide (128 < (lines.length : Int)) then 5 else 0)]) rfl fun id3 h3 nx3 H3 => ?_
 refine own_plain (l := [if [cells].any (fun x => decide (x < 1) || decide (256 < x)) then 3 else 0, if decide (128 < (lines.length : Int)) then 5 else 0]) H3 (k := 0) rfl (fun B => first121 (by simp)) (fun v hv => by rw [hv]; exact .int _ _) ?_
 rintro _ rfl
 have ret : ∀ (v : Int) h' nx' L, v = yR cells lines → Hp h h' nx' L → K (I v) h' nx' = .ok True := fun v h' nx' L hv H' => by rw [hv]; exact hK _ _ _ _ _ H' (yB rfl) rfl
 have ef : jT [if [cells].any (fun x => decide (x < 1) || decide (256 < x)) then 3 else 0, if decide (128 < (lines.length : Int)) then 5 else 0] = if cells < 1 ∨ 256 < cells then 3 else if 128 < lines.length then 5 else 0 := by
  by_cases c : cells < 1 ∨ 256 < cells
  ·simp [jT, c]
  ·by_cases c2 : 128 < lines.length
   ·have : (128 : Int) < (lines.length : Int) := by omega
    simp [jT, c, c2, this]
   ·have : ¬ (128 : Int) < (lines.length : Int) := by omega
    simp [jT, c, c2, this]
 rw [ef]
 simp only [sNeq]
 by_cases hc : cells < 1 ∨ 256 < cells
 ·simp only [hc, if_true]
  simp only [show ¬ (3 : Int) = 0 by omega, decide_false, Bool.not_false, zC]
  exact ret 3 _ _ _ (by rw [yR, if_pos hc]) H3
 simp only [hc, if_false]
 by_cases hm : 128 < lines.length
 ·simp only [hm, if_true]
  simp only [show ¬ (5 : Int) = 0 by omega, decide_false, Bool.not_false, zC]
  exact ret 5 _ _ _ (by rw [yR, if_neg hc, if_pos hm]) H3
 simp only [hm, if_false, decide_true, Bool.not_true, zB]
 rw [H3.load (k := 2) (i := 0 + 1) rfl rfl]
 simp only [zF]
 have hs : yR cells lines = gI cells [] lines := by rw [yR, if_neg hc, if_neg hm]
 refine F81.L2 (fun m z8 h' nx' => ∃ i : Nat, z8 = I i ∧ lines.length - i = m ∧ i ≤ lines.length ∧ Hp h h' nx' [.arr bx [I cells, encT lines]] ∧ yR cells lines = gI cells (lines.take i) (lines.drop i)) (m := lines.length) (by omega) ⟨0, rfl, rfl, by omega, H3.drop.drop, by simpa using hs⟩ ?_
 rintro m z2 z4 z5 z8 z9 z10 h4 nx4 R ⟨i, rfl, rfl, hi, H4, he⟩ hR
 simp (disch := omega) only [sAdd, sSub, sMul, sEql, sNeq, sLss, sLeq, sGtr, sGeq, zK, zI, zC, zB, yC, zY, yE, yF, zO, yD, yA, yI, zT, zS, zR, zF, zM, zJ, zD, decide_true, decide_false, Bool.not_true, Bool.not_false, zV]
 by_cases hlt : i < lines.length
 case neg =>
  simp only [show ¬ (i : Int) < (lines.length : Int) by omega, decide_false, zB]
  rw [F81.k9]
  exact ret 0 _ _ _ (by rw [he, List.drop_of_length_le (by omega)]; rfl) H4
 simp only [show (i : Int) < (lines.length : Int) by omega, decide_true, zC]
 obtain ⟨l, hx⟩ : ∃ l, lines[i]? = some l := ⟨_, List.getElem?_eq_getElem hlt⟩
 have hd : lines.drop i = l :: lines.drop (i + 1) := by
  rw [List.drop_eq_getElem_cons hlt]
  rw [List.getElem?_eq_getElem hlt] at hx
  rw [Option.some.inj hx]
 have htake : lines.take (i + 1) = lines.take i ++ [l] := by rw [List.take_add_one, hx]; rfl
 rw [H4.loadN (k := 0) (n := 2) rfl rfl]
 refine line124 hx (by omega) hw _ _ _ _ ?_
 rintro _ rfl _
 simp only [sNeq]
 by_cases c : jB cells (lines.take i) l = 0
 ·simp only [c, decide_true, Bool.not_true, zB]
  refine hR _ _ _ _ _ _ _ _ _ (by omega) ⟨i + 1, rfl, rfl, by omega, H4, ?_⟩
  rw [he, hd, gI, if_neg (by rw [c]; simp), htake]
 ·simp only [c, decide_false, Bool.not_false, zC]
  exact ret _ _ _ _ (by rw [he, hd, gI, if_pos c]) H4
end Go.Ev
namespace Go.Ev
def AscL (cells : Nat) (l : List Int) : Prop := l ≠ [] ∧ l.Pairwise (· < ·) ∧ ∀ c ∈ l, 0 ≤ c ∧ c < (cells : Int)
end Go.Ev
namespace Go.Ev
open Go Go.Proofs
variable {B : Nat}
theorem whenB82 (b : Bool) (e : Int) : Pure Tryz.prog B 82 [.bool b, I e] (· = I (if b then e else 0)) := by
 intro p h nx K hK
 refine zP zZ dreg 9 fun hf => ?_
 rw [F82.go]
 cases b <;> simp (disch := omega) only [sAdd, sSub, sMul, sEql, sNeq, sLss, sLeq, sGtr, sGeq, zK, zI, zC, zB, yC, zY, yE, yF, zO, yD, yA, yI, zT, zS, zR, zF, zM, zJ, zD, decide_true, decide_false, Bool.not_true, Bool.not_false, zV] <;> exact hK _ rfl hf
theorem first80 {l : List Int} (hl : l.length ≤ 1000000) : Pure Tryz.prog B 80 [encI l] (· = I (jT l)) := by
 intro p h nx K hK
 refine zP zZ dreg 10000000 fun hf => ?_
 rw [F80.go]
 simp (disch := omega) only [sAdd, sSub, sMul, sEql, sNeq, sLss, sLeq, sGtr, sGeq, zK, zI, zC, zB, yC, zY, yE, yF, zO, yD, yA, yI, zT, zS, zR, zF, zM, zJ, zD, decide_true, decide_false, Bool.not_true, Bool.not_false, zV]
 refine F80.L1 (fun m z5 h' nx' => ∃ i : Nat, z5 = I i ∧ l.length - i = m ∧ i ≤ l.length ∧ h' = h ∧ nx' = nx ∧ ∀ e ∈ l.take i, e = 0) (m := l.length) (by omega) ⟨0, rfl, rfl, by omega, rfl, rfl, by simp⟩ ?_
 rintro m z1 z2 z5 z6 z7 _ _ R ⟨i, rfl, rfl, hi, rfl, rfl, htk⟩ hR
 simp (disch := omega) only [sAdd, sSub, sMul, sEql, sNeq, sLss, sLeq, sGtr, sGeq, zK, zI, zC, zB, yC, zY, yE, yF, zO, yD, yA, yI, zT, zS, zR, zF, zM, zJ, zD, decide_true, decide_false, Bool.not_true, Bool.not_false, zV]
 by_cases hlt : i < l.length
 ·simp only [show (i : Int) < (l.length : Int) by omega, decide_true, zC]
  have hx : l[i]? = some l[i] := List.getElem?_eq_getElem hlt
  rw [sIxL rfl hlt, ldL (getI hx)]
  simp (disch := omega) only [sAdd, sSub, sMul, sEql, sNeq, sLss, sLeq, sGtr, sGeq, zK, zI, zC, zB, yC, zY, yE, yF, zO, yD, yA, yI, zT, zS, zR, zF, zM, zJ, zD, decide_true, decide_false, Bool.not_true, Bool.not_false, zV]
  have hd : l.drop i = l[i] :: l.drop (i + 1) := List.drop_eq_getElem_cons hlt
  by_cases h0 : l[i] = 0
  ·simp only [h0, decide_true, Bool.not_true, zB]
   refine hR _ _ _ _ _ _ _ _ (by omega) ⟨i + 1, rfl, rfl, by omega, rfl, rfl, fun e he => ?_⟩
   rw [List.take_add_one, hx] at he
   rcases List.mem_append.1 he with q | q
   ·exact htk e q
   ·simp at q; rw [q]; exact h0
  ·simp only [h0, decide_false, Bool.not_false, zC]
   refine hK _ ?_ hf
   rw [firstE_skip l i htk, hd, jT, if_pos h0]
 ·simp only [show ¬ (i : Int) < (l.length : Int) by omega, decide_false, zB]
  rw [F80.k8]
  refine hK _ ?_ hf
  rw [firstE_skip l i htk, List.drop_of_length_le (by omega)]; rfl
theorem cells_ok {cells : Int} : ∀ {l : List Int} {p : Option Int}, yQ cells p l = 0 → (∀ c ∈ l, 0 ≤ c ∧ c < cells) ∧ l.Pairwise (· < ·) ∧ ∀ q, p = some q → ∀ c ∈ l, q < c
 | [], _, _ => ⟨by simp, .nil, by simp⟩
 | c :: l, p, h => by
  rw [yQ] at h
  by_cases c1 : c < 0 ∨ cells ≤ c
  ·rw [if_pos c1] at h; cases h
  rw [if_neg c1] at h
  cases c2 : p.any (fun q => decide (c ≤ q)) with
  | true => rw [c2, if_pos rfl] at h; cases h
  | false =>
   rw [c2, if_neg (by simp)] at h
   obtain ⟨h1, h2, h3⟩ := cells_ok h
   have h4 := h3 c rfl
   refine ⟨fun x hx => ?_, List.pairwise_cons.2 ⟨h4, h2⟩, fun q hq x hx => ?_⟩
   ·rcases List.mem_cons.1 hx with rfl | hx
    ·omega
    ·exact h1 x hx
   ·subst hq
    simp at c2
    rcases List.mem_cons.1 hx with rfl | hx
    ·exact c2
    ·have := h4 x hx; omega
theorem lines_ok {cells : Int} : ∀ {ls prev : List (List Int)}, gI cells prev ls = 0 → ∀ l ∈ ls, l ≠ [] ∧ yQ cells none l = 0
 | [], _, _, l, h => by simp at h
 | a :: ls, prev, h, l, hl => by
  rw [gI] at h
  by_cases c : jB cells prev a ≠ 0
  ·rw [if_pos c] at h; exact absurd h c
  rw [if_neg c] at h
  rcases List.mem_cons.1 hl with rfl | hl
  ·have c : jB cells prev l = 0 := by simpa using c
   rw [jB] at c
   by_cases c0 : l = []
   ·rw [if_pos c0] at c; cases c
   rw [if_neg c0] at c
   refine ⟨c0, ?_⟩
   by_cases c1 : yQ cells none l ≠ 0
   ·rw [if_pos c1] at c; exact c
   ·simpa using c1
  ·exact lines_ok h l hl
theorem sys_ok {cells : Int} {lines : List (List Int)} (h : yR cells lines = 0) : ∃ n : Nat, cells = n ∧ 1 ≤ n ∧ n ≤ 256 ∧ lines.length ≤ 128 ∧ ∀ l ∈ lines, AscL n l := by
 rw [yR] at h
 by_cases c1 : cells < 1 ∨ 256 < cells
 ·rw [if_pos c1] at h; cases h
 rw [if_neg c1] at h
 by_cases c2 : 128 < lines.length
 ·rw [if_pos c2] at h; cases h
 rw [if_neg c2] at h
 refine ⟨cells.toNat, by omega, by omega, by omega, by omega, fun l hl => ?_⟩
 obtain ⟨h1, h2⟩ := lines_ok h l hl
 obtain ⟨h3, h4, _⟩ := cells_ok h2
 exact ⟨h1, h4, fun c hc => by have := h3 c hc; omega⟩
theorem sGW_tt (op : KW3 → OP) (h : T Blk) (nx : Pa) (k : KW3) : sGW (.bool true) true op h nx k = op k := nr rfl
end Go.Ev
namespace Go.Ev
open Go Go.Proofs
variable {B : Nat}
abbrev encTT (lll : List (List (List Int))) : AV := .lst 1 lll.length (lll.map encT)
def enP (lines : List (List Int)) (i c : Nat) : List (List Int) := (lines.take i).filter fun l => decide (l.getLastD 0 = (c : Int))
def endS (n : Nat) (lines : List (List Int)) : List (List (List Int)) := (List.range n).map fun (c : Nat) => lines.filter fun l => decide (l.getLastD 0 = (c : Int))
noncomputable abbrev Le (on bx : Pa) (cells : Nat) (lines : List (List Int)) (o : Nat → Option Pa) (D : Nat → List (List Int)) : List Ob :=
 .arr on (rowL cells fun c => rowV (o c) 1 (D c).length) :: .arr bx [I cells, encT lines] :: rowL cells (fun c => Ob.gro (o c) 1 (D c).length ((D c).map encI))
theorem Le_get {on bx : Pa} {cells c : Nat} {lines : List (List Int)} {o : Nat → Option Pa} {D : Nat → List (List Int)} (hc : c < cells) : (Le on bx cells lines o D)[c + 2]? = some (.gro (o c) 1 (D c).length ((D c).map encI)) := by
 show (rowL cells _)[c]? = _
 rw [uD hc]
theorem getLast_get {l : List Int} (h : 0 < l.length) : l[l.length - 1]? = some (l.getLastD 0) := by
 rw [List.getLastD_eq_getLast?, List.getLast?_eq_getElem?, List.getElem?_eq_getElem (by omega)]; rfl
theorem last_mem' : ∀ {l : List Int}, l ≠ [] → l.getLastD 0 ∈ l
 | [], h => absurd rfl h
 | a :: l, _ => by rw [List.getLastD_cons]; cases l <;> simp [List.getLastD]
theorem ended137 {cells : Nat} {lines : List (List Int)} (hcl : cells ≤ 1000) (hn : lines.length ≤ 1000) (hl : ∀ l ∈ lines, AscL cells l ∧ l.length ≤ 1000) : Pure Tryz.prog B 137 [.agg [I cells, encT lines]] (· = encTT (endS cells lines)) := by
 refine yV fun h nx K H0 hK => zP zZ dreg 10000000 fun hf => ?_
 rw [F137.go]
 refine H0.box (l := [I cells, encT lines]) rfl fun bx h1 nx1 H1 => ?_
 rw [sFx, H1.load (k := 0) (i := 0) rfl rfl]
 refine H1.mk1 cells rfl rfl (by omega) (by decide) fun on h2 nx2 H2 => ?_
 rw [sFx, H2.load (k := 1) (i := 0 + 1) rfl rfl]
 simp only [zF]
 refine F137.L1 (fun m z8 h' nx' => ∃ (i : Nat) (o : Nat → Option Pa), z8 = I i ∧ lines.length - i = m ∧ i ≤ lines.length ∧ Hp h h' nx' (Le on bx cells lines o (enP lines i))) (m := lines.length) (by omega) ⟨0, fun _ => none, rfl, rfl, by omega, ?_⟩ ?_
 ·have H3 := (H2.addE (E := rowL cells fun _ => Ob.gro none 1 0 []) fun x hx => by
   obtain ⟨j, _, rfl⟩ := rowL_mem hx
   exact ⟨rfl, fun _ => ⟨rfl, rfl⟩⟩).perm List.perm_append_comm
  refine H3.cast ?_
  rw [rowL_const]; rfl
 rintro m z4 z5 z8 z9 h3 nx3 R ⟨i, o, rfl, rfl, hi, H3⟩ hR
 simp (disch := omega) only [sAdd, sSub, sMul, sEql, sNeq, sLss, sLeq, sGtr, sGeq, zK, zI, zC, zB, yC, zY, yE, yF, zO, yD, yA, yI, zT, zS, zR, zF, zM, zJ, zD, decide_true, decide_false, Bool.not_true, Bool.not_false, zV]
 by_cases hlt : i < lines.length
 case neg =>
  simp only [show ¬ (i : Int) < (lines.length : Int) by omega, decide_false, zB]
  obtain rfl : i = lines.length := by omega
  rw [F137.k8]
  have hD : ∀ c, enP lines lines.length c = lines.filter fun l => decide (l.getLastD 0 = (c : Int)) := fun c => by rw [enP, List.take_length]
  refine hK _ _ _ _ (encTT (endS cells lines)) H3 ?_ rfl
  have harr := H3.own (.arr on (rowL cells fun c => rowV (o c) 1 (enP lines lines.length c).length)) (by simp)
  have := HasArr.frzE (N := fun id => T.get Blk.no id h = .no) (O := fun v => (∃ id off, v = .ptr id off ∧ T.get Blk.no id h ≠ .no) ∨ (∃ id, v = .yld id ∧ T.get Blk.no id h ≠ .no) ∨ (∃ id, v = .map id ∧ T.get Blk.no id h ≠ .no) ∨ (∃ id off ln cap esz, v = .sl id off ln cap esz ∧ T.get Blk.no id h ≠ .no)) (cap := some cells) (e := 1) (n := cells) (l' := (endS cells lines).map encT) harr (H3.off on (by simp [Ob.names])) (Nat.le_refl _) (by simp [rowL]) (by simp [rowL, endS]) (by simp [List.all_eq_true, scal]) (fun c v v' h1 h2 => by
   have hc : c < cells := by
    have := (List.getElem?_eq_some_iff.1 h1).1
    simpa [rowL] using this
   rw [uD hc] at h1
   rw [endS, List.map_map, List.getElem?_map, List.getElem?_range hc] at h2
   have h1 := Option.some.inj h1
   have h2 := Option.some.inj h2
   subst h1 h2
   have := H3.frzGro (k := c + 2) (Le_get hc) (by intro v hv; obtain ⟨x, _, rfl⟩ := List.mem_map.1 hv; exact fixd_encI x)
   rw [hD c] at this ⊢
   exact this)
  have hlen : (endS cells lines).length = cells := by simp [endS]
  show Frz True _ _ _ _ (.lst 1 (endS cells lines).length ((endS cells lines).map encT))
  rw [hlen]
  exact this
 simp only [show (i : Int) < (lines.length : Int) by omega, decide_true, zC]
 obtain ⟨l, hx⟩ : ∃ l, lines[i]? = some l := ⟨_, List.getElem?_eq_getElem hlt⟩
 obtain ⟨ha, hlw⟩ := hl l (List.mem_of_getElem? hx)
 have hpos : 0 < l.length := List.length_pos_iff.2 ha.1
 obtain ⟨q1, q2⟩ := ha.2.2 _ (last_mem' ha.1)
 obtain ⟨c, hce⟩ : ∃ c : Nat, l.getLastD 0 = c := ⟨(l.getLastD 0).toNat, by omega⟩
 have hc : c < cells := by omega
 rw [sIxL rfl hlt, ldL (getT hx)]
 simp (disch := omega) only [sAdd, sSub, sMul, sEql, sNeq, sLss, sLeq, sGtr, sGeq, zK, zI, zC, zB, yC, zY, yE, yF, zO, yD, yA, yI, zT, zS, zR, zF, zM, zJ, zD, decide_true, decide_false, Bool.not_true, Bool.not_false, zV]
 rw [sIxL (i := l.length - 1) (by omega) (by omega), ldL (getI (getLast_get hpos)), hce, sIx (i := c) rfl hc, H3.load (k := 0) rfl (uD hc)]
 refine H3.bslice (l := [encI l]) rfl fun t h4 nx4 H4 => ?_
 refine H4.appN (k := c + 3) (o := o c) (c := 1) (new := [encI l]) (by exact Le_get (on := on) (bx := bx) (lines := lines) hc) (HasArr.rd (l := [encI l]) (n := 1) (H4.own _ (List.mem_cons_self ..)) rfl) rfl rfl (by decide) (by decide) ?_ fun o' h5 nx5 _ H5 => ?_
 ·have : (enP lines i c).length ≤ 1000 := by
   refine Nat.le_trans (List.length_filter_le _ _) ?_
   rw [List.length_take]; omega
  omega
 rw [sIx (i := c) rfl hc]
 refine H5.store (k := 1) rfl (by simpa using hc) (rowV_cells _ _ _) fun h6 H6 => ?_
 try rw [sAdd (by omega)]
 refine hR (lines.length - (i + 1)) _ _ _ _ _ _ (by omega) ⟨i + 1, fun p => if p = c then o' else o p, rfl, rfl, by omega, H6.drop.cast ?_⟩
 have hD : ∀ p : Nat, enP lines (i + 1) p = if p = c then enP lines i c ++ [l] else enP lines i p := fun p => by
  rw [enP, List.take_add_one, hx, List.filter_append]
  show enP lines i p ++ List.filter _ [l] = _
  rw [List.filter_cons, hce]
  by_cases e : p = c
  ·subst e; simp
  ·have : ¬ (c : Int) = (p : Int) := by omega
   simp [this, e]
 rw [show enP lines (i + 1) = _ from funext hD]
 simp only [Le, List.set_cons_succ, List.set_cons_zero, List.tail_cons]
 rw [rowL_set, rowL_set]
 congr 1
 ·congr 1
  refine rowL_congr fun p _ => ?_
  by_cases e : p = c
  ·subst e; simp
  ·simp [e]
 ·congr 1
  refine rowL_congr fun p _ => ?_
  by_cases e : p = c
  ·subst e; simp
  ·simp [e]
end Go.Ev
namespace Go.Ev
def lexLt : List Int → List Int → Bool
 | _, [] => false
 | [], _ :: _ => true
 | a :: xs, b :: ys => if a = b then lexLt xs ys else decide (a < b)
theorem lexLt_skip : ∀ (i : Nat) (a b : List Int), a.take i = b.take i → i ≤ a.length → i ≤ b.length → lexLt a b = lexLt (a.drop i) (b.drop i)
 | 0, a, b, _, _, _ => rfl
 | i + 1, a :: xs, b :: ys, h, h1, h2 => by
  simp only [List.take_succ_cons, List.cons.injEq] at h
  rw [lexLt, if_pos h.1, List.drop_succ_cons, List.drop_succ_cons]
  exact lexLt_skip i xs ys h.2 (by simpa using h1) (by simpa using h2)
 | i + 1, [], _, _, h1, _ => by simp at h1
 | i + 1, _ :: _, [], _, _, h2 => by simp at h2
def Nrm (f : List Int) : Prop := f.Nodup ∧ ∀ x ∈ f, 1 ≤ x ∧ x ≤ (f.length : Int)
theorem sub_perm : ∀ (l r : List Int), l.Nodup → (∀ x ∈ l, x ∈ r) → ∃ s, r.Perm (l ++ s)
 | [], r, _, _ => ⟨r, .refl _⟩
 | a :: l, r, hn, hs => by
  obtain ⟨h1, h2⟩ := List.nodup_cons.1 hn
  have ha := hs a (by simp)
  obtain ⟨s, hp⟩ := sub_perm l (r.erase a) h2 fun x hx => (List.mem_erase_of_ne (by rintro rfl; exact h1 hx)).2 (hs x (by simp [hx]))
  exact ⟨s, (List.perm_cons_erase ha).trans (.cons a hp)⟩
abbrev upTo (n : Nat) : List Int := (List.range n).map fun (i : Nat) => (i : Int) + 1
theorem upTo_sorted (n : Nat) : (upTo n).Pairwise (· ≤ ·) := by
 rw [List.pairwise_map]
 exact List.pairwise_lt_range.imp (by intro a b h; omega)
theorem upTo_nodup (n : Nat) : (upTo n).Nodup := by
 rw [List.Nodup, List.pairwise_map]
 exact List.pairwise_lt_range.imp (by intro a b h; omega)
theorem nrm_iff (f : List Int) : srt f = upTo f.length ↔ Nrm f := by
 constructor
 ·intro h
  have hp : (upTo f.length).Perm f := h ▸ srt_perm f
  refine ⟨hp.nodup_iff.1 (upTo_nodup _), fun x hx => ?_⟩
  have := hp.mem_iff.2 hx
  obtain ⟨i, hi, rfl⟩ := List.mem_map.1 this
  have := List.mem_range.1 hi
  omega
 ·rintro ⟨h1, h2⟩
  obtain ⟨s, hs⟩ := sub_perm f (upTo f.length) h1 fun x hx => by
   obtain ⟨q1, q2⟩ := h2 x hx
   exact List.mem_map.2 ⟨(x - 1).toNat, List.mem_range.2 (by omega), by omega⟩
  have hl := hs.length_eq
  obtain rfl : s = [] := List.eq_nil_of_length_eq_zero (by rw [List.length_append, List.length_map, List.length_range] at hl; omega)
  rw [List.append_nil] at hs
  exact (srt_unique hs (upTo_sorted _)).symm
def Rv (l cur : List Int) (i : Nat) : Prop := cur.length = l.length ∧ ∀ t, t < l.length → cur[t]? = if t < i ∨ l.length ≤ t + i then l[l.length - 1 - t]? else l[t]?
theorem Rv.start (l : List Int) : Rv l l 0 := ⟨rfl, fun t ht => by rw [if_neg (by omega)]⟩
theorem Rv.done {l cur : List Int} {i : Nat} (h : Rv l cur i) (hi : l.length ≤ 2 * i + 1) : cur = l.reverse := by
 refine List.ext_getElem? fun t => ?_
 by_cases ht : t < l.length
 ·rw [h.2 t ht, List.getElem?_reverse ht]
  by_cases c : t < i ∨ l.length ≤ t + i
  ·rw [if_pos c]
  ·rw [if_neg c, show l.length - 1 - t = t by omega]
 ·rw [List.getElem?_eq_none (by rw [h.1]; omega), List.getElem?_eq_none (by simp; omega)]
theorem Rv.step {l cur : List Int} {i j : Nat} {a b : Int} (h : Rv l cur i) (hij : i < j) (hs : i + j + 1 = l.length) (ha : cur[i]? = some a) (hb : cur[j]? = some b) : Rv l ((cur.set i b).set j a) (i + 1) := by
 obtain ⟨hl, hg⟩ := h
 refine ⟨by simp [hl], fun t ht => ?_⟩
 have e1 := hg i (by omega)
 have e2 := hg j (by omega)
 rw [if_neg (by omega), ha] at e1
 rw [if_neg (by omega), hb] at e2
 rw [List.getElem?_set, List.getElem?_set, List.length_set]
 by_cases c1 : j = t
 ·subst c1
  rw [if_pos rfl, if_pos (by omega), if_pos (by omega), show l.length - 1 - j = i by omega]
  exact e1
 ·rw [if_neg c1]
  by_cases c2 : i = t
  ·subst c2
   rw [if_pos rfl, if_pos (by omega), if_pos (by omega), show l.length - 1 - i = j by omega]
   exact e2
  ·rw [if_neg c2, hg t ht]
   by_cases c3 : t < i ∨ l.length ≤ t + i
   ·rw [if_pos c3, if_pos (by omega)]
   ·rw [if_neg c3, if_neg (by omega)]
end Go.Ev
namespace Go.Ev
def yL (l f : List Int) : Int := (l.map fun c => f.getD c.toNat 0).sum
def okAt (lines : List (List Int)) (s : Int) (k : Nat) (f : List Int) : Bool := (lines.filter fun l => decide (l.getLastD 0 = (k : Int))).all fun l => decide (yL l f = s)
def jD (lines : List (List Int)) (s : Int) (n : Nat) : Nat → List Int → List (List Int)
 | 0, pre => [pre]
 | r + 1, pre => (upTo n).flatMap fun x => if x ∈ pre then [] else if okAt lines s pre.length (pre ++ [x]) then jD lines s n r (pre ++ [x]) else []
theorem lsum_take : ∀ {l f : List Int} {m : Nat}, (∀ c ∈ l, c.toNat < m) → yL l (f.take m) = yL l f
 | [], _, _, _ => rfl
 | c :: l, f, m, h => by
  have ih := lsum_take (f := f) (m := m) (l := l) fun x hx => h x (by simp [hx])
  unfold yL at ih ⊢
  rw [List.map_cons, List.map_cons, List.sum_cons, List.sum_cons, ih]
  have hc := h c (by simp)
  rw [List.getD_eq_getElem?_getD, List.getD_eq_getElem?_getD, List.getElem?_take, if_pos hc]
theorem lsum_snoc (l : List Int) (c : Int) (f : List Int) : yL (l ++ [c]) f = yL l f + f.getD c.toNat 0 := by simp [yL]
theorem lsum_bd {f : List Int} {M : Nat} (h : ∀ v ∈ f, 0 ≤ v ∧ v ≤ (M : Int)) : ∀ l : List Int, 0 ≤ yL l f ∧ yL l f ≤ ((l.length * M : Nat) : Int)
 | [] => by simp [yL]
 | c :: l => by
  have ih := lsum_bd h l
  unfold yL at ih ⊢
  rw [List.map_cons, List.sum_cons, List.length_cons, Nat.add_mul]
  have : 0 ≤ f.getD c.toNat 0 ∧ f.getD c.toNat 0 ≤ (M : Int) := by
   rw [List.getD_eq_getElem?_getD]
   cases e : f[c.toNat]? with
   | none => simp
   | some v => exact h v (List.mem_of_getElem? e)
  omega
theorem le_lastZ : ∀ {l : List Int}, l.Pairwise (· < ·) → ∀ c ∈ l, c ≤ l.getLastD 0
 | [], _, c, h => by simp at h
 | [a], _, c, h => by simp at h; subst h; simp
 | a :: b :: l, hp, c, h => by
  have ih := le_lastZ (l := b :: l) (List.pairwise_cons.1 hp).2
  have e : (a :: b :: l).getLastD 0 = (b :: l).getLastD 0 := by simp [List.getLastD]
  rw [e]
  rcases List.mem_cons.1 h with q | q
  ·subst q
   have := (List.pairwise_cons.1 hp).1 b (by simp)
   have := ih b (by simp)
   omega
  ·exact ih c q
section
variable {σ α : Type}
def jZ (stp : σ → α → σ × Bool) : σ → List α → σ × Bool
 | s, [] => (s, true)
 | s, x :: l => if (stp s x).2 then jZ stp (stp s x).1 l else ((stp s x).1, false)
theorem foldE_app (stp : σ → α → σ × Bool) : ∀ (a b : List α) (s : σ), jZ stp s (a ++ b) = if (jZ stp s a).2 then jZ stp (jZ stp s a).1 b else jZ stp s a
 | [], b, s => rfl
 | x :: a, b, s => by
  rw [List.cons_append, jZ, jZ]
  cases c : (stp s x).2 with
  | true => rw [if_pos rfl, if_pos rfl]; exact foldE_app stp a b _
  | false => simp
end
theorem upTo_drop {n x : Nat} (h1 : 1 ≤ x) (h2 : x ≤ n) : (upTo n).drop (x - 1) = (x : Int) :: (upTo n).drop x := by
 have hl : (upTo n).length = n := by simp
 rw [List.drop_eq_getElem_cons (by omega), show x - 1 + 1 = x by omega]
 congr 1
 simp [upTo]; omega
end Go.Ev
namespace Go.Ev
open Go Go.Proofs
variable {B : Nat}
theorem sLoad_fp1' {h : T Blk} (a : AV) (l : List AV) (K : AV → OP) : zA (.fp (a :: l)) h K = K a := nr rfl
theorem sFaddr_fp {k : Nat} {l : List AV} {K : AV → OP} : zN k (.fp l) K = K (.fp (l.drop k)) := nr rfl
theorem sLoadN_fp2 {a b : AV} {l : List AV} {h : T Blk} {K : AV → OP} : yJ 2 (.fp (a :: b :: l)) h K = K (.agg [a, b]) := nr rfl
theorem sEqlW {a b : Nat} {K : AV → OP} : sBin .eql .int (.int .u64 (a : Int)) (.int .u64 (b : Int)) K = K (.bool (decide ((a : Int) = (b : Int)))) := by
 have e : sBin .eql .int (.int .u64 (a : Int)) (.int .u64 (b : Int)) K = K (.bool (ieq (a : Int) (b : Int))) := rfl
 rw [e, ieq_eq]
 congr 2
theorem wrapI (z : Int) : IntKind.wrap .i64 z = if z % 18446744073709551616 ≥ 9223372036854775808 then z % 18446744073709551616 - 18446744073709551616 else z % 18446744073709551616 := by
 unfold IntKind.wrap
 simp [IntKind.bits, IntKind.signed]
theorem wrap_sub (a b : Int) : IntKind.wrap .i64 (IntKind.wrap .i64 a - b) = IntKind.wrap .i64 (a - b) := by
 rw [wrapI, wrapI (a - b), wrapI a]
 split <;> split <;> split <;> omega
theorem wrap_zero {a : Int} (h : -18446744073709551616 < a ∧ a < 18446744073709551616) : IntKind.wrap .i64 a = 0 ↔ a = 0 := by
 rw [wrapI]; split <;> omega
theorem sCall_yldN {P : Program} {id : Pa} {args : List AV} {h : T Blk} {nx : Pa} {K : Kw Prop} : sCall (CS P B) (.yld id) args h nx K = (CS P B).yld id args h nx K := nr rfl
section
variable {σ : Type} {h0 : T Blk} {n : Nat} {lines : List (List Int)} {s : Int} {f bu bf be bp bg : Pa} {id : Pa} {LC : Bool → σ → List Ob → Prop} {stp : σ → List Int → σ × Bool}
noncomputable abbrev cloN (n : Nat) (lines : List (List Int)) (s : Int) (bu bf be bp bg : Pa) : AV := .fn 138 (.of 138) [.fp [I n, encT lines], .ptr bg 0, .ptr bf 0, .ptr bu 0, .ptr be 0, .fp [I s], .ptr bp 0]
noncomputable abbrev Gn (n : Nat) (lines : List (List Int)) (s : Int) (f bu bf be bp bg id : Pa) (fl : List Int) (m : Nat) : List Ob :=
 [.arr f (fl.map I), .arr bu [Wd m], .arr bf [.sl f 0 n (some n) 1], .arr be [encTT (endS n lines)], .arr bp [cloN n lines s bu bf be bp bg], .arr bg [.yld id]]
def YC (B : Nat) (h0 : T Blk) (n : Nat) (lines : List (List Int)) (s : Int) (f bu bf be bp bg id : Pa) (LC : Bool → σ → List Ob → Prop) (stp : σ → List Int → σ × Bool) : Prop :=
 ∀ (st : σ) (fl : List Int) (m : Nat) (h : T Blk) (nx : Pa) (K : Kw Prop) (L : List Ob), fl.length = n → (∀ x ∈ fl, 1 ≤ x ∧ x ≤ (n : Int)) → LC true st L → Hp h0 h nx (Gn n lines s f bu bf be bp bg id fl m ++ L) → (∀ h' nx' L', LC (stp st fl).2 (stp st fl).1 L' → Hp h0 h' nx' (Gn n lines s f bu bf be bp bg id fl m ++ L') → K (.bool (stp st fl).2) h' nx' = .ok True) →
  (CS Tryz.prog B).yld id [.sl f 0 n (some n) 1] h nx K = .ok True
theorem all_congr' {α : Type} {F G : α → Bool} : ∀ {l : List α}, (∀ x ∈ l, F x = G x) → l.all F = l.all G
 | [], _ => rfl
 | a :: l, h => by rw [List.all_cons, List.all_cons, h a (by simp), all_congr' fun x hx => h x (by simp [hx])]
theorem place138 (hn9 : n ≤ 9) (hm : lines.length ≤ 1000) (hl : ∀ l ∈ lines, AscL n l ∧ l.length ≤ 1000) (hs : -9223372036854775808 ≤ s ∧ s ≤ 9223372036854775807) (hY : YC B h0 n lines s f bu bf be bp bg id LC stp) :
  ∀ (r : Nat) (pre fl : List Int) (st : σ) (p : Pa) (h : T Blk) (nx : Pa) (K : Kw Prop) (L : List Ob), pre.length + r = n → fl.length = n → fl.take pre.length = pre → (∀ v ∈ fl, 0 ≤ v ∧ v ≤ 9) → (∀ x ∈ pre, 1 ≤ x ∧ x ≤ (n : Int)) → LC true st L → Hp h0 h nx (Gn n lines s f bu bf be bp bg id fl (gH pre) ++ L) →
   (∀ fl' h' nx' L', fl'.length = n → fl'.take pre.length = pre → (∀ v ∈ fl', 0 ≤ v ∧ v ≤ 9) → LC (jZ stp st (jD lines s n r pre)).2 (jZ stp st (jD lines s n r pre)).1 L' → Hp h0 h' nx' (Gn n lines s f bu bf be bp bg id fl' (gH pre) ++ L') → K (.bool (jZ stp st (jD lines s n r pre)).2) h' nx' = .ok True) →
   (CS Tryz.prog B).fn 138 p [I pre.length, .fp [I n, encT lines], .ptr bg 0, .ptr bf 0, .ptr bu 0, .ptr be 0, .fp [I s], .ptr bp 0] h nx K = .ok True
 | 0, pre, fl, st, p, h, nx, K, L, hr, hfl, htk, hf9, hpre, hL, H, hK => by
  refine jI (p := .of 138) (K := K) (zP zZ dreg 1000 fun hf => ?_) fun _ _ _ _ q => q
  rw [F138.go, sFaddr_fp]
  show (zA (.fp (I n :: _)) h fun v2 => _) = _
  rw [sLoad_fp1']
  simp only [sEql, show (pre.length : Int) = (n : Int) by omega, decide_true, zC]
  rw [H.load (k := 5) (i := 0) rfl rfl, H.load (k := 2) (i := 0) rfl rfl, sCall_yldN]
  have e : fl = pre := by rw [← htk, List.take_of_length_le (by omega)]
  refine hY st fl (gH pre) h nx _ L hfl (by rw [e]; exact hpre) hL H fun h' nx' L' hL' H' => ?_
  have e2 : jZ stp st (jD lines s n 0 pre) = stp st fl := by
   rw [jD, jZ, ← e]
   cases c : (stp st fl).2 with
   | true => rw [if_pos rfl, jZ]; rw [← c]
   | false => rw [if_neg (by simp)]; rw [← c]
  rw [e2] at hK
  exact hK fl h' nx' L' hfl htk hf9 hL' H'
 | r + 1, pre, fl, st, p, h, nx, K, L, hr, hfl, htk, hf9, hpre, hL, H, hK => by
  refine jI (p := .of 138) (K := K) (zP zZ dreg 1000000 fun hf => ?_) fun _ _ _ _ q => q
  rw [F138.go, sFaddr_fp]
  show (zA (.fp (I n :: _)) h fun v2 => _) = _
  rw [sLoad_fp1']
  simp only [sEql, show ¬ (pre.length : Int) = (n : Int) by omega, decide_false, zB]
  let g : Int → List (List Int) := fun x => if x ∈ pre then [] else if okAt lines s pre.length (pre ++ [x]) then jD lines s n r (pre ++ [x]) else []
  have hg : jD lines s n (r + 1) pre = (upTo n).flatMap g := rfl
  have hpre0 : ∀ y ∈ pre, 0 ≤ y := fun y hy => by have := hpre y hy; omega
  have hpre60 : ∀ y ∈ pre, 0 ≤ y ∧ y ≤ 60 := fun y hy => by have := hpre y hy; omega
  refine F138.L2 (fun m z9 h' nx' => ∃ (x : Nat) (st' : σ) (fl : List Int) (L : List Ob), z9 = I x ∧ n + 1 - x = m ∧ 1 ≤ x ∧ x ≤ n + 1 ∧ jZ stp st (jD lines s n (r + 1) pre) = jZ stp st' (((upTo n).drop (x - 1)).flatMap g) ∧ fl.length = n ∧ fl.take pre.length = pre ∧ (∀ v ∈ fl, 0 ≤ v ∧ v ≤ 9) ∧ LC true st' L ∧ Hp h0 h' nx' (Gn n lines s f bu bf be bp bg id fl (gH pre) ++ L)) (m := n) (by omega)
   ⟨1, st, fl, L, rfl, by omega, by omega, by omega, by rw [hg]; rfl, hfl, htk, hf9, hL, H⟩ ?_
  clear hfl htk hf9 hL H
  rintro m z8 z9 z10 z11 z12 z13 z15 z16 z17 z18 z19 z20 z21 z22 z23 z24 z25 z26 h1 nx1 R ⟨x, st', fl, L, rfl, rfl, hx1, hx2, hfo, hfl, htk, hf9, hL, H⟩ hR
  rw [sFaddr_fp]
  show (zA (.fp (I n :: _)) h1 fun v2 => _) = _
  rw [sLoad_fp1']
  simp only [sLeq]
  by_cases hxn : x ≤ n
  case neg =>
   simp only [show ¬ (x : Int) ≤ (n : Int) by omega, decide_false, zB]
   rw [F138.k26]
   have e : (upTo n).drop (x - 1) = [] := List.drop_of_length_le (by simp; omega)
   rw [e] at hfo
   rw [hfo] at hK
   exact hK fl _ _ _ hfl htk hf9 hL H
  simp only [show (x : Int) ≤ (n : Int) by omega, decide_true, zC]
  have hdrop := upTo_drop hx1 hxn
  rw [hdrop, List.flatMap_cons] at hfo
  have next : ∀ z8 z10 z11 z12 z13 z15 z16 z17 z18 z19 z20 z21 z22 z23 z24 z25 z26 st2 fl2 h2 nx2 L2, jZ stp st (jD lines s n (r + 1) pre) = jZ stp st2 (((upTo n).drop x).flatMap g) → fl2.length = n → fl2.take pre.length = pre → (∀ v ∈ fl2, 0 ≤ v ∧ v ≤ 9) → LC true st2 L2 → Hp h0 h2 nx2 (Gn n lines s f bu bf be bp bg id fl2 (gH pre) ++ L2) →
    R (F138.fr (I pre.length) (.fp [I n, encT lines]) (.ptr bg 0) (.ptr bf 0) (.ptr bu 0) (.ptr be 0) (.fp [I s]) (.ptr bp 0) z8 (I ((x : Int) + 1)) z10 z11 z12 z13 (.bool false) z15 z16 z17 z18 z19 z20 z21 z22 z23 z24 z25 z26) h2 nx2 = .ok True :=
   fun z8 z10 z11 z12 z13 z15 z16 z17 z18 z19 z20 z21 z22 z23 z24 z25 z26 st2 fl2 h2 nx2 L2 q1 q2 q3 q4 q6 q5 =>
    hR (n + 1 - (x + 1)) _ _ _ _ _ _ _ _ _ _ _ _ _ _ _ _ _ _ _ _ (by omega) ⟨x + 1, st2, fl2, L2, rfl, rfl, by omega, by omega, by rw [Nat.add_sub_cancel]; exact q1, q2, q3, q4, q6, q5⟩
  rw [H.load (k := 1) (i := 0) rfl rfl, sShr (by omega)]
  have hml := mask_lt hpre60
  have hdl : gH pre / 2 ^ x ≤ gH pre := Nat.div_le_self _ _
  show (sBin .and .int (Wd (gH pre / 2 ^ x)) (Wd 1) fun v6 => sBin .eql .int v6 (Wd 1) fun v7 => _) = _
  rw [sAndOne (by omega), sEqlW, show (((1 : Nat) : Int)) = 1 from rfl, mask_test hpre0]
  by_cases hmem : (x : Int) ∈ pre
  ·simp only [hmem, decide_true, zC]
   rw [sAdd (by omega)]
   have e : g (x : Int) = [] := by show (if (x : Int) ∈ pre then [] else _) = _; rw [if_pos hmem]
   rw [e, List.nil_append] at hfo
   exact next _ _ _ _ _ _ _ _ _ _ _ _ _ _ _ _ _ _ _ _ _ _ hfo hfl htk hf9 hL H
  simp only [hmem, decide_false, zB]
  rw [H.load (k := 2) (i := 0) rfl rfl, sIx (i := pre.length) rfl (by omega)]
  refine H.store (k := 0) rfl (by simp; omega) rfl fun h2 H2 => ?_
  have H2 : Hp h0 h2 nx1 (Gn n lines s f bu bf be bp bg id (fl.set pre.length x) (gH pre) ++ L) := H2.cast (by show _ = Ob.arr f ((fl.set pre.length (x : Int)).map I) :: _; rw [List.map_set]; rfl)
  have hfl2 : (fl.set pre.length (x : Int)).length = n := by simpa using hfl
  have htk1 : (fl.set pre.length (x : Int)).take (pre.length + 1) = pre ++ [(x : Int)] := by
   rw [List.take_add_one, List.take_set_of_le (Nat.le_refl _), htk, List.getElem?_set, if_pos rfl, if_pos (by omega)]; rfl
  have htk2 : (fl.set pre.length (x : Int)).take pre.length = pre := by rw [List.take_set_of_le (Nat.le_refl _), htk]
  have hf92 : ∀ v ∈ fl.set pre.length (x : Int), 0 ≤ v ∧ v ≤ 9 := fun v hv => by
   rcases List.mem_or_eq_of_mem_set hv with q | rfl
   ·exact hf9 v q
   ·omega
  clear H hf9 htk hfl
  generalize fl.set pre.length (x : Int) = fl at *
  have hcell : pre.length < n := by omega
  have hends : (endS n lines)[pre.length]? = some (lines.filter fun l => decide (l.getLastD 0 = ((pre.length : Nat) : Int))) := by
   rw [endS, List.getElem?_map, List.getElem?_range hcell]; rfl
  have hel : (endS n lines).length = n := by simp [endS]
  have hendv : ((endS n lines).map encT)[pre.length]? = some (encT (lines.filter fun l => decide (l.getLastD 0 = ((pre.length : Nat) : Int)))) := by rw [List.getElem?_map, hends]; rfl
  rw [H2.load (k := 3) (i := 0) rfl rfl, sIxL (i := pre.length) rfl (by omega), ldL hendv]
  have hok : okAt lines s pre.length (pre ++ [(x : Int)]) = (lines.filter fun l => decide (l.getLastD 0 = ((pre.length : Nat) : Int))).all fun l => decide (yL l fl = s) := by
   unfold okAt
   refine all_congr' fun l hm' => ?_
   have hml := List.mem_filter.1 hm'
   have hlast : l.getLastD 0 = ((pre.length : Nat) : Int) := of_decide_eq_true hml.2
   rw [← htk1, lsum_take (fun c hc => ?_)]
   have := le_lastZ (hl l hml.1).1.2.1 c hc
   have := ((hl l hml.1).1.2.2 c hc).1
   omega
  have hle : ∀ l ∈ (lines.filter fun l => decide (l.getLastD 0 = ((pre.length : Nat) : Int))), AscL n l ∧ l.length ≤ 1000 := fun l hm' => hl l (List.mem_filter.1 hm').1
  have hll : (lines.filter fun l => decide (l.getLastD 0 = ((pre.length : Nat) : Int))).length ≤ 1000 := Nat.le_trans (List.length_filter_le _ _) hm
  generalize (lines.filter fun l => decide (l.getLastD 0 = ((pre.length : Nat) : Int))) = es at *
  simp only [zF]
  refine F138.L9 (fun m z19 h' nx' => ∃ j : Nat, z19 = I j ∧ es.length - j = m ∧ j ≤ es.length ∧ ((es.take j).all fun l => decide (yL l fl = s)) = true ∧ h' = h2 ∧ nx' = nx1) (m := es.length) (by omega) ⟨0, rfl, rfl, by omega, rfl, rfl, rfl⟩ ?_
  rintro m y10 y11 y12 y19 y20 y21 y22 y23 y24 y25 h2 nx1 R2 ⟨j, rfl, rfl, hj, hall, rfl, rfl⟩ hR2
  simp only [sLss]
  by_cases hjt : j < es.length
  ·simp only [show (j : Int) < (es.length : Int) by omega, decide_true, zC]
   obtain ⟨l, hxl⟩ : ∃ l, es[j]? = some l := ⟨_, List.getElem?_eq_getElem hjt⟩
   obtain ⟨hasc, hlw⟩ := hle l (List.mem_of_getElem? hxl)
   rw [sIxL rfl hjt, ldL (getT hxl)]
   show (zA (.fp (I s :: _)) h2 fun v4 => _) = _
   rw [sLoad_fp1']
   simp only [zF]
   refine F138.L15 (fun m z11 z23 h' nx' => ∃ k : Nat, z23 = I k ∧ z11 = I (IntKind.wrap .i64 (s - yL (l.take k) fl)) ∧ l.length - k = m ∧ k ≤ l.length ∧ h' = h2 ∧ nx' = nx1) (m := l.length) (by omega) ⟨0, rfl, by rw [show yL (l.take 0) fl = 0 from rfl, Int.sub_zero, uL hs], rfl, by omega, rfl, rfl⟩ ?_
   rintro m w11 w12 w23 w24 h2 nx1 R3 ⟨k, rfl, rfl, rfl, hk, rfl, rfl⟩ hR3
   simp only [sLss]
   by_cases hkt : k < l.length
   ·simp only [show (k : Int) < (l.length : Int) by omega, decide_true, zC]
    have hxk : l[k]? = some l[k] := List.getElem?_eq_getElem hkt
    obtain ⟨c0, c1⟩ := hasc.2.2 _ (List.getElem_mem hkt)
    have hv : (fl.map I)[(l[k]).toNat]? = some (I (fl.getD (l[k]).toNat 0)) := by
     rw [List.getElem?_map, List.getD_eq_getElem?_getD, List.getElem?_eq_getElem (by omega)]; rfl
    rw [sIxL rfl hkt, ldL (getI hxk), H2.load (k := 2) (i := 0) rfl rfl, sIx (i := (l[k]).toNat) (by omega) (by omega), H2.load (k := 0) rfl hv, sSubW, sAdd (by omega), wrap_sub]
    refine hR3 _ _ _ _ _ _ _ (by omega) ⟨k + 1, rfl, ?_, rfl, by omega, rfl, rfl⟩
    congr 2
    rw [List.take_add_one, hxk, Option.toList_some, lsum_snoc]; omega
   ·simp only [show ¬ (k : Int) < (l.length : Int) by omega, decide_false, zB]
    rw [List.take_of_length_le (l := l) (by omega), F138.k22]
    have hb := lsum_bd (M := 9) (fun v hv => by have := hf92 v hv; omega) l
    simp only [sNeq]
    have hz := wrap_zero (a := s - yL l fl) (by omega)
    by_cases hc : yL l fl = s
    ·simp only [hz.2 (by omega), decide_true, Bool.not_true, zB]
     rw [F138.k23, sAdd (by omega)]
     refine hR2 (es.length - (j + 1)) _ _ _ _ _ _ _ _ _ _ _ _ (by omega) ⟨j + 1, rfl, rfl, by omega, ?_, rfl, rfl⟩
     rw [List.take_add_one, hxl, List.all_append, hall]
     simp [hc]
    ·have hz2 : ¬ IntKind.wrap .i64 (s - yL l fl) = 0 := fun q => hc (by have := hz.1 q; omega)
     simp only [hz2, decide_false, Bool.not_false, zC]
     rw [F138.k25, sAdd (by omega)]
     have e : g (x : Int) = [] := by
      show (if (x : Int) ∈ pre then [] else if okAt lines s pre.length (pre ++ [(x : Int)]) then _ else []) = _
      rw [if_neg hmem, hok, if_neg]
      intro q
      exact hc (of_decide_eq_true (List.all_eq_true.1 q l (List.mem_of_getElem? hxl)))
     rw [e, List.nil_append] at hfo
     exact next _ _ _ _ _ _ _ _ _ _ _ _ _ _ _ _ _ _ _ _ _ _ hfo hfl2 htk2 hf92 hL H2
  ·simp only [show ¬ (j : Int) < (es.length : Int) by omega, decide_false, zB]
   rw [List.take_of_length_le (by omega)] at hall
   have e : g (x : Int) = jD lines s n r (pre ++ [(x : Int)]) := by
    show (if (x : Int) ∈ pre then [] else if okAt lines s pre.length (pre ++ [(x : Int)]) then _ else []) = _
    rw [if_neg hmem, hok, if_pos hall]
   rw [e] at hfo
   have hmx : ∀ y ∈ pre ++ [(x : Int)], 0 ≤ y ∧ y ≤ 60 := fun y hy => by
    rcases List.mem_append.1 hy with q | q
    ·exact hpre60 y q
    ·simp at q; omega
   have hp2 : 2 ^ x < 18446744073709551616 := by
    have : 2 ^ x ≤ 2 ^ 63 := Nat.pow_le_pow_right (by omega) (by omega)
    omega
   rw [F138.k24, H2.load (k := 1) (i := 0) rfl rfl]
   show (sBin .shl .int (Wd 1) (I (x : Int)) fun v2 => _) = _
   rw [sShlOne (by omega), sOrW hml hp2]
   refine H2.store (k := 1) rfl (by simp) rfl fun h3 H3 => ?_
   have e3 : gH pre ||| 2 ^ x = gH (pre ++ [(x : Int)]) := by rw [maskN_snoc]; rfl
   have H3 : Hp h0 h3 nx1 (Gn n lines s f bu bf be bp bg id fl (gH (pre ++ [(x : Int)])) ++ L) := H3.cast (by rw [e3]; rfl)
   rw [H3.load (k := 4) (i := 0) rfl rfl, sAdd (by omega), sCall_fn]
   have e4 : (pre.length : Int) + 1 = (((pre ++ [(x : Int)]).length : Nat) : Int) := by simp
   rw [e4]
   refine place138 hn9 hm hl hs hY r (pre ++ [(x : Int)]) fl st' _ _ _ _ L (by simp; omega) hfl2 (by rw [List.length_append]; exact htk1) hf92 (fun y hy => by
    rcases List.mem_append.1 hy with q | q
    ·exact hpre y q
    ·simp at q; omega) hL H3 fun fl' h4 nx4 L4 hfl' htk' hf9' hL4 H4 => ?_
   rw [H4.load (k := 1) (i := 0) rfl rfl]
   show (sBin .shl .int (Wd 1) (I (x : Int)) fun v13 => _) = _
   rw [sShlOne (by omega), sAndNotW (c := gH pre) (mask_lt hmx) hp2 hml (fun k => by
    have := mask_off hpre0 (show (0 : Int) ≤ x by omega) hmem k
    rw [Int.toNat_natCast] at this
    exact this)]
   refine H4.store (k := 1) rfl (by simp) rfl fun h5 H5 => ?_
   have H5 : Hp h0 h5 nx4 (Gn n lines s f bu bf be bp bg id fl' (gH pre) ++ L4) := H5
   have htk3 : fl'.take pre.length = pre := by
    have := congrArg (List.take pre.length) htk'
    rw [List.take_take, List.length_append, Nat.min_eq_left (by omega), List.take_left] at this
    exact this
   rw [foldE_app] at hfo
   simp only [zO]
   cases c : (jZ stp st' (jD lines s n r (pre ++ [(x : Int)]))).2 with
   | true =>
    rw [c, if_pos rfl] at hfo
    rw [c] at hL4
    simp only [Bool.not_true, zB]
    rw [F138.k25, sAdd (by omega)]
    exact next _ _ _ _ _ _ _ _ _ _ _ _ _ _ _ _ _ _ _ _ _ _ hfo hfl' htk3 hf9' hL4 H5
   | false =>
    rw [c, if_neg (by simp)] at hfo
    simp only [Bool.not_false, zC]
    rw [hfo] at hK
    rw [c] at hK hL4
    exact hK fl' _ _ _ hfl' htk3 hf9' hL4 H5
theorem perm6 {α : Type} (a b c d e g : α) (L : List α) : ([a, b, c, d, e, g] ++ L).Perm ([e, b, d, c, a, g] ++ L) := by
 refine List.Perm.append_right L ?_
 have h : [0, 1, 2, 3, 4, 5].Perm [4, 1, 3, 2, 0, 5] := by decide
 exact h.map fun i => [a, b, c, d, e, g].getD i a
theorem normal107 {cells : Nat} {lines : List (List Int)} {s : Int} : Pure Tryz.prog B 107 [.agg [I cells, encT lines], I s] (· = .fn 136 (.of 136) [.fp [I cells, encT lines], .fp [I s]]) := by
 refine yV fun h nx K H0 hK => zP zZ dreg 100 fun hf => ?_
 rw [F107.go]
 refine H0.box (l := [I cells, encT lines]) rfl fun b1 h1 nx1 H1 => ?_
 refine H1.box (l := [I s]) rfl fun b2 h2 nx2 H2 => ?_
 have fz : ∀ (k : Nat) (b : Pa) (l : List AV), [Ob.arr b2 [I s], Ob.arr b1 [I cells, encT lines]][k]? = some (.arr b l) → (∀ v ∈ l, fixd v = true) → FrzN h h2 (.ptr b 0) (.fp l) := fun k b l hk hl => by
  have hm := List.mem_of_getElem? hk
  obtain ⟨op, t, g1, g2⟩ := H2.own _ hm
  refine .ptr _ _ op _ t _ (H2.off b (List.mem_flatMap.2 ⟨_, hm, by simp [Ob.names]⟩)) g1 (by omega) (List.all_eq_true.2 fun v hv => fixd.scal (hl v hv)) fun i v hv => ?_
  have := yO t 0 l.length i (List.getElem?_eq_some_iff.1 hv).1
  rw [g2, hv] at this
  rw [← Option.some.inj this]
  exact yB (hl v (List.mem_of_getElem? hv))
 refine hK _ _ _ _ (.fn 136 (.of 136) [.fp [I cells, encT lines], .fp [I s]]) H2 (.fn _ _ _ _ rfl fun i v v' q1 q2 => ?_) rfl
 match i with
 | 0 =>
  simp only [List.getElem?_cons_zero, Option.some.injEq] at q1 q2
  subst q1 q2
  refine fz 1 b1 _ rfl fun v hv => ?_
  simp only [List.mem_cons, List.not_mem_nil, or_false] at hv
  rcases hv with rfl | rfl
  ·rfl
  ·exact fixd_encT lines
 | 1 =>
  simp only [List.getElem?_cons_succ, List.getElem?_cons_zero, Option.some.injEq] at q1 q2
  subst q1 q2
  exact fz 0 b2 _ rfl fun v hv => by simp only [List.mem_cons, List.not_mem_nil, or_false] at hv; subst hv; rfl
 | i + 2 => simp at q1
theorem normal136 {p : Pa} {h : T Blk} {nx : Pa} {K : Kw Prop} {L : List Ob} {st : σ} (hn9 : n ≤ 9) (hm : lines.length ≤ 1000) (hl : ∀ l ∈ lines, AscL n l ∧ l.length ≤ 1000) (hs : -9223372036854775808 ≤ s ∧ s ≤ 9223372036854775807) (hY : ∀ f bu bf be bp bg, YC B h0 n lines s f bu bf be bp bg id LC stp)
  (hL : LC true st L) (H : Hp h0 h nx L) (hK : ∀ h' nx' L', LC (jZ stp st (jD lines s n n [])).2 (jZ stp st (jD lines s n n [])).1 L' → Hp h0 h' nx' L' → K (.tup []) h' nx' = .ok True) : (CS Tryz.prog B).fn 136 p [.yld id, .fp [I n, encT lines], .fp [I s]] h nx K = .ok True := by
 refine jI (p := .of 136) (K := K) (zP zZ dreg 1000 fun hf => ?_) fun _ _ _ _ q => q
 rw [F136.go]
 refine H.box (l := [.yld id]) rfl fun bg h1 nx1 H1 => ?_
 rw [sFaddr_fp]
 show (zA (.fp (I n :: _)) h1 fun v2 => _) = _
 rw [sLoad_fp1']
 refine H1.mk1 n rfl rfl (by omega) (by decide) fun f h2 nx2 H2 => ?_
 refine H2.alloc fun bf h3 nx3 H3 => ?_
 refine H3.store (k := 0) rfl (by decide) rfl fun h4 H4 => ?_
 rw [sLoadN_fp2]
 refine ended137 (by omega) hm hl _ _ _ _ ?_
 rintro _ rfl _
 refine H4.alloc fun be h5 nx5 H5 => ?_
 refine H5.store (k := 0) rfl (by decide) rfl fun h6 H6 => ?_
 refine H6.alloc fun bu h7 nx7 H7 => ?_
 refine H7.alloc fun bp h8 nx8 H8 => ?_
 refine H8.store (k := 0) rfl (by decide) rfl fun h9 H9 => ?_
 rw [H9.load (k := 0) (i := 0) rfl rfl, sCall_fn]
 have hz : List.replicate n (I 0) = (List.replicate n (0 : Int)).map I := by simp
 rw [hz] at H9
 have H10 : Hp h0 h9 nx8 (Gn n lines s f bu bf be bp bg id (List.replicate n 0) (gH []) ++ L) := H9.perm (perm6 _ _ _ _ _ _ L)
 refine place138 hn9 hm hl hs (hY f bu bf be bp bg) n [] (List.replicate n 0) st _ _ _ _ L (by simp) (by simp) (by simp) (by intro v hv; simp at hv; omega) (by simp) hL H10 fun fl' h11 nx11 L' _ _ _ hL' H11 => ?_
 exact hK _ _ _ hL' H11.drop.drop.drop.drop.drop.drop
end
end Go.Ev
namespace Go.Ev
open Go Go.Proofs
variable {B : Nat}
theorem Hp.copyArr {h0 h : T Blk} {nx : Pa} {L : List Ob} {K : AV → T Blk → Pa → OP} {z w : AV} {new : List AV} {c bytes : Nat} (H : Hp h0 h nx L) (hr : ∀ h1, Keeps h0 h1 → ∀ (no : OP) (K' : List AV → Nat → OP), readSl w h1 no K' = K' new c) (hl : new.length = c) (hs : new.all scal = true) (hb : bytes * 1000000 ≤ 70368744177664) (hc : c ≤ 1000000)
  (hK : ∀ id cap h' nx', capLe c cap → Hp h0 h' nx' (.arr id new :: L) → K (.sl id 0 c cap 1) h' nx' = .ok True) :
  (yX 1 0 [z] [] h nx fun v1 h1 n1 => sApp 1 bytes v1 w h1 n1 K) = .ok True := by
 refine H.bslice (l := []) rfl fun e h1 n1 H1 => ?_
 unfold sApp appA
 rw [hr _ H1.keep]
 have hcc : (Nat.ble (bytes * 1000000) 70368744177664 && Nat.beq new.length (c * 1) && Nat.ble 1 1 && new.all scal) = true := by
  simp only [Bool.and_eq_true, hs, and_true]
  exact ⟨⟨Nat.ble_eq_true_of_le hb, by rw [hl, Nat.mul_one]; exact Nat.beq_refl _⟩, rfl⟩
 rw [hcc, cond_true]
 obtain ⟨op, t, g1, g2⟩ : HasArr h1 e [] := H1.own _ (List.mem_cons_self ..)
 show (bif Nat.beq 1 1 && Nat.ble (0 + c) 1000000 then asCells (T.get .no e h1) _ (.no 35) else .no 36) = _
 rw [g1, Nat.ble_eq_true_of_le (by omega)]
 show (bif Nat.ble (0 + c) 0 then (bif Nat.ble (0 + (0 + c) * 1) 0 then appIn e 0 0 (some 0) 1 op 0 t new c h1 n1 _ else .no 32) else appNew 0 0 1 t new c h1 n1 _) = _
 by_cases hc0 : c = 0
 ·subst hc0
  obtain rfl : new = [] := List.eq_nil_of_length_eq_zero hl
  rw [show Nat.ble (0 + 0) 0 = true from rfl, cond_true, cond_true]
  unfold appIn
  rw [jA, T.setK_eq, yN]
  exact hK e (some 0) _ _ (Nat.le_refl _) (H1.upd (k := 0) (x' := .arr e []) rfl (by simp [Ob.names]) rfl ⟨op, _, T.get_set_same _ _ _ _, rfl⟩)
 ·rw [bleF (by omega), cond_false]
  unfold appNew
  rw [yM, yN]
  rw [Nat.zero_add]
  have H2 : Hp h0 (T.set .no (.cells true new.length (jF new .e 0)) n1 h1) n1.succ (.arr n1 new :: L) :=
   Hp.new (x := .arr n1 new) H1.drop rfl fun h' q => ⟨_, _, q, wrList_all new⟩
  exact hK n1 none _ _ trivial H2
theorem deg95 {cells : Nat} {lines : List (List Int)} (hcl : cells ≤ 256) (hn : lines.length ≤ 128) (hl : ∀ l ∈ lines, l.length ≤ 1000 ∧ ∀ c ∈ l, 0 ≤ c ∧ c < (cells : Int)) : Pure Tryz.prog B 95 [.agg [I cells, encT lines]] (· = encI (degS cells lines)) := by
 refine yV fun h nx K H0 hK => zP zZ dreg 10000000 fun hf => ?_
 rw [F95.go]
 refine H0.box (l := [I cells, encT lines]) rfl fun bx h1 nx1 H1 => ?_
 rw [sFx, H1.load (k := 0) (i := 0) rfl rfl]
 refine H1.mk1 cells rfl rfl (by omega) (by decide) fun o h2 nx2 H2 => ?_
 rw [sFx, H2.load (k := 1) (i := 0 + 1) rfl rfl]
 simp only [zF]
 have hz : List.replicate cells (I 0) = (List.replicate cells (0 : Int)).map I := by simp
 rw [hz] at H2
 have hbd : ∀ i, i ≤ lines.length → Bd (degS cells (lines.take i)) (i * 1000) := fun i hi => by
  have := degS_bd (cells := cells) (W := 1000) (lines := lines.take i) fun l hm => by
   obtain ⟨q1, q2⟩ := hl l (List.mem_of_mem_take hm)
   exact ⟨q1, fun c hc => by have := q2 c hc; omega⟩
  rw [List.length_take, Nat.min_eq_left hi] at this
  exact this
 refine F95.L1 (fun m z8 h' nx' => ∃ i : Nat, z8 = I i ∧ lines.length - i = m ∧ i ≤ lines.length ∧ Hp h h' nx' [.arr o ((degS cells (lines.take i)).map I), .arr bx [I cells, encT lines]]) (m := lines.length) (by omega) ⟨0, rfl, rfl, by omega, H2⟩ ?_
 rintro m z4 z5 z8 z9 z10 z11 z12 z13 h3 nx3 R ⟨i, rfl, rfl, hi, H3⟩ hR
 simp (disch := omega) only [sAdd, sSub, sMul, sEql, sNeq, sLss, sLeq, sGtr, sGeq, zK, zI, zC, zB, yC, zY, yE, yF, zO, yD, yA, yI, zT, zS, zR, zF, zM, zJ, zD, decide_true, decide_false, Bool.not_true, Bool.not_false, zV]
 by_cases hlt : i < lines.length
 case neg =>
  simp only [show ¬ (i : Int) < (lines.length : Int) by omega, decide_false, zB]
  rw [F95.k15]
  rw [List.take_of_length_le (by omega)] at H3
  refine hK _ _ _ _ _ H3 (H3.frzArr (k := 0) rfl (Nat.le_refl _) (by simp [jW]) (fun v hv => by obtain ⟨x, _, rfl⟩ := List.mem_map.1 hv; rfl)) ?_
  show _ = AV.lst 1 _ _
  rw [jW]
 simp only [show (i : Int) < (lines.length : Int) by omega, decide_true, zC]
 obtain ⟨l, hx⟩ : ∃ l, lines[i]? = some l := ⟨_, List.getElem?_eq_getElem hlt⟩
 obtain ⟨hlw, hlc⟩ := hl l (List.mem_of_getElem? hx)
 have htake : lines.take (i + 1) = lines.take i ++ [l] := by rw [List.take_add_one, hx]; rfl
 have hds : degS cells (lines.take (i + 1)) = l.foldl incr (degS cells (lines.take i)) := by rw [degS, htake, List.foldl_append]; rfl
 rw [sIxL rfl hlt, ldL (getT hx)]
 simp (disch := omega) only [sAdd, sSub, sMul, sEql, sNeq, sLss, sLeq, sGtr, sGeq, zK, zI, zC, zB, yC, zY, yE, yF, zO, yD, yA, yI, zT, zS, zR, zF, zM, zJ, zD, decide_true, decide_false, Bool.not_true, Bool.not_false, zV]
 refine F95.L7 (fun m z12 h' nx' => ∃ k : Nat, z12 = I k ∧ l.length - k = m ∧ k ≤ l.length ∧ Hp h h' nx' [.arr o (((l.take k).foldl incr (degS cells (lines.take i))).map I), .arr bx [I cells, encT lines]]) (m := l.length) (by omega) ⟨0, rfl, rfl, by omega, H3⟩ ?_
 rintro m y5 y12 y13 h4 nx4 R2 ⟨k, rfl, rfl, hk, H4⟩ hR2
 simp (disch := omega) only [sAdd, sSub, sMul, sEql, sNeq, sLss, sLeq, sGtr, sGeq, zK, zI, zC, zB, yC, zY, yE, yF, zO, yD, yA, yI, zT, zS, zR, zF, zM, zJ, zD, decide_true, decide_false, Bool.not_true, Bool.not_false, zV]
 by_cases hkt : k < l.length
 case neg =>
  simp only [show ¬ (k : Int) < (l.length : Int) by omega, decide_false, zB]
  rw [F95.k14]
  try rw [sAdd (by omega)]
  rw [List.take_of_length_le (l := l) (by omega), ← hds] at H4
  exact hR _ _ _ _ _ _ _ _ _ _ _ (by omega) ⟨i + 1, rfl, rfl, by omega, H4⟩
 simp only [show (k : Int) < (l.length : Int) by omega, decide_true, zC]
 have hxk : l[k]? = some l[k] := List.getElem?_eq_getElem hkt
 obtain ⟨c0, c1⟩ := hlc _ (List.getElem_mem hkt)
 have hlen : ((l.take k).foldl incr (degS cells (lines.take i))).length = cells := by rw [gN, jW]
 have hbk : Bd ((l.take k).foldl incr (degS cells (lines.take i))) (i * 1000 + 1000) := (hbd i hi).line (fun c hc => by rw [jW]; have := hlc c (List.mem_of_mem_take hc); omega) (by rw [List.length_take]; omega)
 have hfd : (l.take (k + 1)).foldl incr (degS cells (lines.take i)) = incr ((l.take k).foldl incr (degS cells (lines.take i))) l[k] := by
  rw [List.take_add_one, hxk, List.foldl_append]; rfl
 generalize hd : (l.take k).foldl incr (degS cells (lines.take i)) = d at *
 have hv : (d.map I)[(l[k]).toNat]? = some (I (d.getD (l[k]).toNat 0)) := by
  rw [List.getElem?_map, List.getD_eq_getElem?_getD, List.getElem?_eq_getElem (by omega)]; rfl
 have hvb : 0 ≤ d.getD (l[k]).toNat 0 ∧ d.getD (l[k]).toNat 0 ≤ ((i * 1000 + 1000 : Nat) : Int) := by
  rw [List.getD_eq_getElem?_getD, List.getElem?_eq_getElem (by omega)]
  exact hbk _ (List.getElem_mem _)
 rw [sIxL rfl hkt, ldL (getI hxk), sIx (i := (l[k]).toNat) (by omega) (by omega), H4.load (k := 0) rfl hv, sAdd (by omega), sIx (i := (l[k]).toNat) (by omega) (by omega)]
 refine H4.store (k := 0) rfl (by simp; omega) rfl fun h5 H5 => ?_
 refine hR2 _ _ _ _ _ _ (by omega) ⟨k + 1, rfl, rfl, by omega, H5.cast ?_⟩
 rw [hfd, incr, List.map_set]; rfl
end Go.Ev
namespace Go.Ev
open Go Go.Proofs
variable {B : Nat}
theorem sorted85 {l : List Int} (hl : l.length ≤ 100000) : Pure Tryz.prog B 85 [encI l] (· = encI (srt l)) := by
 refine yV fun h nx K H0 hK => zP zZ dreg 10000000 fun hf => ?_
 rw [F85.go]
 refine H0.copyArr (new := l.map I) (c := l.length) (fun h1 _ => rdLst 1) (by simp) (by simp [List.all_eq_true, scal]) (by decide) (by omega) fun id cap h1 nx1 hcap H1 => ?_
 refine F85.L1 (fun m z3 h' nx' => ∃ (i : Nat) (out : List Int), z3 = I i ∧ l.length + 1 - i = m ∧ 1 ≤ i ∧ i ≤ l.length + 1 ∧ out.Perm l ∧ (out.take i).Pairwise (· ≤ ·) ∧ Hp h h' nx' [.arr id (out.map I)]) (m := l.length) (by omega) ⟨1, l, rfl, by omega, by omega, by omega, .refl _, by cases l <;> simp, H1⟩ ?_
 rintro m z3 z4 z5 z6 h2 nx2 R ⟨i, out, rfl, rfl, hi1, hi, hp, hs, H2⟩ hR
 have hlo : out.length = l.length := hp.length_eq
 simp only [zM, sLss]
 by_cases hlt : i < l.length
 case neg =>
  simp only [show ¬ (i : Int) < (l.length : Int) by omega, decide_false, zB]
  rw [F85.k15]
  rw [List.take_of_length_le (by omega)] at hs
  obtain rfl := srt_unique hp hs
  refine hK _ _ _ _ _ H2 (H2.frzArr (k := 0) rfl hcap (by simp [hlo]) (fun v hv => by obtain ⟨x, _, rfl⟩ := List.mem_map.1 hv; rfl)) ?_
  show _ = AV.lst 1 _ _
  rw [hlo]
 simp only [show (i : Int) < (l.length : Int) by omega, decide_true, zC]
 refine F85.L7 (fun m z4 h' nx' => ∃ (k : Nat) (out : List Int), z4 = I k ∧ k = m ∧ k ≤ i ∧ Ins l out i k ∧ Hp h h' nx' [.arr id (out.map I)]) (m := i) (by omega) ⟨i, out, rfl, rfl, Nat.le_refl _, .start hp (by omega) hs, H2⟩ ?_
 clear hs hp hlo H2
 rintro m y4 y6 h3 nx3 R2 ⟨k, out, rfl, rfl, hk, hin, H3⟩ hR2
 have hlo : out.length = l.length := hin.perm.length_eq
 have stop : ∀ (E0 : Ks Prop) w6, (k = 0 ∨ ∃ j a x, k = j + 1 ∧ out[j]? = some a ∧ out[k]? = some x ∧ ¬ x < a) → IR.run F85.b14 (CS Tryz.prog B) 10000000 ((fnO F85.res K).blk 0 E0) R (F85.fr (encI l) .nils (.sl id 0 l.length cap 1) (I i) (I k) (.bool true) w6) h3 nx3 = .ok True := by
  intro E0 w6 hst
  obtain ⟨q1, q2⟩ := hin.done hst
  rw [F85.k14]
  rw [sAdd (by omega)]
  exact hR (l.length + 1 - (i + 1)) _ _ _ _ _ _ (by omega) ⟨i + 1, out, rfl, rfl, by omega, by omega, q1, q2, H3⟩
 simp only [sGtr]
 cases k with
 | zero =>
  simp only [show ¬ (0 : Int) < ((0 : Nat) : Int) by omega, decide_false, yF, zI, zB]
  exact stop _ _ (.inl rfl)
 | succ k =>
  have hx1 : out[k + 1]? = some out[k + 1] := List.getElem?_eq_getElem (by omega)
  have hx0 : out[k]? = some out[k] := List.getElem?_eq_getElem (by omega)
  simp only [show (0 : Int) < ((k + 1 : Nat) : Int) by omega, decide_true, yC]
  rw [sIx (i := k + 1) rfl (by omega), H3.load (k := 0) rfl (getI hx1), sSub (by omega), sIx (i := k) (by omega) (by omega), H3.load (k := 0) rfl (getI hx0)]
  simp only [sLss]
  by_cases hc : out[k + 1] < out[k]
  ·simp only [hc, decide_true, zK, zC]
   rw [F85.k10, sSub (by omega), sSub (by omega), sIx (i := k) (by omega) (by omega), H3.load (k := 0) rfl (getI hx0), sIx (i := k + 1) rfl (by omega), H3.load (k := 0) rfl (getI hx1), sIx (i := k + 1) rfl (by omega)]
   refine H3.store (k := 0) rfl (by simp; omega) rfl fun h4 H4 => ?_
   try rw [sSub (by omega)]
   simp only [zD]
   rw [sIx (i := k) (by omega) (by omega)]
   refine H4.store (k := 0) rfl (by simp; omega) rfl fun h5 H5 => ?_
   try rw [sSub (by omega)]
   rw [show ((k + 1 : Nat) : Int) - 1 = (k : Int) by omega]
   refine hR2 k _ _ _ _ (by omega) ⟨k, (out.set (k + 1) out[k]).set k out[k + 1], rfl, rfl, by omega, hin.swap hx0 hx1 hc, H5.cast ?_⟩
   simp [List.map_set]
  ·simp only [hc, decide_false, zK, zB]
   exact stop _ _ (.inr ⟨k, _, _, rfl, hx0, hx1, hc⟩)
end Go.Ev
namespace Go.Ev
open Go Go.Proofs
variable {B : Nat}
theorem sLoad_fp1 {h : T Blk} (a : AV) (l : List AV) (K : AV → OP) : zA (.fp (a :: l)) h K = K a := nr rfl
theorem sCall_yld {P : Program} {id : Pa} {args : List AV} {h : T Blk} {nx : Pa} {K : Kw Prop} : sCall (CS P B) (.yld id) args h nx K = (CS P B).yld id args h nx K := nr rfl
theorem iter153 {h : T Blk} {nx : Pa} {p id : Pa} {l : List Int} {K : Kw Prop} (J : Nat → T Blk → Pa → Prop) (hl : l.length ≤ 1000000) (hJ : J 0 h nx)
  (step : ∀ (i : Nat) (x : Int) (h : T Blk) (nx : Pa) (K : Kw Prop), l[i]? = some x → J i h nx → Fr h nx → (∀ h' nx', J (i + 1) h' nx' → K (.bool true) h' nx' = .ok True) → (CS Tryz.prog B).yld id [I x] h nx K = .ok True)
  (fr : ∀ i h nx, J i h nx → Fr h nx) (hK : ∀ h' nx', J l.length h' nx' → K (.tup []) h' nx' = .ok True) : (CS Tryz.prog B).fn 153 p [.yld id, .fp [encI l]] h nx K = .ok True := by
 refine jI (p := .of 153) (K := K) (zP zZ dreg 10000000 fun hf => ?_) fun _ _ _ _ q => q
 rw [F153.go, sLoad_fp1]
 simp only [zF]
 refine F153.L1 (fun m z5 h' nx' => ∃ i : Nat, z5 = I i ∧ l.length - i = m ∧ i ≤ l.length ∧ J i h' nx') (m := l.length) (by omega) ⟨0, rfl, rfl, by omega, hJ⟩ ?_
 rintro m z2 z5 z6 z7 h1 nx1 R ⟨i, rfl, rfl, hi, hJ1⟩ hR
 simp (disch := omega) only [sAdd, sSub, sMul, sEql, sNeq, sLss, sLeq, sGtr, sGeq, zK, zI, zC, zB, yC, zY, yE, yF, zO, yD, yA, yI, zT, zS, zR, zF, zM, zJ, zD, decide_true, decide_false, Bool.not_true, Bool.not_false, zV]
 by_cases hlt : i < l.length
 ·simp only [show (i : Int) < (l.length : Int) by omega, decide_true, zC]
  have hx : l[i]? = some l[i] := List.getElem?_eq_getElem hlt
  rw [sIxL rfl hlt, ldL (getI hx), sCall_yld]
  refine step i _ _ _ _ hx hJ1 (fr _ _ _ hJ1) fun h2 nx2 hJ2 => ?_
  simp only [zO, Bool.not_true, zB]
  try rw [sAdd (by omega)]
  exact hR _ _ _ _ _ _ _ (by omega) ⟨i + 1, rfl, rfl, by omega, hJ2⟩
 ·simp only [show ¬ (i : Int) < (l.length : Int) by omega, decide_false, zB]
  obtain rfl : i = l.length := by omega
  exact hK _ _ hJ1
theorem Hp.addGro {h0 h : T Blk} {nx : Pa} {L : List Ob} (H : Hp h0 h nx L) (e : Nat) : Hp h0 h nx (.gro none e 0 [] :: L) :=
  ⟨H.keep, fun x hx => by rcases List.mem_cons.1 hx with rfl | q; · exact ⟨rfl, rfl⟩
                          · exact H.own x q, fun n hn => H.off n (by simpa [Ob.names] using hn), by have := H.nd; simpa [Ob.names] using this, H.fr⟩
theorem getLoop {h0 h : T Blk} {nx : Pa} {L : List Ob} {id : Pa} {b : Blk} {k : Nat} (H : Hp h0 h nx L) (hk : L[k]? = some (.raw id b)) : T.get .no id h = b := (H.own _ (List.mem_of_getElem? hk)).1
theorem Hp.setRaw {h0 h : T Blk} {nx : Pa} {L : List Ob} {id : Pa} {b b' : Blk} {k : Nat} (H : Hp h0 h nx L) (hk : L[k]? = some (.raw id b)) (hb : b' ≠ .no) : Hp h0 (T.set .no b' id h) nx (L.set k (.raw id b')) :=
 H.upd hk (by simp [Ob.names]) rfl ⟨T.get_set_same _ _ _ _, hb⟩
theorem append173 {h0 h : T Blk} {nx : Pa} {L : List Ob} {p q : Pa} {l : List Int} {K : Kw Prop} (hl : l.length ≤ 100000) (H : Hp h0 h nx L)
  (hK : ∀ o h' nx', Hp h0 h' nx' (.gro o 1 l.length (l.map I) :: L) → K (rowV o 1 l.length) h' nx' = .ok True) : (CS Tryz.prog B).fn 173 p [.nils, .fn 153 q [.fp [encI l]]] h nx K = .ok True := by
 refine jI (p := .of 173) (K := K) (zP zZ dreg 10000000 fun hf => ?_) fun _ _ _ _ q => q
 rw [F173.go]
 refine H.box (l := [.nils]) rfl fun bx h1 nx1 H1 => ?_
 refine H1.rf (g := 153) (p := q) (cap := [.fp [encI l]]) rfl fun id h2 nx2 H2 => ?_
 refine iter153 (fun i h' nx' => ∃ o, Hp h0 h' nx' (.raw id (.loop .ready .none (F173.fr .nils (.fn 153 q [.fp [encI l]]) (.ptr bx 0) .nils .undef (.fn 153 q [.fp [encI l]]) .undef) [.of 6] F173.b3 F173.b4) :: .arr bx [rowV o 1 i] :: .gro o 1 i ((l.take i).map I) :: L)) (by omega) ⟨none, ?_⟩ ?_ (fun _ _ _ ⟨_, q⟩ => q.fr) ?_
 ·have := H2.addGro 1
  exact this.perm ((List.Perm.swap _ _ _).trans (.cons _ (.swap _ _ _)))
 ·rintro i x h3 nx3 K3 hx ⟨o, H3⟩ _ hnext
  have hi : i < l.length := (List.getElem?_eq_some_iff.1 hx).1
  refine by_round (fns := tbl) dreg 100 fun hf => ?_
  rw [F173.y4 (getLoop H3 (k := 0) rfl) rfl]
  have H4 := H3.setRaw (k := 0) rfl (b' := .loop .busy .none (F173.fr .nils (.fn 153 q [.fp [encI l]]) (.ptr bx 0) .nils .undef (.fn 153 q [.fp [encI l]]) .undef) [.of 6] F173.b3 F173.b4) (by intro e; cases e)
  rw [H4.load (k := 1) (i := 0) rfl rfl]
  refine H4.bslice (l := [I x]) rfl fun e5 h5 nx5 H5 => ?_
  refine H5.appN (k := 3) (o := o) (c := 1) (new := [I x]) rfl (HasArr.rd (l := [I x]) (n := 1) (H5.own _ (List.mem_cons_self ..)) rfl) rfl rfl (by decide) (by decide) (by omega) fun o' h6 nx6 ho H6 => ?_
  refine H6.store (k := 2) rfl (by simp) (rowV_cells _ _ _) fun h7 H7 => ?_
  refine H7.rend (k := 1) rfl fun h8 H8 => ?_
  refine hnext _ _ ⟨o', (H8.drop).cast ?_⟩
  have e1 : (l.take (i + 1)).map I = (l.take i).map I ++ [I x] := by rw [List.take_add_one, hx]; simp
  rw [e1]; rfl
 ·rintro h3 nx3 ⟨o, H3⟩
  rw [List.take_length] at H3
  refine H3.rfEnd fun h4 H4 => ?_
  rw [rfEnd_on, F173.k6, H4.load (k := 0) (i := 0) rfl rfl]
  exact hK _ _ _ H4.drop
theorem values126 {l : List Int} : Pure Tryz.prog B 126 [encI l] (· = .fn 153 (.of 153) [.fp [encI l]]) := by
 refine yV fun h nx K H0 hK => zP zZ dreg 10000000 fun hf => ?_
 rw [F126.go]
 refine H0.box (l := [encI l]) rfl fun bx h1 nx1 H1 => ?_
 obtain ⟨op, t, g1, g2⟩ : HasArr h1 bx [encI l] := H1.own _ (List.mem_cons_self ..)
 refine hK _ _ _ _ (.fn 153 (.of 153) [.fp [encI l]]) H1 (.fn _ _ _ _ rfl fun i v v' h2 h3 => ?_) rfl
 match i with
 | 0 =>
  simp only [List.getElem?_cons_zero, Option.some.injEq] at h2 h3
  subst h2 h3
  refine .ptr _ _ op _ t _ (H1.off bx (by simp [Ob.names])) g1 (by simp) (by simp [scal]) fun i v hv => ?_
  match i with
  | 0 =>
   simp only [List.getElem?_cons_zero, Option.some.injEq] at hv
   subst hv
   have := yO t 0 1 0 (by omega)
   have g2 : yS t 0 1 = [encI l] := g2
   rw [g2] at this
   simp only [List.getElem?_cons_zero, Option.some.injEq] at this
   rw [← this]
   exact yB (fixd_encI l)
  | i + 1 => simp at hv
 | i + 1 => simp at h2
end Go.Ev
