import Derived.Test.YtepfaegpjddehaaGreatDoorEvD
import Derived.Deep.Matrix
import Derived.Lib.SmallJoins
import Derived.Test.YtepfaegpjddehaaGreatDoorCode
import GoSem.Core.Next
import Derived.Lib.Small
import Derived.Lib.Walk
import Derived.Deep.Draws
import Derived.Lib.Agree
import Derived.Shelf.SlLaysF
import Derived.Shelf.RegionOpenPlain
import Derived.WalkKit
import Derived.Deep.LoopGhost
import Derived.Test.YtepfaegpjddehaaGreatDoorProg
import Derived.Test.YtepfaegpjddehaaGreatDoorLaws
import Derived.Shelf.SlGeneric
import Derived.Ground.SlsfProg
import Derived.Shelf.SlSortCmp.Whole1
import Derived.Deep.Slices
set_option linter.unusedSimpArgs false
set_option linter.unusedVariables false
namespace Go.Ev
open Go Go.RowKit Go.ChangeShapes Go.WideShapes Go.Deep Go.Joins
variable {H : Type} {enc : TypeId × Value → H} {P : Program}
theorem uJ {w : World} {a : Addr} {i : Nat} {v : Value} (h : w.cell? (a.add i) = some v) : a = ⟨a.block, a.off, a.spot⟩ ∧ (i = 0 → a.spot = none) ∧ uE w a.block (a.off + i) = some v := by
 unfold Addr.add at h
 by_cases hi : i = 0
 ·subst hi
  rw [if_pos rfl] at h
  unfold World.cell? at h
  split at h
  ·rename_i c ty fr hb
   split at h
   ·cases h
   ·rename_i hs
    refine ⟨rfl, fun _ => by cases e : a.spot <;> simp_all, ?_⟩
    simp [uE, hb, h]
  ·cases h
 ·rw [if_neg hi] at h
  unfold World.cell? at h
  split at h
  ·rename_i c ty fr hb
   refine ⟨rfl, fun q => absurd q hi, ?_⟩
   simp at h hb
   simp [uE, hb, h]
  ·cases h
theorem VRF_mk {E : Env} {b : Nat} : ∀ {l : List AV} {off : Nat}, (∀ i a, l[i]? = some a → ∃ v, E.fz b (off + i) = some v ∧ VR E a v) → VRF E l b off
 | [], _, _ => by simp only [VRF]
 | a :: l, off, h => by
  simp only [VRF]
  obtain ⟨v, h1, h2⟩ := h 0 a rfl
  refine ⟨v, h1, h2, VRF_mk fun i x hx => ?_⟩
  obtain ⟨v', h3, h4⟩ := h (i + 1) x (by simpa using hx)
  exact ⟨v', by rw [Nat.add_assoc, Nat.add_comm 1 i]; exact h3, h4⟩
theorem scalI2 (l : List Int) : (l.map I).all scal = true := by
 rw [List.all_eq_true]; intro v hv
 obtain ⟨x, _, rfl⟩ := List.mem_map.1 hv; rfl
theorem scalT2 (l : List (List Int)) : (l.map encI).all scal = true := by
 rw [List.all_eq_true]; intro v hv
 obtain ⟨x, _, rfl⟩ := List.mem_map.1 hv; rfl
theorem vr_row {w : World} {p : Option Addr} {L C : Nat} {Z : List Int} (hL : L ≤ C) (hZ : Z.length = C) (h0 : p = none → C = 0) (hc : ∀ a, p = some a → ∀ c, c < C → w.cell? (a.add c) = some (.int .i64 (Z.getD c 0))) :
  VR (allE w) (encI (Z.take L)) (.slice p L C) := by
 have hlen : (Z.take L).length = L := by rw [List.length_take]; omega
 simp only [VR]
 refine ⟨scalI2 _, by simp, p, C, by rw [hlen], ?_⟩
 rw [hlen]
 cases p with
 | none => exact .inl (by have := h0 rfl; omega)
 | some a =>
  by_cases hL0 : L = 0
  ·exact .inl hL0
  ·obtain ⟨_, hs, _⟩ := uJ (hc a rfl 0 (by omega))
   obtain ⟨b, off, sp⟩ := a
   have : sp = none := hs rfl
   subst this
   refine .inr ⟨b, off, rfl, hL, VRF_mk fun i x hx => ?_⟩
   rw [List.getElem?_map] at hx
   have hi : i < L := by
    cases e : (Z.take L)[i]? with
    | none => rw [e] at hx; cases hx
    | some y => have := (List.getElem?_eq_some_iff.1 e).1; omega
   obtain ⟨_, _, h3⟩ := uJ (hc _ rfl i (by omega))
   refine ⟨_, h3, ?_⟩
   rw [List.getElem?_take, if_pos hi] at hx
   cases e : Z[i]? with
   | none => rw [e] at hx; cases hx
   | some y =>
    rw [e] at hx
    have hx := Option.some.inj hx
    subst hx
    rw [List.getD_eq_getElem?_getD, e]
    simp only [VR, Option.getD_some]
theorem open_listI {t e : TypeId} {w : World} {base : Nat} {held : Bool} {fuel : Nat} {cs : List Value} {x : DataW H × List MemPlace} (ht : P.underlying t = some (.slice e)) (he : P.underlying e = some (.int .i64)) (hc : P.cellsOf e = 1)
  (h : DataW.trod enc P w base (fun _ => true) held fuel t cs = some x) : ∃ (l : List Int) (v : Value), cs = [v] ∧ VR (allE w) (encI l) v ∧ l.length ≤ maxLen ∧ ∀ n ∈ l, (Lit.int .i64 n).wf = true := by
 rcases open_ints ht he hc h with ⟨rfl, _⟩ | ⟨a, len, cap, zs, rfl, hb, hl, hm, hz, _, hcell, hwz⟩
 ·exact ⟨[], _, rfl, by simp only [VR]; exact ⟨rfl, rfl, none, 0, rfl, .inl rfl⟩, by simp, by simp⟩
 ·simp only [if_true] at hz
  refine ⟨zs.take len, _, rfl, vr_row hl hz (fun q => by cases q) (fun a' q c hc => by cases q; exact hcell c (by rw [hz]; exact hc)), by rw [List.length_take]; omega, fun n hn => hwz n (List.mem_of_mem_take hn)⟩
theorem open_listV {r : Reach} {b0 : Nat} {t e : TypeId} {w : World} {base : Nat} {held : Bool} {v : Value} {d : DataW H} {p : List MemPlace} (ht : P.underlying t = some (.slice e)) (he : P.underlying e = some (.int .i64)) (hc : P.cellsOf e = 1)
  (hval : Value.okWide P w r b0 t v) (h : DataW.Trod enc P w base (fun _ => true) held t v d p) : ∃ l : List Int, VR (allE w) (encI l) v ∧ l.length ≤ maxLen ∧ ∀ n ∈ l, (Lit.int .i64 n).wf = true := by
 obtain ⟨fuel, hf⟩ := h
 obtain ⟨a, len, cap, rfl⟩ := okWide_slice ht hval
 obtain ⟨l, v', hv, h1, h2, h3⟩ := open_listI ht he hc hf
 simp only [Value.cells, List.cons.injEq, and_true] at hv
 subst hv
 exact ⟨l, h1, h2, h3⟩
theorem open_listT {t e q : TypeId} {w : World} {base : Nat} {held : Bool} {fuel : Nat} {cs : List Value} {x : DataW H × List MemPlace} (ht : P.underlying t = some (.slice e)) (he : P.underlying e = some (.slice q)) (hq : P.underlying q = some (.int .i64))
  (ce : P.cellsOf e = 1) (cq : P.cellsOf q = 1) (h : DataW.trod enc P w base (fun _ => true) held fuel t cs = some x) :
  ∃ (ll : List (List Int)) (v : Value), cs = [v] ∧ VR (allE w) (encT ll) v ∧ ll.length ≤ maxLen ∧ ∀ l ∈ ll, l.length ≤ maxLen ∧ ∀ n ∈ l, (Lit.int .i64 n).wf = true := by
 rcases open_int_rows ht he hq ce cq h with ⟨rfl, _⟩ | ⟨a, len, cap, A, L, C, Z, rfl, hb, hl, hm, _, hr⟩
 ·exact ⟨[], _, rfl, by simp only [VR]; exact ⟨rfl, rfl, none, 0, rfl, .inl rfl⟩, by simp, by simp⟩
 ·refine ⟨(List.range len).map fun r => (Z r).take (L r), _, rfl, ?_, by simp; omega, fun l hm' => ?_⟩
  ·simp only [VR]
   refine ⟨scalT2 _, by simp, some a, cap, by simp, ?_⟩
   by_cases h0 : len = 0
   ·exact .inl (by simp [h0])
   ·obtain ⟨_, hs, _⟩ := uJ (hr 0 (by omega)).1
    obtain ⟨b, off, sp⟩ := a
    have : sp = none := hs rfl
    subst this
    refine .inr ⟨b, off, rfl, by simpa using hl, VRF_mk fun i x hx => ?_⟩
    rw [List.map_map, List.getElem?_map] at hx
    have hi : i < len := by
     cases e : (List.range len)[i]? with
     | none => rw [e] at hx; cases hx
     | some y => have := (List.getElem?_eq_some_iff.1 e).1; simpa using this
    rw [List.getElem?_range hi] at hx
    have hx := Option.some.inj hx
    subst hx
    obtain ⟨g1, g2, g3, g4, _, g6, g7⟩ := hr i (by omega)
    obtain ⟨_, _, h3⟩ := uJ g1
    exact ⟨_, h3, vr_row g2 g4 g6 fun a' q c hc => (g7 a' q).2 c hc⟩
  ·obtain ⟨r, hr', rfl⟩ := List.mem_map.1 hm'
   obtain ⟨_, g2, g3, g4, g5, _⟩ := hr r (by have := List.mem_range.1 hr'; omega)
   exact ⟨by rw [List.length_take]; omega, fun n hn => g5 n (List.mem_of_mem_take hn)⟩
theorem open_system {r : Reach} {b0 base : Nat} {held : Bool} {w : World} {t ti tl tr : TypeId} {f0 f1 : Field} {v : Value} {d : DataW H} {p : List MemPlace} (hs : P.underlying t = some (.struct #[f0, f1])) (hone : oneCellFields P #[f0, f1] = true) (hC : P.cellsOf t = 2)
  (e0 : f0.type = ti) (e1 : f1.type = tl) (u0 : P.underlying ti = some (.int .i64)) (u1 : P.underlying tl = some (.slice tr)) (u2 : P.underlying tr = some (.slice ti)) (c1 : P.cellsOf tr = 1) (c2 : P.cellsOf ti = 1)
  (hv : Value.okWide P w r b0 t v) (h : DataW.Trod enc P w base (fun _ => true) held t v d p) :
  ∃ (cells : Int) (lines : List (List Int)), VR (allE w) (.agg [I cells, encT lines]) v ∧ (Lit.int .i64 cells).wf = true ∧ lines.length ≤ maxLen ∧ ∀ l ∈ lines, l.length ≤ maxLen ∧ ∀ n ∈ l, (Lit.int .i64 n).wf = true := by
 obtain ⟨v0, v1, y0, y1, n, rfl, _, _, h0, h1⟩ := open_agg2 hs hone hC hv h
 rw [e0] at h0
 rw [e1] at h1
 obtain ⟨x, hx, _, hw⟩ := DataW.trod_int u0 h0
 simp only [List.cons.injEq, and_true] at hx
 subst hx
 obtain ⟨ll, v', hv', g1, g2, g3⟩ := open_listT u1 u2 u0 c1 c2 h1
 simp only [List.cons.injEq, and_true] at hv'
 subst hv'
 refine ⟨x, ll, ?_, hw, g2, g3⟩
 simp only [VR]
 exact ⟨rfl, _, rfl, VRL.cons (by simp only [VR]) (VRL.cons g1 VRL.nil)⟩
end Go.Ev
namespace Go.Ev
open Go Go.Proofs
theorem dreg {B : Nat} : DregAll Tryz.prog B Prop := dreg_all mixed
variable {B : Nat}
theorem sameInts35 {a b : List Int} (ha : a.length ≤ 1000000000) : Pure Tryz.prog B 35 [encI a, encI b] (· = .bool (decide (a = b))) := by
 intro p h nx K hK
 refine yQ yW dreg (a.length + 2) fun hf => ?_
 rw [F35.go]
 simp (disch := omega) only [sAdd, sSub, sMul, sEql, sNeq, sLss, sLeq, sGtr, sGeq, zH, zG, zA, zB, zX, zO, zV, yB, zN, yC, zZ, yH, zR, zQ, zP, zF, zL, zI, zC, decide_true, decide_false, Bool.not_true, Bool.not_false, zS]
 by_cases hl : a.length = b.length
 ·simp only [hl, decide_true, Bool.not_true, zB]
  refine F35.L2 (fun m z3 h' nx' => ∃ i : Nat, z3 = I i ∧ m = a.length - i ∧ i ≤ a.length ∧ h' = h ∧ nx' = nx ∧ a.take i = b.take i) (m := a.length) (by omega) ⟨0, rfl, by simp, by omega, rfl, rfl, by simp⟩ ?_
  rintro m z2 z3 z5 z6 _ _ R ⟨i, rfl, rfl, hi, rfl, rfl, htk⟩ hR
  simp (disch := omega) only [sAdd, sSub, sMul, sEql, sNeq, sLss, sLeq, sGtr, sGeq, zH, zG, zA, zB, zX, zO, zV, yB, zN, yC, zZ, yH, zR, zQ, zP, zF, zL, zI, zC, decide_true, decide_false, Bool.not_true, Bool.not_false, zS]
  by_cases hlt : i < a.length
  ·have h1 : (i : Int) < a.length := by omega
   have hb : i < b.length := by omega
   simp only [h1, decide_true, zA]
   rw [sIxL rfl hlt, ldL (getI (List.getElem?_eq_getElem hlt)), sIxL rfl hb, ldL (getI (List.getElem?_eq_getElem hb))]
   simp (disch := omega) only [sAdd, sSub, sMul, sEql, sNeq, sLss, sLeq, sGtr, sGeq, zH, zG, zA, zB, zX, zO, zV, yB, zN, yC, zZ, yH, zR, zQ, zP, zF, zL, zI, zC, decide_true, decide_false, Bool.not_true, Bool.not_false, zS]
   by_cases he : a[i] = b[i]
   ·simp only [he, decide_true, Bool.not_true, zB]
    refine hR (a.length - (i + 1)) _ _ _ _ _ _ (by omega) ⟨i + 1, rfl, rfl, by omega, rfl, rfl, ?_⟩
    rw [List.take_add_one, List.take_add_one, htk, List.getElem?_eq_getElem hlt, List.getElem?_eq_getElem hb, he]
   ·simp only [he, decide_false, Bool.not_false, zA]
    refine hK _ ?_ hf
    rw [decide_eq_false]
    rintro rfl
    exact he rfl
  ·have h1 : ¬ (i : Int) < a.length := by omega
   simp only [h1, decide_false, zB]
   rw [F35.k9]
   refine hK _ ?_ hf
   rw [List.take_of_length_le (by omega), List.take_of_length_le (by omega)] at htk
   rw [decide_eq_true htk]
 ·have h1 : ¬ (a.length : Int) = b.length := by omega
  simp only [h1, decide_false, Bool.not_false, zA]
  refine hK _ ?_ hf
  rw [decide_eq_false]
  rintro rfl; exact hl rfl
end Go.Ev
namespace Go.Ev
def addAt (y : List Nat) (i k : Nat) : List Nat := y.set i ((y.getD i 0 + k) % 256)
def addL (y : List Nat) (idx : List Nat) (k : Nat) : List Nat := idx.foldl (fun y i => addAt y i k) y
@[simp] theorem addAt_length (y : List Nat) (i k : Nat) : (addAt y i k).length = y.length := by simp [addAt]
@[simp] theorem addL_length (idx : List Nat) (k : Nat) : ∀ y : List Nat, (addL y idx k).length = y.length := by
 induction idx with
 | nil => intro y; rfl
 | cons i l ih => intro y; show (addL (addAt y i k) l k).length = _; rw [ih]; simp
theorem addL_snoc (y : List Nat) (l : List Nat) (i k : Nat) : addL y (l ++ [i]) k = addAt (addL y l k) i k := by simp [addL]
def onP (lines : List (List Int)) (i c : Nat) : List Nat := (List.range i).flatMap fun j => ((lines.getD j []).filter (· = (c : Int))).map fun _ => j
abbrev onC (lines : List (List Int)) (c : Nat) : List Nat := onP lines lines.length c
theorem onP_succ (lines : List (List Int)) (i c : Nat) : onP lines (i + 1) c = onP lines i c ++ ((lines.getD i []).filter (· = (c : Int))).map fun _ => i := by
 simp [onP, List.range_succ, List.flatMap_append]
theorem onP_lt {lines : List (List Int)} {i c x : Nat} (h : x ∈ onP lines i c) : x < i := by
 simp only [onP, List.mem_flatMap, List.mem_range, List.mem_map] at h
 obtain ⟨j, h1, y, _, rfl⟩ := h
 exact h1
def gE (lines : List (List Int)) (most fr : Nat) : Nat → List (List Nat)
 | 0 => [List.replicate lines.length 0]
 | n + 1 => (gE lines most fr n).flatMap fun x => (List.range (most + 1)).map fun k => addL x (onC lines (fr + n)) k
theorem gV (lines : List (List Int)) (most fr : Nat) : ∀ n, (gE lines most fr n).length = (most + 1) ^ n
 | 0 => rfl
 | n + 1 => by
  simp only [gE, List.length_flatMap, List.length_map, List.length_range, List.map_const', List.sum_replicate_nat]
  rw [gV lines most fr n, Nat.pow_succ]
def blk (x : List Nat) (idx : List Nat) (n : Nat) : Nat → List (List Nat)
 | 0 => []
 | j + 1 => List.replicate n (addL x idx j) ++ blk x idx n j
theorem blk_length (x idx : List Nat) (n : Nat) : ∀ j, (blk x idx n j).length = j * n
 | 0 => by simp [blk]
 | j + 1 => by simp [blk, blk_length x idx n j, Nat.add_mul]; omega
theorem perm_self (ks G : List (List Nat)) (nd : ks.Nodup) (hm : ∀ y, y ∈ ks ↔ y ∈ G) : (ks.flatMap fun x => List.replicate (G.count x) x).Perm G := by
 rw [List.perm_iff_count]
 intro y
 have key : ∀ (l : List (List Nat)), l.Nodup → (l.flatMap fun x => List.replicate (G.count x) x).count y = if y ∈ l then G.count y else 0 := by
  intro l
  induction l with
  | nil => intro _; rfl
  | cons a l ih =>
   intro nd
   rw [List.flatMap_cons, List.count_append, ih (List.nodup_cons.1 nd).2, List.count_replicate]
   by_cases e : y = a
   ·subst e
    have : y ∉ l := (List.nodup_cons.1 nd).1
    simp [this]
   ·have : ¬ (a == y) = true := by simpa using fun q => e q.symm
    simp [this, e]
 rw [key ks nd]
 by_cases e : y ∈ ks
 ·rw [if_pos e]
 ·rw [if_neg e, List.count_eq_zero.2 fun q => e ((hm y).2 q)]
theorem blk_perm (x idx : List Nat) (n : Nat) : ∀ j, (blk x idx n j).Perm ((List.replicate n x).flatMap fun x => (List.range j).map fun k => addL x idx k)
 | 0 => by
  have : ((List.replicate n x).flatMap fun x => (List.range 0).map fun k => addL x idx k) = [] := by simp
  rw [this]; exact .refl _
 | j + 1 => by
  refine (List.Perm.append_left _ (blk_perm x idx n j)).trans ?_
  clear blk_perm
  induction n with
  | zero => simp
  | succ n ih =>
   rw [List.replicate_succ, List.replicate_succ, List.flatMap_cons, List.flatMap_cons, List.range_succ, List.map_append, List.map_singleton]
   rw [List.range_succ] at ih
   generalize addL x idx j = a at *
   generalize (List.range j).map (fun k => addL x idx k) = r at *
   have : (a :: List.replicate n a ++ (r ++ (List.replicate n x).flatMap fun x => (List.range j).map fun k => addL x idx k)).Perm (r ++ [a] ++ (List.replicate n a ++ (List.replicate n x).flatMap fun x => (List.range j).map fun k => addL x idx k)) := by
    rw [List.perm_iff_count]; intro y; simp only [List.count_append, List.count_cons, List.cons_append, List.nil_append, List.count_nil]; omega
   refine this.trans ?_
   exact List.Perm.append_left _ ih
theorem next_perm (ks G : List (List Nat)) (idx : List Nat) (j : Nat) (nd : ks.Nodup) (hm : ∀ y, y ∈ ks ↔ y ∈ G) : (ks.flatMap fun x => blk x idx (G.count x) j).Perm (G.flatMap fun x => (List.range j).map fun k => addL x idx k) := by
 refine List.Perm.trans ?_ ((perm_self ks G nd hm).flatMap_right _)
 rw [List.flatMap_assoc]
 clear hm nd
 induction ks with
 | nil => exact .refl _
 | cons a l ih =>
  rw [List.flatMap_cons, List.flatMap_cons]
  exact (blk_perm a idx _ j).append ih
theorem seen_perm {n : Nat} {seen : List Nat} (nd : seen.Nodup) (h1 : ∀ i ∈ seen, i < n) (h2 : ∀ i, i < n → i ∈ seen) : seen.Perm (List.range n) := by
 rw [List.perm_iff_count]
 intro a
 rw [nd.count, List.nodup_range.count]
 by_cases e : a < n
 ·rw [if_pos (h2 a e), if_pos (by simpa using e)]
 ·rw [if_neg fun q => e (h1 a q), if_neg (by simpa using e)]
end Go.Ev
namespace Go.Ev
open Go Go.Proofs
variable {B : Nat}
abbrev nI (x : Nat) : AV := I (x : Int)
noncomputable abbrev Lt (on bx : Pa) (cells : Nat) (lines : List (List Int)) (o : Nat → Option Pa) (D : Nat → List Nat) (L : List Ob) : List Ob :=
 .arr on (rowL cells fun c => rowV (o c) 1 (D c).length) :: .arr bx [I cells, encT lines] :: (rowL cells (fun c => Ob.gro (o c) 1 (D c).length ((D c).map nI)) ++ L)
theorem Lt_get {on bx : Pa} {cells c : Nat} {lines : List (List Int)} {o : Nat → Option Pa} {D : Nat → List Nat} {L : List Ob} (hc : c < cells) : (Lt on bx cells lines o D L)[c + 2]? = some (.gro (o c) 1 (D c).length ((D c).map nI)) := by
 show (rowL cells _ ++ L)[c]? = _
 rw [List.getElem?_append_left (by simpa using hc), rowL_get hc]
theorem F89.on {N : Nat} {K0 : Kw Prop} {K : Ks Prop} {h0 h : T Blk} {nx : Pa} {L : List Ob} {x0 x1 x2 x3 x5 x7 x8 x9 x10 x11 x12 x13 x14 x15 x16 x17 x21 x22 x23 x24 x25 x26 x27 x28 x29 x30 x31 x32 x33 : AV} {on bx : Pa} {cells : Nat} {lines : List (List Int)} (hN : 100000000 < N) (hm : lines.length ≤ 128) (hw : ∀ l ∈ lines, l.length ≤ 1000) (hl : ∀ l ∈ lines, ∀ c ∈ l, 0 ≤ c ∧ c < (cells : Int))
  (H : Hp h0 h nx (.arr on (List.replicate cells .nils) :: .arr bx [I cells, encT lines] :: L))
  (hK : ∀ x7 x8 x9 x20 x21 x22 x23 x24 x25 h' nx' o, Hp h0 h' nx' (Lt on bx cells lines o (onC lines) L) → K (F89.fr x0 x1 x2 x3 (.ptr bx 0) x5 (.sl on 0 cells (some cells) 1) x7 x8 x9 x10 x11 x12 x13 x14 x15 x16 x17 (encT lines) (I lines.length) x20 x21 x22 x23 x24 x25 x26 x27 x28 x29 x30 x31 x32 x33) h' nx' = .ok True) :
  IR.run F89.b1 (CS Tryz.prog B) N (fnO F89.res K0) K (F89.fr x0 x1 x2 x3 (.ptr bx 0) x5 (.sl on 0 cells (some cells) 1) x7 x8 x9 x10 x11 x12 x13 x14 x15 x16 x17 (encT lines) (I lines.length) (I 0) x21 x22 x23 x24 x25 x26 x27 x28 x29 x30 x31 x32 x33) h nx = .ok True := by
 refine F89.L1 (fun m x20 h' nx' => ∃ (i : Nat) (o : Nat → Option Pa), x20 = I i ∧ lines.length - i = m ∧ i ≤ lines.length ∧ Hp h0 h' nx' (Lt on bx cells lines o (onP lines i) L)) (m := lines.length) (by omega) ⟨0, fun _ => none, rfl, rfl, by omega, ?_⟩ ?_
 ·have H2 := (H.addE (E := rowL cells fun _ => Ob.gro none 1 0 []) fun x hx => by
   obtain ⟨j, _, rfl⟩ := rowL_mem hx
   exact ⟨rfl, fun _ => ⟨rfl, rfl⟩⟩).perm (List.perm_append_comm (l₂ := .arr on (List.replicate cells .nils) :: .arr bx [I cells, encT lines] :: L))
  refine (H2.perm (L' := .arr on (List.replicate cells .nils) :: .arr bx [I cells, encT lines] :: (rowL cells (fun _ => Ob.gro none 1 0 []) ++ L)) ?_).cast ?_
  ·exact (List.perm_append_comm.cons _).cons _
  ·rw [rowL_const]; rfl
 rintro m z7 z8 z9 z20 z21 z22 z23 z24 z25 h1 nx1 R ⟨i, o, rfl, rfl, hi, H1⟩ hR
 simp (disch := omega) only [sAdd, sSub, sMul, sEql, sNeq, sLss, sLeq, sGtr, sGeq, zH, zG, zA, zB, zX, zO, zV, yB, zN, yC, zZ, yH, zR, zQ, zP, zF, zL, zI, zC, decide_true, decide_false, Bool.not_true, Bool.not_false, zS]
 by_cases hlt : i < lines.length
 case neg =>
  simp only [show ¬ (i : Int) < (lines.length : Int) by omega, decide_false, zB]
  obtain rfl : i = lines.length := by omega
  exact hK _ _ _ _ _ _ _ _ _ _ _ _ H1
 simp only [show (i : Int) < (lines.length : Int) by omega, decide_true, zA]
 obtain ⟨line, hline⟩ : ∃ l, lines[i]? = some l := ⟨_, List.getElem?_eq_getElem hlt⟩
 have hmem := List.mem_of_getElem? hline
 have hgd : lines.getD i [] = line := by rw [List.getD_eq_getElem?_getD, hline]; rfl
 rw [sIxL rfl hlt, ldL (getT hline)]
 simp (disch := omega) only [sAdd, sSub, sMul, sEql, sNeq, sLss, sLeq, sGtr, sGeq, zH, zG, zA, zB, zX, zO, zV, yB, zN, yC, zZ, yH, zR, zQ, zP, zF, zL, zI, zC, decide_true, decide_false, Bool.not_true, Bool.not_false, zS]
 have hlw := hw _ hmem
 refine F89.L7 (fun m x24 h' nx' => ∃ (j : Nat) (o : Nat → Option Pa), x24 = I j ∧ line.length - j = m ∧ j ≤ line.length ∧ Hp h0 h' nx' (Lt on bx cells lines o (fun c => onP lines i c ++ ((line.take j).filter (· = (c : Int))).map fun _ => i) L)) (m := line.length) (by omega) ⟨0, o, rfl, rfl, by omega, H1.cast (by simp [Lt])⟩ ?_
 rintro m z9 z24 z25 h2 nx2 R2 ⟨j, o2, rfl, rfl, hj, H2⟩ hR2
 simp (disch := omega) only [sAdd, sSub, sMul, sEql, sNeq, sLss, sLeq, sGtr, sGeq, zH, zG, zA, zB, zX, zO, zV, yB, zN, yC, zZ, yH, zR, zQ, zP, zF, zL, zI, zC, decide_true, decide_false, Bool.not_true, Bool.not_false, zS]
 by_cases hjt : j < line.length
 case neg =>
  simp only [show ¬ (j : Int) < (line.length : Int) by omega, decide_false, zB]
  rw [F89.k14]
  simp (disch := omega) only [sAdd, sSub, sMul, sEql, sNeq, sLss, sLeq, sGtr, sGeq, zH, zG, zA, zB, zX, zO, zV, yB, zN, yC, zZ, yH, zR, zQ, zP, zF, zL, zI, zC, decide_true, decide_false, Bool.not_true, Bool.not_false, zS]
  refine hR (lines.length - (i + 1)) _ _ _ _ _ _ _ _ _ _ _ (by omega) ⟨i + 1, o2, rfl, rfl, by omega, H2.cast ?_⟩
  have : ∀ c, onP lines (i + 1) c = onP lines i c ++ ((line.take j).filter (· = (c : Int))).map fun _ => i := fun c => by
   rw [onP_succ, hgd, List.take_of_length_le (by omega)]
  simp only [Lt, this]
 simp only [show (j : Int) < (line.length : Int) by omega, decide_true, zA]
 obtain ⟨cz, hcz⟩ : ∃ c, line[j]? = some c := ⟨_, List.getElem?_eq_getElem hjt⟩
 have hcr := hl _ hmem cz (List.mem_of_getElem? hcz)
 obtain ⟨c, rfl⟩ : ∃ c : Nat, cz = c := ⟨cz.toNat, by omega⟩
 have hc : c < cells := by omega
 rw [sIxL rfl hjt, ldL (getI hcz), sIx (i := c) rfl hc, H2.load (k := 0) rfl (rowL_get hc)]
 refine H2.bslice (l := [I i]) rfl fun t h3 nx3 H3 => ?_
 refine H3.appN (k := c + 3) (o := o2 c) (c := 1) (new := [I i]) (by exact Lt_get (on := on) (bx := bx) (lines := lines) hc) (HasArr.rd (l := [I i]) (n := 1) (H3.own _ (List.mem_cons_self ..)) rfl) rfl rfl (by decide) (by decide) ?_ fun o' h4 nx4 _ H4 => ?_
 ·have h1 : (onP lines i c).length ≤ 128000 := by
   have : ∀ i, i ≤ lines.length → (onP lines i c).length ≤ i * 1000 := by
    intro i
    induction i with
    | zero => intro _; simp [onP]
    | succ i ih =>
     intro hi
     rw [onP_succ, List.length_append, List.length_map]
     have h2 := ih (by omega)
     have h3 : ((lines.getD i []).filter (· = (c : Int))).length ≤ 1000 := by
      refine Nat.le_trans (List.length_filter_le _ _) ?_
      rw [List.getD_eq_getElem?_getD, List.getElem?_eq_getElem (by omega)]
      exact hw _ (List.getElem_mem _)
     omega
   have h9 := this i hi
   clear this
   omega
  have h2 : (((line.take j).filter (· = (c : Int))).map fun _ => i).length ≤ 1000 := by
   rw [List.length_map]
   refine Nat.le_trans (List.length_filter_le _ _) ?_
   rw [List.length_take]; omega
  rw [List.length_append]; omega
 rw [sIx (i := c) rfl hc]
 refine H4.store (k := 1) rfl (by simpa using hc) (rowV_cells _ _ _) fun h5 H5 => ?_
 refine hR2 (line.length - (j + 1)) _ _ _ _ _ (by omega) ⟨j + 1, fun p => if p = c then o' else o2 p, rfl, rfl, by omega, H5.drop.cast ?_⟩
 have hD : ∀ p : Nat, (onP lines i p ++ ((line.take (j + 1)).filter (· = (p : Int))).map fun _ => i) = if p = c then (onP lines i c ++ ((line.take j).filter (· = (c : Int))).map fun _ => i) ++ [i] else onP lines i p ++ ((line.take j).filter (· = (p : Int))).map fun _ => i := fun p => by
  rw [List.take_add_one, hcz]
  by_cases e : p = c
  ·subst e; simp
  ·have : ¬ (c : Int) = (p : Int) := by omega
   simp [e, this]
 simp only [hD]
 simp only [Lt, List.set_cons_succ, List.set_cons_zero, List.tail_cons]
 have e1 : ∀ x : Ob, (rowL cells (fun p => Ob.gro (o2 p) 1 (onP lines i p ++ ((line.take j).filter (· = (p : Int))).map fun _ => i).length ((onP lines i p ++ ((line.take j).filter (· = (p : Int))).map fun _ => i).map nI)) ++ L).set c x = rowL cells (fun p => if p = c then x else Ob.gro (o2 p) 1 (onP lines i p ++ ((line.take j).filter (· = (p : Int))).map fun _ => i).length ((onP lines i p ++ ((line.take j).filter (· = (p : Int))).map fun _ => i).map nI)) ++ L := fun x => by
  rw [List.set_append_left _ _ (by simpa using hc), rowL_set]
 rw [e1, rowL_set]
 congr 1
 ·congr 1
  refine rowL_congr fun p _ => ?_
  by_cases e : p = c
  ·subst e; simp [Nat.add_assoc]
  ·simp [e]
 ·congr 2
  refine rowL_congr fun p _ => ?_
  by_cases e : p = c
  ·subst e; simp [Nat.add_assoc]
  ·simp [e]
theorem sConv_u8 {k : IntKind} {x : Nat} {K : AV → OP} : sConv .u8 (.int k (x : Int)) K = K (u8 (x % 256)) := by
 show intK (wrapF .u8 (x : Int)) (fun z => K (.int .u8 z)) = _
 rw [intK_eq, wrapF_eq, IntKind.wrap_u8]
 have : u8 (x % 256) = .int .u8 ((x : Int) % 256) := by unfold u8; congr 1
 rw [this]
theorem sAdd_u8 {x y : Nat} {K : AV → OP} : sBin .add .int (u8 x) (u8 y) K = K (u8 ((x + y) % 256)) := by
 rw [sAddW, IntKind.wrap_u8]
 have : u8 ((x + y) % 256) = .int .u8 (((x : Int) + (y : Int)) % 256) := by unfold u8; congr 1
 rw [this]
theorem F89.add {N : Nat} {K0 : Kw Prop} {E4 E5 E6 E7 E8 E9 K : Ks Prop} {h0 h : T Blk} {nx : Pa} {L : List Ob} {x0 x1 x2 x3 x4 x5 x6 x7 x8 x9 x10 x11 x12 x13 x14 x17 x18 x19 x20 x21 x22 x23 x24 x25 x26 x27 x28 x29 x33 : AV} {yb : Pa} {y : Key} {idx : List Nat} {o : Option Pa} {k c : Nat} (hN : 100000000 < N) (hy : y.length ≤ 128) (hi : ∀ x ∈ idx, x < y.length) (hn : idx.length ≤ 1000000)
  (H : Hp h0 h nx (.arr yb (yM y) :: L)) (hc : L[c]? = some (.gro o 1 idx.length (idx.map nI)))
  (hK : ∀ x17 x32 x33 h' nx', Hp h0 h' nx' (.arr yb (yM (addL y idx k)) :: L) → K (F89.fr x0 x1 x2 x3 x4 x5 x6 x7 x8 x9 x10 x11 x12 x13 x14 (I k) (.ptr yb 0) x17 x18 x19 x20 x21 x22 x23 x24 x25 x26 x27 x28 x29 (rowV o 1 idx.length) (I idx.length) x32 x33) h' nx' = .ok True) :
  IR.run F89.b33 (CS Tryz.prog B) N (((((((fnO F89.res K0).blk 4 E4).blk 5 E5).blk 6 E6).blk 7 E7).blk 8 E8).blk 9 E9) K (F89.fr x0 x1 x2 x3 x4 x5 x6 x7 x8 x9 x10 x11 x12 x13 x14 (I k) (.ptr yb 0) x17 x18 x19 x20 x21 x22 x23 x24 x25 x26 x27 x28 x29 (rowV o 1 idx.length) (I idx.length) (I 0) x33) h nx = .ok True := by
 refine F89.L33 (fun m x32 h' nx' => ∃ j : Nat, x32 = I j ∧ idx.length - j = m ∧ j ≤ idx.length ∧ Hp h0 h' nx' (.arr yb (yM (addL y (idx.take j) k)) :: L)) (m := idx.length) (by omega) ⟨0, rfl, rfl, by omega, H⟩ ?_
 rintro m z17 z32 z33 h1 nx1 R ⟨j, rfl, rfl, hj, H1⟩ hR
 simp (disch := omega) only [sAdd, sSub, sMul, sEql, sNeq, sLss, sLeq, sGtr, sGeq, zH, zG, zA, zB, zX, zO, zV, yB, zN, yC, zZ, yH, zR, zQ, zP, zF, zL, zI, zC, decide_true, decide_false, Bool.not_true, Bool.not_false, zS]
 by_cases hlt : j < idx.length
 case neg =>
  simp only [show ¬ (j : Int) < (idx.length : Int) by omega, decide_false, zB]
  rw [List.take_of_length_le (by omega)] at H1
  exact hK _ _ _ _ _ H1
 simp only [show (j : Int) < (idx.length : Int) by omega, decide_true, zA]
 obtain ⟨x, hx⟩ : ∃ x, idx[j]? = some x := ⟨_, List.getElem?_eq_getElem hlt⟩
 have hxl := hi x (List.mem_of_getElem? hx)
 obtain ⟨id, q1, q2⟩ := H1.groIx (k := c + 1) (by exact hc) (v := I x) (by rw [List.getElem?_map, hx]; rfl)
 have hyl : x < (addL y (idx.take j) k).length := by simpa using hxl
 rw [q1, q2, sAx (i := x) rfl (by omega), H1.load (k := 0) rfl (cellsK_get (List.getElem?_eq_getElem hyl)), sConv_u8, sAdd_u8, sAx (i := x) rfl (by omega)]
 refine H1.store (k := 0) rfl (by rw [yT (by simpa using hy)]; omega) rfl fun h2 H2 => ?_
 refine hR (idx.length - (j + 1)) _ _ _ _ _ (by omega) ⟨j + 1, rfl, rfl, by omega, H2.cast ?_⟩
 rw [List.set_cons_zero, cellsK_set hyl, List.take_add_one, hx]
 show _ = .arr yb (yM (addL y (idx.take j ++ [x]) k)) :: L
 rw [addL_snoc, addAt]
 congr 3
 congr 1
 rw [List.getD_eq_getElem?_getD, List.getElem?_eq_getElem hyl]
 simp
theorem Hp.dropL {h0 h : T Blk} {nx : Pa} : ∀ {A L : List Ob}, Hp h0 h nx (A ++ L) → Hp h0 h nx L
 | [], _, H => H
 | _ :: _, _, H => Hp.dropL H.drop
theorem Hp.dropMid {h0 h : T Blk} {nx : Pa} {A L : List Ob} {x : Ob} (H : Hp h0 h nx (x :: (A ++ L))) : Hp h0 h nx (x :: L) :=
 Hp.dropL (H.perm List.perm_middle.symm)
theorem F89.ks {N : Nat} {K0 : Kw Prop} {E4 E5 E6 E7 K : Ks Prop} {h0 h : T Blk} {nx : Pa} {Lr : List Ob} {x0 x1 x2 x4 x5 x7 x8 x9 x10 x16 x17 x18 x19 x20 x21 x22 x23 x24 x25 x26 x27 x28 x29 x30 x31 x32 x33 : AV} {xb nid on : Pa} {hdr : List AV} {x : Key} {idx : List Nat} {o : Option Pa} {ks G : List Key} {m most n p q r c cells : Nat} (hN : 100000000 < N) (hm : m ≤ 128) (hx : x.length = m) (hi : ∀ z ∈ idx, z < m) (hidx : idx.length ≤ 1000000) (hmost : most ≤ 1000) (hn : 1 ≤ n) (hG : G.length + (most + 2) * n ≤ 4000000000000000000)
  (H : Hp h0 h nx (.arr xb (yM x) :: Lr)) (hp : Lr[p]? = some (.map nid (ks.map (entK (cntV G))))) (O : KsOk m ks G) (hq : Lr[q]? = some (.arr on hdr)) (hqp : p ≠ q) (hh : hdr[c]? = some (rowV o 1 idx.length)) (hr : Lr[r]? = some (.gro o 1 idx.length (idx.map nI))) (hrp : p ≠ r) (hc : c < cells)
  (hK : ∀ x15 x16 x17 x29 x30 x31 x32 x33 h' nx' ks', KsOk m ks' (blk x idx n (most + 1) ++ G) → Hp h0 h' nx' (.arr xb (yM x) :: Lr.set p (.map nid (ks'.map (entK (cntV (blk x idx n (most + 1) ++ G)))))) → K (F89.fr x0 x1 x2 (I most) x4 x5 (.sl on 0 cells (some cells) 1) x7 x8 x9 x10 (I c) (.map nid) (.ptr xb 0) (I n) x15 x16 x17 x18 x19 x20 x21 x22 x23 x24 x25 x26 x27 x28 x29 x30 x31 x32 x33) h' nx' = .ok True) :
  IR.run F89.b27 (CS Tryz.prog B) N (((((fnO F89.res K0).blk 4 E4).blk 5 E5).blk 6 E6).blk 7 E7) K (F89.fr x0 x1 x2 (I most) x4 x5 (.sl on 0 cells (some cells) 1) x7 x8 x9 x10 (I c) (.map nid) (.ptr xb 0) (I n) (I 0) x16 x17 x18 x19 x20 x21 x22 x23 x24 x25 x26 x27 x28 x29 x30 x31 x32 x33) h nx = .ok True := by
 refine F89.L27 (fun m' x15 h' nx' => ∃ (k : Nat) (ks' : List Key), x15 = I k ∧ most + 1 - k = m' ∧ k ≤ most + 1 ∧ KsOk m ks' (blk x idx n k ++ G) ∧ Hp h0 h' nx' (.arr xb (yM x) :: Lr.set p (.map nid (ks'.map (entK (cntV (blk x idx n k ++ G))))))) (m := most + 1) (by omega) ⟨0, ks, rfl, rfl, by omega, O, H.cast ?_⟩ ?_
 ·have e : Lr.set p (.map nid (ks.map (entK (cntV G)))) = Lr := by rw [(getSplit hp).2]; exact (getSplit hp).1.symm
  exact congrArg _ e.symm
 rintro m' z15 z16 z17 z29 z30 z31 z32 z33 h1 nx1 R ⟨k, ks1, rfl, rfl, hk, O1, H1⟩ hR
 simp (disch := omega) only [sAdd, sSub, sMul, sEql, sNeq, sLss, sLeq, sGtr, sGeq, zH, zG, zA, zB, zX, zO, zV, yB, zN, yC, zZ, yH, zR, zQ, zP, zF, zL, zI, zC, decide_true, decide_false, Bool.not_true, Bool.not_false, zS]
 by_cases hlt : k ≤ most
 case neg =>
  simp only [show ¬ (k : Int) ≤ (most : Int) by omega, decide_false, zB]
  obtain rfl : k = most + 1 := by omega
  exact hK _ _ _ _ _ _ _ _ _ _ _ O1 H1
 simp only [show (k : Int) ≤ (most : Int) by omega, decide_true, zA]
 have hpl := (List.getElem?_eq_some_iff.1 hp).1
 rw [H1.loadN (k := 0) rfl (yT (by omega))]
 refine H1.alloc fun yb h2 nx2 H2 => ?_
 refine H2.storeN (k := 0) rfl rfl (yT (by omega)) fun h3 H3 => ?_
 have H3 : Hp h0 h3 nx2 (.arr yb (yM x) :: .arr xb (yM x) :: Lr.set p (.map nid (ks1.map (entK (cntV (blk x idx n k ++ G)))))) := H3
 have hq3 : (Lr.set p (.map nid (ks1.map (entK (cntV (blk x idx n k ++ G))))))[q]? = some (.arr on hdr) := by rw [List.getElem?_set_ne hqp]; exact hq
 have hr3 : (Lr.set p (.map nid (ks1.map (entK (cntV (blk x idx n k ++ G))))))[r]? = some (.gro o 1 idx.length (idx.map nI)) := by rw [List.getElem?_set_ne hrp]; exact hr
 rw [sIx (i := c) rfl hc, H3.load (k := q + 2) hq3 hh, H3.groLen (k := r + 2) hr3]
 refine F89.add (k := k) hN (by omega) (fun z hz => by rw [hx]; exact hi z hz) hidx H3 (c := r + 1) hr3 fun y17 y32 y33 h4 nx4 H4 => ?_
 rw [F89.k40]
 rw [H4.loadN (k := 0) rfl (yT (by rw [addL_length]; omega))]
 have hlen : (blk x idx n k ++ G).length + n ≤ 4000000000000000000 := by
  rw [List.length_append, blk_length]
  have : k * n + n ≤ (most + 2) * n := by
   have := Nat.mul_le_mul_right n (show k + 1 ≤ most + 2 by omega)
   rw [Nat.add_mul] at this; omega
  omega
 refine H4.mapAdd (k := p + 2) (nn := n) (y := addL x idx k) hm (by exact List.getElem?_set_self hpl) O1 (by rw [addL_length]; exact hx) hn (by omega) (K := fun h9 n10 => IR.run F89.b41 (CS Tryz.prog B) N ((((((fnO F89.res K0).blk 4 E4).blk 5 E5).blk 6 E6).blk 7 E7).blk 8 K) R _ h9 n10) fun h5 ks2 O2 H5 => ?_
 rw [F89.k41, sAdd (by omega)]
 refine hR (most + 1 - (k + 1)) _ _ _ _ _ _ _ _ _ _ (by omega) ⟨k + 1, ks2, rfl, rfl, by omega, O2.perm (by simp [blk]), H5.drop.cast ?_⟩
 simp only [List.set_cons_succ, List.tail_cons, List.set_set]
 rw [blk, List.append_assoc]
abbrev blkAt (ks G : List Key) (idx : List Nat) (most : Nat) (i : Nat) : List Key := blk (ks.getD i []) idx (G.count (ks.getD i [])) (most + 1)
theorem flatMap_len {α : Type} {f : α → List Key} {M : Nat} : ∀ (l : List α), (∀ i ∈ l, (f i).length ≤ M) → (l.flatMap f).length ≤ l.length * M
 | [], _ => by simp
 | a :: l, h => by
  have h1 := h a (by simp)
  have h2 := flatMap_len l fun i hi => h i (by simp [hi])
  rw [List.flatMap_cons, List.length_append, List.length_cons, Nat.add_mul]; omega
theorem F89.ents {N : Nat} {K0 : Kw Prop} {E4 E5 K : Ks Prop} {h0 h : T Blk} {nx : Pa} {L : List Ob} {x0 x1 x2 x4 x5 x7 x8 x9 x10 x13 x14 x15 x16 x17 x18 x19 x20 x21 x22 x23 x24 x25 x26 x28 x29 x30 x31 x32 x33 : AV} {it mid nid on bx : Pa} {o : Nat → Option Pa} {lines : List (List Int)} {ksM GM : List Key} {most c cells : Nat} (hN : 100000000 < N) (hm : lines.length ≤ 128) (hD : ∀ c, (onC lines c).length ≤ 1000000) (hmost : most ≤ 1000) (hGM : GM.length ≤ 1000000) (O : KsOk lines.length ksM GM) (hkl : ksM.length ≤ 1000000) (hc : c < cells)
  (H : Hp h0 h nx (.iter it mid (ksM.map (entK (cntV GM))).length [] (ksM.map (entK (cntV GM))).length :: .map nid [] :: .map mid (ksM.map (entK (cntV GM))) :: Lt on bx cells lines o (onC lines) L))
  (hK : ∀ x13 x14 x15 x16 x17 x28 x29 x30 x31 x32 x33 h' nx' ks' G', KsOk lines.length ks' G' → G'.Perm (GM.flatMap fun x => (List.range (most + 1)).map fun k => addL x (onC lines c) k) → Hp h0 h' nx' (.map nid (ks'.map (entK (cntV G'))) :: .map mid (ksM.map (entK (cntV GM))) :: Lt on bx cells lines o (onC lines) L) → K (F89.fr x0 x1 x2 (I most) x4 x5 (.sl on 0 cells (some cells) 1) x7 x8 x9 x10 (I c) (.map nid) x13 x14 x15 x16 x17 x18 x19 x20 x21 x22 x23 x24 x25 x26 (.ptr it 0) x28 x29 x30 x31 x32 x33) h' nx' = .ok True) :
  IR.run F89.b22 (CS Tryz.prog B) N (((fnO F89.res K0).blk 4 E4).blk 5 E5) K (F89.fr x0 x1 x2 (I most) x4 x5 (.sl on 0 cells (some cells) 1) x7 x8 x9 x10 (I c) (.map nid) x13 x14 x15 x16 x17 x18 x19 x20 x21 x22 x23 x24 x25 x26 (.ptr it 0) x28 x29 x30 x31 x32 x33) h nx = .ok True := by
 refine F89.L22 (fun m' h' nx' => ∃ (seen : List Nat) (ks' : List Key), (gA ksM.length seen).length = m' ∧ seen.length + m' = ksM.length ∧ seen.Nodup ∧ (∀ i ∈ seen, i < ksM.length) ∧ KsOk lines.length ks' (seen.flatMap (blkAt ksM GM (onC lines c) most)) ∧
  Hp h0 h' nx' (.iter it mid (ksM.map (entK (cntV GM))).length seen (ksM.map (entK (cntV GM))).length :: .map nid (ks'.map (entK (cntV (seen.flatMap (blkAt ksM GM (onC lines c) most))))) :: .map mid (ksM.map (entK (cntV GM))) :: Lt on bx cells lines o (onC lines) L)) (m := ksM.length) (by omega) ⟨[], [], by (have e : gA ksM.length [] = List.range ksM.length := List.filter_eq_self.2 (by simp)); rw [e]; simp, by simp, by simp, by simp, KsOk.nil _, H⟩ ?_
 rintro m' z13 z14 z15 z16 z17 z28 z29 z30 z31 z32 z33 h1 nx1 R ⟨seen, ks1, rfl, hsl, hnd, hlt, O1, H1⟩ hR
 refine H1.next (k := 0) (j := 2) rfl rfl (fun hall => ?_) fun i a b h2 hi hns hab H2 => ?_
 ·simp (disch := omega) only [sAdd, sSub, sMul, sEql, sNeq, sLss, sLeq, sGtr, sGeq, zH, zG, zA, zB, zX, zO, zV, yB, zN, yC, zZ, yH, zR, zQ, zP, zF, zL, zI, zC, decide_true, decide_false, Bool.not_true, Bool.not_false, zS]
  refine hK _ _ _ _ _ _ _ _ _ _ _ _ _ ks1 _ O1 ?_ H1.drop
  have hsp := seen_perm hnd hlt fun i hi => hall i (by simpa using hi)
  refine (hsp.flatMap_right _).trans ?_
  have e : (List.range ksM.length).flatMap (blkAt ksM GM (onC lines c) most) = ksM.flatMap fun x => blk x (onC lines c) (GM.count x) (most + 1) := by
   have : ksM = (List.range ksM.length).map fun i => ksM.getD i [] := by
    have := rowL_self ksM []
    exact this
   conv => rhs; rw [this]
   rw [List.flatMap_map]
  rw [e]
  exact next_perm ksM GM (onC lines c) (most + 1) O.nd O.mem
 ·have hi' : i < ksM.length := by simpa using hi
  obtain ⟨x, hx⟩ : ∃ x, ksM[i]? = some x := ⟨_, List.getElem?_eq_getElem hi'⟩
  have hxm := List.mem_of_getElem? hx
  rw [List.getElem?_map, hx] at hab
  obtain ⟨rfl, rfl⟩ : encK x = a ∧ cntV GM x = b := by simpa [entK] using hab
  have hgx : ksM.getD i [] = x := by rw [List.getD_eq_getElem?_getD, hx]; rfl
  have hxl := O.klen x hxm
  have hcx : 1 ≤ GM.count x := List.count_pos_iff.2 ((O.mem x).1 hxm)
  have hcx2 : GM.count x ≤ GM.length := List.count_le_length
  simp (disch := omega) only [sAdd, sSub, sMul, sEql, sNeq, sLss, sLeq, sGtr, sGeq, zH, zG, zA, zB, zX, zO, zV, yB, zN, yC, zZ, yH, zR, zQ, zP, zF, zL, zI, zC, decide_true, decide_false, Bool.not_true, Bool.not_false, zS]
  have hent : (ksM.map (entK (cntV GM)))[i]? = some (encK x, cntV GM x) := by rw [List.getElem?_map, hx]; rfl
  rw [H2.entry (k := 0) (j := 2) rfl rfl hent]
  simp (disch := omega) only [sAdd, sSub, sMul, sEql, sNeq, sLss, sLeq, sGtr, sGeq, zH, zG, zA, zB, zX, zO, zV, yB, zN, yC, zZ, yH, zR, zQ, zP, zF, zL, zI, zC, decide_true, decide_false, Bool.not_true, Bool.not_false, zS]
  refine H2.alloc fun xb h3 nx3 H3 => ?_
  refine H3.storeN (k := 0) rfl rfl (yT (by omega)) fun h4 H4 => ?_
  have hb : ∀ j ∈ seen, (blkAt ksM GM (onC lines c) most j).length ≤ 1001 * 1000000 := fun j _ => by
   rw [blk_length]
   exact Nat.mul_le_mul (by omega) (Nat.le_trans List.count_le_length hGM)
  have hfl : (seen.flatMap (blkAt ksM GM (onC lines c) most)).length ≤ seen.length * (1001 * 1000000) := flatMap_len seen hb
  have hsl2 : seen.length * (1001 * 1000000) ≤ 1000000 * (1001 * 1000000) := Nat.mul_le_mul_right _ (by omega)
  have hmn : (most + 2) * GM.count x ≤ 1002 * 1000000 := Nat.mul_le_mul (by omega) (by omega)
  refine F89.ks (most := most) (n := GM.count x) (p := 1) (q := 3) (r := c + 5) (idx := onC lines c) (o := o c) hN hm hxl (fun z hz => onP_lt hz) (hD c) hmost hcx (by omega) H4 rfl O1 rfl (by decide) (rowL_get hc) (by exact Lt_get (on := on) (bx := bx) (lines := lines) hc) (by omega) hc fun y15 y16 y17 y29 y30 y31 y32 y33 h5 nx5 ks2 O2 H5 => ?_
  have hst := leftA_step hi' hns
  have e : (i :: seen).flatMap (blkAt ksM GM (onC lines c) most) = blk x (onC lines c) (GM.count x) (most + 1) ++ seen.flatMap (blkAt ksM GM (onC lines c) most) := by
   rw [List.flatMap_cons, blkAt, hgx]
  refine hR _ _ _ _ _ _ _ _ _ _ _ _ _ _ (by omega) ⟨i :: seen, ks2, rfl, by simp; omega, List.nodup_cons.2 ⟨hns, hnd⟩, fun j hj => ?_, by rw [e]; exact O2, by rw [e]; exact H5.drop⟩
  rcases List.mem_cons.1 hj with rfl | q
  ·exact hi'
  ·exact hlt j q
theorem Hp.swap {h0 h : T Blk} {nx : Pa} {a b : Ob} {L : List Ob} (H : Hp h0 h nx (a :: b :: L)) : Hp h0 h nx (b :: a :: L) := H.perm (.swap _ _ _)
theorem F89.cells {N : Nat} {K0 : Kw Prop} {K : Ks Prop} {h0 h : T Blk} {nx : Pa} {L : List Ob} {x0 x1 x4 x5 x7 x8 x9 x12 x13 x14 x15 x16 x17 x18 x19 x20 x21 x22 x23 x24 x25 x26 x27 x28 x29 x30 x31 x32 x33 : AV} {mid on bx : Pa} {o : Nat → Option Pa} {lines : List (List Int)} {most fr to cells : Nat} (hN : 100000000 < N) (hm : lines.length ≤ 128) (hD : ∀ c, (onC lines c).length ≤ 1000000) (hmost : most ≤ 1000) (hfr : fr ≤ to) (hto : to ≤ cells) (hcl : cells ≤ 1000000) (hpow : (most + 1) ^ (to - fr) ≤ 1000000)
  (H : Hp h0 h nx (.map mid ([List.replicate lines.length 0].map (entK (cntV [List.replicate lines.length 0]))) :: Lt on bx cells lines o (onC lines) L))
  (hK : ∀ x12 x13 x14 x15 x16 x17 x26 x27 x28 x29 x30 x31 x32 x33 h' nx' id ks G, KsOk lines.length ks G → G.Perm (gE lines most fr (to - fr)) → Hp h0 h' nx' (.map id (ks.map (entK (cntV G))) :: Lt on bx cells lines o (onC lines) L) → K (F89.fr x0 x1 (I to) (I most) x4 x5 (.sl on 0 cells (some cells) 1) x7 x8 x9 (.map id) (I to) x12 x13 x14 x15 x16 x17 x18 x19 x20 x21 x22 x23 x24 x25 x26 x27 x28 x29 x30 x31 x32 x33) h' nx' = .ok True) :
  IR.run F89.b16 (CS Tryz.prog B) N (fnO F89.res K0) K (F89.fr x0 x1 (I to) (I most) x4 x5 (.sl on 0 cells (some cells) 1) x7 x8 x9 (.map mid) (I fr) x12 x13 x14 x15 x16 x17 x18 x19 x20 x21 x22 x23 x24 x25 x26 x27 x28 x29 x30 x31 x32 x33) h nx = .ok True := by
 refine F89.L16 (fun m' x10 x11 h' nx' => ∃ (c : Nat) (mid : Pa) (ks G : List Key), x10 = .map mid ∧ x11 = I c ∧ to - c = m' ∧ fr ≤ c ∧ c ≤ to ∧ KsOk lines.length ks G ∧ G.Perm (gE lines most fr (c - fr)) ∧ Hp h0 h' nx' (.map mid (ks.map (entK (cntV G))) :: Lt on bx cells lines o (onC lines) L)) (m := to - fr) (by omega)
  ⟨fr, mid, [List.replicate lines.length 0], [List.replicate lines.length 0], rfl, rfl, rfl, Nat.le_refl _, hfr, ⟨by simp, by simp, by simp⟩, by rw [Nat.sub_self]; exact .refl _, H⟩ ?_
 rintro m' z10 z11 z12 z13 z14 z15 z16 z17 z26 z27 z28 z29 z30 z31 z32 z33 h1 nx1 R ⟨c, mid1, ks1, G1, rfl, rfl, rfl, hc1, hc2, O1, hp1, H1⟩ hR
 simp (disch := omega) only [sAdd, sSub, sMul, sEql, sNeq, sLss, sLeq, sGtr, sGeq, zH, zG, zA, zB, zX, zO, zV, yB, zN, yC, zZ, yH, zR, zQ, zP, zF, zL, zI, zC, decide_true, decide_false, Bool.not_true, Bool.not_false, zS]
 by_cases hlt : c < to
 case neg =>
  simp only [show ¬ (c : Int) < (to : Int) by omega, decide_false, zB]
  obtain rfl : c = to := by omega
  exact hK _ _ _ _ _ _ _ _ _ _ _ _ _ _ _ _ _ _ _ O1 hp1 H1
 simp only [show (c : Int) < (to : Int) by omega, decide_true, zA]
 refine H1.mkmap fun nid h2 nx2 H2 => ?_
 refine H2.range (k := 1) rfl fun it h3 nx3 H3 => ?_
 have hlen : G1.length ≤ 1000000 := by
  rw [hp1.length_eq, gV]
  exact Nat.le_trans (Nat.pow_le_pow_right (by omega) (by omega)) hpow
 have hkl : ks1.length ≤ G1.length := by
  have h1 := (perm_self ks1 G1 O1.nd O1.mem).length_eq
  rw [← h1, List.length_flatMap]
  have : ∀ l : List Key, (∀ y ∈ l, y ∈ G1) → l.length ≤ (l.map fun x => (List.replicate (G1.count x) x).length).sum := by
   intro l
   induction l with
   | nil => simp
   | cons a l ih =>
    intro h
    have h2 := ih fun y hy => h y (by simp [hy])
    have h3 : 1 ≤ G1.count a := List.count_pos_iff.2 (h a (by simp))
    simp only [List.map_cons, List.sum_cons, List.length_cons, List.length_replicate] at h2 ⊢
    omega
  exact this ks1 fun y hy => (O1.mem y).1 hy
 refine F89.ents (c := c) (o := o) (bx := bx) (L := L) hN hm hD hmost hlen O1 (by omega) (by omega) H3 fun y13 y14 y15 y16 y17 y28 y29 y30 y31 y32 y33 h4 nx4 ks2 G2 O2 hp2 H4 => ?_
 rw [F89.k42, F89.k43, sAdd (by omega)]
 refine hR (to - (c + 1)) _ _ _ _ _ _ _ _ _ _ _ _ _ _ _ _ _ _ (by omega) ⟨c + 1, nid, ks2, G2, rfl, rfl, rfl, by omega, by omega, O2, ?_, H4.swap.drop⟩
 rw [show c + 1 - fr = (c - fr) + 1 by omega, gE, show fr + (c - fr) = c by omega]
 exact hp2.trans (hp1.flatMap_right _)
theorem tally89 {h0 h : T Blk} {nx : Pa} {L : List Ob} {lines : List (List Int)} {most fr to cells : Nat} {p : Pa} {K : Kw Prop} (hm : lines.length ≤ 128) (hw : ∀ l ∈ lines, l.length ≤ 1000) (hl : ∀ l ∈ lines, ∀ c ∈ l, 0 ≤ c ∧ c < (cells : Int)) (hmost : most ≤ 1000) (hfr : fr ≤ to) (hto : to ≤ cells) (hcl : cells ≤ 1000000) (hpow : (most + 1) ^ (to - fr) ≤ 1000000) (H : Hp h0 h nx L)
  (hK : ∀ h' nx' id ks G, KsOk lines.length ks G → G.Perm (gE lines most fr (to - fr)) → Hp h0 h' nx' (.map id (ks.map (entK (cntV G))) :: L) → K (.map id) h' nx' = .ok True) :
  (CS Tryz.prog B).fn 89 p [.agg [I cells, encT lines], I fr, I to, I most] h nx K = .ok True := by
 have hD : ∀ c, (onC lines c).length ≤ 1000000 := fun c => by
  have : ∀ i, i ≤ lines.length → (onP lines i c).length ≤ i * 1000 := by
   intro i
   induction i with
   | zero => intro _; simp [onP]
   | succ i ih =>
    intro hi
    rw [onP_succ, List.length_append, List.length_map]
    have h2 := ih (by omega)
    have h3 : ((lines.getD i []).filter (· = (c : Int))).length ≤ 1000 := by
     refine Nat.le_trans (List.length_filter_le _ _) ?_
     rw [List.getD_eq_getElem?_getD, List.getElem?_eq_getElem (by omega)]
     exact hw _ (List.getElem_mem _)
    omega
  have h9 := this _ (Nat.le_refl _)
  clear this
  show (onP lines lines.length c).length ≤ _
  omega
 refine uF (p := .of 89) (K := K) (yQ yW dreg 1000000000 fun hf => ?_) fun _ _ _ _ q => q
 rw [F89.go]
 refine H.box (l := [I cells, encT lines]) rfl fun bx h1 nx1 H1 => ?_
 rw [sFx, H1.load (k := 0) (i := 0) rfl rfl]
 refine H1.mk1 cells rfl rfl hcl (by decide) fun on h2 nx2 H2 => ?_
 rw [sFx, H2.load (k := 1) (i := 0 + 1) rfl rfl]
 simp (disch := omega) only [sAdd, sSub, sMul, sEql, sNeq, sLss, sLeq, sGtr, sGeq, zH, zG, zA, zB, zX, zO, zV, yB, zN, yC, zZ, yH, zR, zQ, zP, zF, zL, zI, zC, decide_true, decide_false, Bool.not_true, Bool.not_false, zS]
 refine F89.on (by decide) hm hw hl H2 fun y7 y8 y9 y20 y21 y22 y23 y24 y25 h3 nx3 o H3 => ?_
 rw [F89.k15]
 refine H3.mkmap fun mid h4 nx4 H4 => ?_
 have hz : encK (List.replicate lines.length 0) = .agg (List.replicate 128 (u8 0)) := by rw [encK, cellsK_zero hm]
 have hb : ∀ (z : List AV) (op : AV → OP), sBuild z [] op = op (.agg z) := fun z op => rfl
 rw [hb]
 have hz2 : AV.agg (List.replicate 128 (u8 0)) = encK (List.replicate lines.length 0) := hz.symm
 refine Eq.trans (b := sMapup (.agg 128) (.map mid) (AV.agg (List.replicate 128 (u8 0))) (I 1) h4 nx4 _) rfl ?_
 rw [hz2]
 refine H4.mapFirst (m := lines.length) hm (by simp) (k := 0) rfl fun h5 H5 => ?_
 refine F89.cells (o := o) (by decide) hm hD hmost hfr hto hcl hpow H5 fun y12 y13 y14 y15 y16 y17 y26 y27 y28 y29 y30 y31 y32 y33 h6 nx6 id ks G O6 hp6 H6 => ?_
 rw [F89.k44]
 exact hK _ _ _ _ _ O6 hp6 (Hp.dropMid (A := .arr on _ :: .arr bx _ :: rowL cells _) H6)
end Go.Ev
namespace Go.Ev
open Go Go.Proofs
variable {B : Nat}
theorem tallyT_lt (lines : List (List Int)) (most fr : Nat) : ∀ n, ∀ y ∈ gE lines most fr n, ∀ v ∈ y, v < 256
 | 0, y, h, v, hv => by
  rw [List.mem_singleton.1 h] at hv
  rw [(List.mem_replicate.1 hv).2]; decide
 | n + 1, y, h, v, hv => by
  simp only [gE, List.mem_flatMap, List.mem_map] at h
  obtain ⟨x, hx, k, _, rfl⟩ := h
  have ih := tallyT_lt lines most fr n x hx
  have : ∀ (idx : List Nat) (y : List Nat), (∀ v ∈ y, v < 256) → ∀ v ∈ addL y idx k, v < 256 := by
   intro idx
   induction idx with
   | nil => exact fun y h => h
   | cons i l ih2 =>
    intro y h
    refine ih2 _ fun v hv => ?_
    rcases List.mem_or_eq_of_mem_set hv with q | rfl
    ·exact h v q
    ·omega
  exact this _ _ ih v hv
def fB (sum : Nat) (G : List Key) (x : Key) : Nat := if x.all (fun v => decide (v ≤ sum)) then G.count (x.map fun v => sum - v) else 0
def bsum (lines : List (List Int)) (most sum half cells : Nat) : Nat := ((gE lines most 0 half).map (fB sum (gE lines most half (cells - half)))).sum
theorem sum_perm {α : Type} {l l' : List α} (f : α → Nat) (h : l.Perm l') : (l.map f).sum = (l'.map f).sum := by
 induction h with
 | nil => rfl
 | cons a _ ih => simp [ih]
 | swap a b l => simp; omega
 | trans _ _ h1 h2 => exact h1.trans h2
theorem sum_flat {f : Key → Nat} {G : List Key} : ∀ (l : List Key), ((l.flatMap fun x => List.replicate (G.count x) x).map f).sum = (l.map fun x => G.count x * f x).sum
 | [] => rfl
 | a :: l => by
  rw [List.flatMap_cons, List.map_append, List.sum_append, sum_flat l, List.map_cons, List.sum_cons]
  congr 1
  rw [List.map_replicate, List.sum_replicate_nat]
theorem sum_keys {f : Key → Nat} {ks G : List Key} {m : Nat} (O : KsOk m ks G) : (ks.map fun x => G.count x * f x).sum = (G.map f).sum := by
 rw [← sum_flat, sum_perm f (perm_self ks G O.nd O.mem)]
theorem fB_perm {sum : Nat} {G G' : List Key} (h : G.Perm G') : fB sum G = fB sum G' := by
 funext x; simp only [fB]; rw [h.count_eq]
theorem fB_le {sum : Nat} {G : List Key} {x : Key} : fB sum G x ≤ G.length := by
 unfold fB; split
 ·exact List.count_le_length
 ·omega
theorem sConv_i64 {k : IntKind} {x : Nat} {K : AV → OP} (h : x ≤ 1000000) : sConv .i64 (.int k (x : Int)) K = K (I x) := by
 show intK (wrapF .i64 (x : Int)) (fun z => K (.int .i64 z)) = _
 rw [intK_eq, wrapF_eq, wrap64_in (by omega)]
theorem sSub_u8 {x y : Nat} {K : AV → OP} (h : y ≤ x) (hx : x < 256) : sBin .sub .int (u8 x) (u8 y) K = K (u8 (x - y)) := by
 rw [sSubW, IntKind.wrap_u8]
 have : u8 (x - y) = .int .u8 (((x : Int) - (y : Int)) % 256) := by unfold u8; congr 1; omega
 rw [this]
theorem F31.rest {N : Nat} {K0 : Kw Prop} {E0 E1 K : Ks Prop} {h0 h : T Blk} {nx : Pa} {L : List Ob} {x0 x1 x3 x4 x5 x6 x7 x8 x9 x11 x13 x14 x15 x16 x17 x18 x21 x22 : AV} {xb rb : Pa} {x : Key} {sum m : Nat} (hN : 1000 < N) (hm : m ≤ 128) (hx : x.length = m) (hv : ∀ v ∈ x, v < 256) {s : Int} (hs : m = 0 ∨ (s = sum ∧ sum ≤ 255))
  (H : Hp h0 h nx (.arr rb (yM (List.replicate m 0)) :: .arr xb (yM x) :: L))
  (hno : ∀ x13 x20 x21 x22 h' nx', ¬ x.all (fun v => decide (v ≤ sum)) = true → Hp h0 h' nx' L → E1 (F31.fr x0 x1 (I s) x3 x4 x5 x6 x7 x8 x9 (.ptr xb 0) x11 (.ptr rb 0) x13 x14 x15 x16 x17 x18 (I m) x20 x21 x22) h' nx' = .ok True)
  (hK : ∀ x13 x20 x21 x22 h' nx', x.all (fun v => decide (v ≤ sum)) = true → Hp h0 h' nx' (.arr rb (yM (x.map fun v => sum - v)) :: .arr xb (yM x) :: L) → K (F31.fr x0 x1 (I s) x3 x4 x5 x6 x7 x8 x9 (.ptr xb 0) x11 (.ptr rb 0) x13 x14 x15 x16 x17 x18 (I m) x20 x21 x22) h' nx' = .ok True) :
  IR.run F31.b9 (CS Tryz.prog B) N (((fnO F31.res K0).blk 0 E0).blk 1 E1) K (F31.fr x0 x1 (I s) x3 x4 x5 x6 x7 x8 x9 (.ptr xb 0) x11 (.ptr rb 0) x13 x14 x15 x16 x17 x18 (I m) (I 0) x21 x22) h nx = .ok True := by
 refine F31.L9 (fun m' x20 h' nx' => ∃ j : Nat, x20 = I j ∧ m - j = m' ∧ j ≤ m ∧ (x.take j).all (fun v => decide (v ≤ sum)) = true ∧ Hp h0 h' nx' (.arr rb (yM ((x.take j).map (fun v => sum - v) ++ List.replicate (m - j) 0)) :: .arr xb (yM x) :: L)) (m := m) (by omega) ⟨0, rfl, rfl, by omega, rfl, H⟩ ?_
 rintro m' z13 z20 z21 z22 h1 nx1 R ⟨j, rfl, rfl, hj, hall, H1⟩ hR
 simp (disch := omega) only [sAdd, sSub, sMul, sEql, sNeq, sLss, sLeq, sGtr, sGeq, zH, zG, zA, zB, zX, zO, zV, yB, zN, yC, zZ, yH, zR, zQ, zP, zF, zL, zI, zC, decide_true, decide_false, Bool.not_true, Bool.not_false, zS]
 by_cases hlt : j < m
 case neg =>
  simp only [show ¬ (j : Int) < (m : Int) by omega, decide_false, zB]
  obtain rfl : j = m := by omega
  rw [List.take_of_length_le (by omega)] at hall H1
  exact hK _ _ _ _ _ _ hall (H1.cast (by simp))
 simp only [show (j : Int) < (m : Int) by omega, decide_true, zA]
 have hjx : j < x.length := by omega
 have hxj : x[j]? = some x[j] := List.getElem?_eq_getElem hjx
 have hv1 := hv _ (List.getElem_mem hjx)
 obtain ⟨rfl, hs'⟩ := hs.resolve_left (by omega)
 rw [sAx (i := j) rfl (by omega), H1.load (k := 1) rfl (cellsK_get hxj), sConv_i64 (by omega)]
 simp (disch := omega) only [sAdd, sSub, sMul, sEql, sNeq, sLss, sLeq, sGtr, sGeq, zH, zG, zA, zB, zX, zO, zV, yB, zN, yC, zZ, yH, zR, zQ, zP, zF, zL, zI, zC, decide_true, decide_false, Bool.not_true, Bool.not_false, zS]
 by_cases hle : x[j] ≤ sum
 case neg =>
  simp only [show (sum : Int) < (x[j] : Int) by omega, decide_true, zA]
  refine hno _ _ _ _ _ _ (fun q => ?_) H1.drop.drop
  have := List.all_eq_true.1 q _ (List.getElem_mem hjx)
  exact hle (of_decide_eq_true this)
 simp only [show ¬ (sum : Int) < (x[j] : Int) by omega, decide_false, zB]
 have hlen : ((x.take j).map (fun v => sum - v) ++ List.replicate (m - j) 0).length = m := by simp; omega
 rw [sConv_u8, Nat.mod_eq_of_lt (show sum < 256 by omega), sAx (i := j) rfl (by omega), H1.load (k := 1) rfl (cellsK_get hxj), sSub_u8 hle (by omega), sAx (i := j) rfl (by omega)]
 refine H1.store (k := 0) rfl (by rw [yT (by omega)]; omega) rfl fun h2 H2 => ?_
 refine hR (m - (j + 1)) _ _ _ _ _ _ (by omega) ⟨j + 1, by congr 1, rfl, by omega, ?_, H2.cast ?_⟩
 ·rw [List.take_add_one, hxj, List.all_append, hall]
  simp [hle]
 ·rw [List.set_cons_zero, cellsK_set (by omega), List.take_add_one, hxj]
  congr 3
  rw [List.set_append_right _ _ (by simp; omega)]
  have e : m - j = (m - (j + 1)) + 1 := by omega
  have e2 : j - ((x.take j).map fun v => sum - v).length = 0 := by simp; omega
  rw [e, e2, List.replicate_succ, List.set_cons_zero]
  simp only [Option.toList_some, List.map_append, List.map_cons, List.map_nil, List.append_assoc, List.cons_append, List.nil_append]
theorem sum_len {α : Type} {f : α → Nat} {M : Nat} : ∀ (l : List α), (∀ i ∈ l, f i ≤ M) → (l.map f).sum ≤ l.length * M
 | [], _ => by simp
 | a :: l, h => by
  have h1 := h a (by simp)
  have h2 := sum_len l fun i hi => h i (by simp [hi])
  rw [List.map_cons, List.sum_cons, List.length_cons, Nat.add_mul]; omega
abbrev termB (ks GL GR : List Key) (sum i : Nat) : Nat := GL.count (ks.getD i []) * fB sum GR (ks.getD i [])
theorem F31.meet {N : Nat} {K0 : Kw Prop} {K : Ks Prop} {h0 h : T Blk} {nx : Pa} {L : List Ob} {x0 x1 x4 x5 x6 x7 x10 x11 x12 x13 x14 x15 x16 x18 x19 x20 x21 x22 : AV} {it lid rid bx : Pa} {lines : List (List Int)} {ksL GL ksR GR : List Key} {sum cells : Nat} {s : Int} (hN : 100000000 < N) (hm : lines.length ≤ 128) (hs : lines.length = 0 ∨ (s = sum ∧ sum ≤ 255)) (OL : KsOk lines.length ksL GL) (OR : KsOk lines.length ksR GR) (hL : GL.length ≤ 1000000) (hR0 : GR.length ≤ 1000000) (hkl : ksL.length ≤ 1000000) (hlt : ∀ y ∈ GL, ∀ v ∈ y, v < 256)
  (H : Hp h0 h nx (.iter it lid (ksL.map (entK (cntV GL))).length [] (ksL.map (entK (cntV GL))).length :: .map lid (ksL.map (entK (cntV GL))) :: .map rid (ksR.map (entK (cntV GR))) :: .arr bx [I cells, encT lines] :: L))
  (hK : ∀ x10 x11 x12 x13 x18 x19 x20 x21 x22 h' nx' L', Hp h0 h' nx' L' → K (F31.fr x0 x1 (I s) (.ptr bx 0) x4 x5 x6 x7 (.map rid) (I ((GL.map (fB sum GR)).sum : Nat)) x10 x11 x12 x13 x14 x15 x16 (.ptr it 0) x18 x19 x20 x21 x22) h' nx' = .ok True) :
  IR.run F31.b4 (CS Tryz.prog B) N (fnO F31.res K0) K (F31.fr x0 x1 (I s) (.ptr bx 0) x4 x5 x6 x7 (.map rid) (I 0) x10 x11 x12 x13 x14 x15 x16 (.ptr it 0) x18 x19 x20 x21 x22) h nx = .ok True := by
 refine F31.L4 (fun m' x9 h' nx' => ∃ (seen : List Nat), x9 = I ((seen.map (termB ksL GL GR sum)).sum : Nat) ∧ (gA ksL.length seen).length = m' ∧ seen.length + m' = ksL.length ∧ seen.Nodup ∧ (∀ i ∈ seen, i < ksL.length) ∧
  Hp h0 h' nx' (.iter it lid (ksL.map (entK (cntV GL))).length seen (ksL.map (entK (cntV GL))).length :: .map lid (ksL.map (entK (cntV GL))) :: .map rid (ksR.map (entK (cntV GR))) :: .arr bx [I cells, encT lines] :: L)) (m := ksL.length) (by omega) ⟨[], rfl, by (have e : gA ksL.length [] = List.range ksL.length := List.filter_eq_self.2 (by simp)); rw [e]; simp, by simp, by simp, by simp, H⟩ ?_
 rintro m' z9 z10 z11 z12 z13 z18 z19 z20 z21 z22 h1 nx1 R ⟨seen, rfl, rfl, hsl, hnd, hse, H1⟩ hR
 refine H1.next (k := 0) (j := 1) rfl rfl (fun hall => ?_) fun i a b h2 hi hns hab H2 => ?_
 ·simp (disch := omega) only [sAdd, sSub, sMul, sEql, sNeq, sLss, sLeq, sGtr, sGeq, zH, zG, zA, zB, zX, zO, zV, yB, zN, yC, zZ, yH, zR, zQ, zP, zF, zL, zI, zC, decide_true, decide_false, Bool.not_true, Bool.not_false, zS]
  have hsp := seen_perm hnd hse fun i hi => hall i (by simpa using hi)
  have e : (seen.map (termB ksL GL GR sum)).sum = (GL.map (fB sum GR)).sum := by
   rw [sum_perm _ hsp, ← sum_keys OL]
   have : ksL = (List.range ksL.length).map fun i => ksL.getD i [] := rowL_self ksL []
   conv => rhs; rw [this]
   rw [List.map_map]
   rfl
  rw [e]
  exact hK _ _ _ _ _ _ _ _ _ _ _ _ H1
 ·have hi' : i < ksL.length := by simpa using hi
  obtain ⟨x, hx⟩ : ∃ x, ksL[i]? = some x := ⟨_, List.getElem?_eq_getElem hi'⟩
  have hxm := List.mem_of_getElem? hx
  rw [List.getElem?_map, hx] at hab
  obtain ⟨rfl, rfl⟩ : encK x = a ∧ cntV GL x = b := by simpa [entK] using hab
  have hgx : ksL.getD i [] = x := by rw [List.getD_eq_getElem?_getD, hx]; rfl
  have hxl := OL.klen x hxm
  have hcx2 : GL.count x ≤ GL.length := List.count_le_length
  simp (disch := omega) only [sAdd, sSub, sMul, sEql, sNeq, sLss, sLeq, sGtr, sGeq, zH, zG, zA, zB, zX, zO, zV, yB, zN, yC, zZ, yH, zR, zQ, zP, zF, zL, zI, zC, decide_true, decide_false, Bool.not_true, Bool.not_false, zS]
  have hent : (ksL.map (entK (cntV GL)))[i]? = some (encK x, cntV GL x) := by rw [List.getElem?_map, hx]; rfl
  rw [H2.entry (k := 0) (j := 1) rfl rfl hent]
  simp (disch := omega) only [sAdd, sSub, sMul, sEql, sNeq, sLss, sLeq, sGtr, sGeq, zH, zG, zA, zB, zX, zO, zV, yB, zN, yC, zZ, yH, zR, zQ, zP, zF, zL, zI, zC, decide_true, decide_false, Bool.not_true, Bool.not_false, zS]
  refine H2.alloc fun xb h3 nx3 H3 => ?_
  refine H3.storeN (k := 0) rfl rfl (yT (by omega)) fun h4 H4 => ?_
  refine H4.alloc fun rb h5 nx5 H5 => ?_
  rw [sFx, H5.load (k := 5) (i := 0 + 1) rfl rfl]
  simp (disch := omega) only [sAdd, sSub, sMul, sEql, sNeq, sLss, sLeq, sGtr, sGeq, zH, zG, zA, zB, zX, zO, zV, yB, zN, yC, zZ, yH, zR, zQ, zP, zF, zL, zI, zC, decide_true, decide_false, Bool.not_true, Bool.not_false, zS]
  have hst := leftA_step hi' hns
  have hterm : termB ksL GL GR sum i = GL.count x * fB sum GR x := by rw [termB, hgx]
  have hb : ∀ j ∈ seen, termB ksL GL GR sum j ≤ 1000000 * 1000000 := fun j _ => Nat.mul_le_mul (Nat.le_trans List.count_le_length hL) (Nat.le_trans fB_le hR0)
  have hfl := sum_len seen hb
  have hsl2 : seen.length * (1000000 * 1000000) ≤ 1000000 * (1000000 * 1000000) := Nat.mul_le_mul_right _ (by omega)
  have hres : ∀ (v : Nat) (hv : v = termB ksL GL GR sum i) (h' : T Blk) (w10 w11 w12 w13 w18 w19 w20 w21 w22 : AV) (nx' : Pa), Hp h0 h' nx' (.iter it lid (ksL.map (entK (cntV GL))).length (i :: seen) (ksL.map (entK (cntV GL))).length :: .map lid (ksL.map (entK (cntV GL))) :: .map rid (ksR.map (entK (cntV GR))) :: .arr bx [I cells, encT lines] :: L) →
    R (F31.fr x0 x1 (I s) (.ptr bx 0) x4 x5 x6 x7 (.map rid) (I (((seen.map (termB ksL GL GR sum)).sum : Nat) + (v : Int))) w10 w11 w12 w13 x14 x15 x16 (.ptr it 0) w18 w19 w20 w21 w22) h' nx' = .ok True := by
   rintro v rfl h' w10 w11 w12 w13 w18 w19 w20 w21 w22 nx' H'
   refine hR _ _ _ _ _ _ _ _ _ _ _ _ _ (by omega) ⟨i :: seen, ?_, rfl, by simp; omega, List.nodup_cons.2 ⟨hns, hnd⟩, fun j hj => ?_, H'⟩
   ·congr 1
    rw [List.map_cons, List.sum_cons]; omega
   ·rcases List.mem_cons.1 hj with rfl | q
    ·exact hi'
    ·exact hse j q
  have H6 : Hp h0 h5 nx5 (.arr rb (yM (List.replicate lines.length 0)) :: .arr xb (yM x) :: .iter it lid (ksL.map (entK (cntV GL))).length (i :: seen) (ksL.map (entK (cntV GL))).length :: .map lid (ksL.map (entK (cntV GL))) :: .map rid (ksR.map (entK (cntV GR))) :: .arr bx [I cells, encT lines] :: L) := H5.cast (by rw [cellsK_zero hm]; rfl)
  have hcm : ((GL.count x : Int) * ((fB sum GR x : Nat) : Int)) = ((termB ksL GL GR sum i : Nat) : Int) := by rw [hterm, Int.natCast_mul]
  have htl : termB ksL GL GR sum i ≤ 1000000 * 1000000 := by
   rw [hterm]; exact Nat.mul_le_mul (by omega) (Nat.le_trans fB_le hR0)
  refine F31.rest (m := lines.length) (x := x) (sum := sum) (by omega) hm hxl (hlt x ((OL.mem x).1 hxm)) hs H6 (fun y13 y20 y21 y22 h7 nx7 hall H7 => ?_) fun y13 y20 y21 y22 h7 nx7 hall H7 => ?_
  ·have := hres 0 (by rw [hterm, fB, if_neg hall]; simp) h7 (.ptr xb 0) (cntV GL x) (.ptr rb 0) y13 (.bool true) (I lines.length) y20 y21 y22 nx7 H7
   simpa using this
  ·rw [F31.k17]
   have hrl : (x.map fun v => sum - v).length = lines.length := by rw [List.length_map]; exact hxl
   rw [H7.loadN (k := 0) rfl (yT (by omega))]
   have hlk := fun op => sLook_map (op := op) hm H7 (k := 4) (id := rid) rfl OR hrl
   refine Eq.trans (b := sLook (.agg 128) (I 0) false (.map rid) (encK (x.map fun v => sum - v)) h7 _) rfl ?_
   rw [hlk]
   have hf : fB sum GR x = GR.count (x.map fun v => sum - v) := by rw [fB, if_pos hall]
   rw [cntV, cntV, ← hf, sMul (by omega), hcm, sAdd (by omega)]
   exact hres _ rfl h7 _ _ _ _ _ _ _ _ _ nx7 H7.drop.drop
end Go.Ev
namespace Go.Ev
open Go Go.Proofs
variable {B : Nat}
theorem half_q (n : Nat) : ((n : Int)).tdiv 2 = ((n / 2 : Nat) : Int) := by
 rw [Int.tdiv_eq_ediv_of_nonneg (by omega)]; omega
theorem sQuo2 {n : Nat} {K : AV → OP} (h : n ≤ 1000000) : sBin .quo .int (I (n : Int)) (I 2) K = K (I ((n / 2 : Nat) : Int)) := by
 have e : sBin .quo .int (I (n : Int)) (I 2) K = (bif ieq (2 : Int) 0 then Out.no 5 else intK (IntKind.wrap .i64 ((n : Int).tdiv 2)) fun z => K (.int .i64 z)) := rfl
 rw [e, show ieq (2 : Int) 0 = false from rfl, cond_false, intK_eq, half_q, wrap64_in (by omega)]
theorem sG_undef (b : Bool) (op : (AV → OP) → OP) (K : AV → OP) : sG .undef b op K = K .undef := nr rfl
theorem bounded31 {lines : List (List Int)} {cells most : Nat} {s : Int} (hm : lines.length ≤ 128) (hw : ∀ l ∈ lines, l.length ≤ 1000) (hl : ∀ l ∈ lines, ∀ c ∈ l, 0 ≤ c ∧ c < (cells : Int)) (hcl : cells ≤ 16) (hmost : most ≤ 9) (hpow : (most + 1) ^ (cells - cells / 2) ≤ 1000000)
  (h87 : Pure Tryz.prog B 87 [.agg [I cells, encT lines], I most] (· = I 0)) (h88 : Pure Tryz.prog B 88 [I ((cells - cells / 2 : Nat) : Int), I most] (· = .bool false)) :
  Pure Tryz.prog B 31 [.agg [I cells, encT lines], I most, I s] (· = .tup [I (if 0 < lines.length ∧ (s < 0 ∨ 255 < s) then 0 else (bsum lines most s.toNat (cells / 2) cells : Nat)), I 0]) := by
 refine uA fun h nx K H0 hK => yQ yW dreg 1000000000 fun hf => ?_
 rw [F31.go]
 refine H0.box (l := [I cells, encT lines]) rfl fun bx h1 nx1 H1 => ?_
 rw [H1.loadN (k := 0) (n := 2) rfl rfl]
 refine h87 _ _ _ _ ?_
 rintro _ rfl _
 simp (disch := omega) only [sAdd, sSub, sMul, sEql, sNeq, sLss, sLeq, sGtr, sGeq, zH, zG, zA, zB, zX, zO, zV, yB, zN, yC, zZ, yH, zR, zQ, zP, zF, zL, zI, zC, decide_true, decide_false, Bool.not_true, Bool.not_false, zS]
 rw [sFx, H1.load (k := 0) (i := 0) rfl rfl, sQuo2 (by omega), sFx, H1.load (k := 0) (i := 0) rfl rfl, sSub (by omega), show (cells : Int) - ((cells / 2 : Nat) : Int) = ((cells - cells / 2 : Nat) : Int) by omega]
 refine h88 _ _ _ _ ?_
 rintro _ rfl _
 rw [zB, sFx, H1.load (k := 0) (i := 0 + 1) rfl rfl]
 simp (disch := omega) only [sAdd, sSub, sMul, sEql, sNeq, sLss, sLeq, sGtr, sGeq, zH, zG, zA, zB, zX, zO, zV, yB, zN, yC, zZ, yH, zR, zQ, zP, zF, zL, zI, zC, decide_true, decide_false, Bool.not_true, Bool.not_false, zS]
 have ret : ∀ v : Int, v = (if 0 < lines.length ∧ (s < 0 ∨ 255 < s) then (0 : Int) else ((bsum lines most s.toNat (cells / 2) cells : Nat) : Int)) → ∀ h' nx' L, Hp h h' nx' L → K (.tup [I v, I 0]) h' nx' = .ok True := fun v hv h' nx' L H => by
  rw [hv]; exact hK _ _ _ L _ H (frz_tup2 (jD rfl) (jD rfl)) rfl
 by_cases hz : 0 < lines.length ∧ (s < 0 ∨ 255 < s)
 ·rw [if_pos hz] at ret
  simp only [show (0 : Int) < (lines.length : Int) by omega, decide_true, zX]
  by_cases hs0 : s < 0
  ·simp only [sLss, hs0, decide_true, zV, zH, zA]
   exact ret 0 rfl _ _ _ H1
  ·simp only [sLss, sGtr, hs0, show (255 : Int) < s by omega, decide_true, decide_false, zO, zH, zG, zA]
   exact ret 0 rfl _ _ _ H1
 rw [if_neg hz] at ret
 have fin : ∀ z5 z6 z14 z15 z16, IR.run F31.b3 (CS Tryz.prog B) 1000000000 (fnO F31.res K) (retK F31.res K) (F31.fr (.agg [I cells, encT lines]) (I most) (I s) (.ptr bx 0) (I 0) z5 z6 (I ((cells / 2 : Nat) : Int)) .undef .undef .undef .undef .undef .undef z14 z15 z16 .undef .undef .undef .undef .undef .undef) h1 nx1 = .ok True := by
  intro z5 z6 z14 z15 z16
  rw [F31.k3, H1.loadN (k := 0) (n := 2) rfl rfl, sFx, H1.load (k := 0) (i := 0) rfl rfl]
  refine tally89 (cells := cells) hm hw hl (by omega) (by omega) (Nat.le_refl _) (by omega) hpow H1 fun h2 nx2 rid ksR GR OR hpR H2 => ?_
  rw [H2.loadN (k := 1) (n := 2) rfl rfl]
  refine tally89 (fr := 0) (cells := cells) hm hw hl (by omega) (by omega) (by omega) (by omega) (by rw [Nat.sub_zero]; exact Nat.le_trans (Nat.pow_le_pow_right (by omega) (by omega)) hpow) H2 fun h3 nx3 lid ksL GL OL hpL H3 => ?_
  rw [Nat.sub_zero] at hpL
  refine H3.range (k := 0) rfl fun it h4 nx4 H4 => ?_
  have hLl : GL.length ≤ 1000000 := by
   rw [hpL.length_eq, gV]
   exact Nat.le_trans (Nat.pow_le_pow_right (by omega) (by omega)) hpow
  have hRl : GR.length ≤ 1000000 := by rw [hpR.length_eq, gV]; exact hpow
  have hkl : ksL.length ≤ GL.length := by
   have h1 := (perm_self ksL GL OL.nd OL.mem).length_eq
   rw [← h1, List.length_flatMap]
   have : ∀ l : List Key, (∀ y ∈ l, y ∈ GL) → l.length ≤ (l.map fun x => (List.replicate (GL.count x) x).length).sum := by
    intro l
    induction l with
    | nil => simp
    | cons a l ih =>
     intro h
     have h2 := ih fun y hy => h y (by simp [hy])
     have h3 : 1 ≤ GL.count a := List.count_pos_iff.2 (h a (by simp))
     simp only [List.map_cons, List.sum_cons, List.length_cons, List.length_replicate] at h2 ⊢
     omega
   exact this ksL fun y hy => (OL.mem y).1 hy
  refine F31.meet (sum := s.toNat) (cells := cells) (by decide) hm (by omega) OL OR hLl hRl (by omega) (fun y hy => tallyT_lt _ _ _ _ y (hpL.mem_iff.1 hy)) H4 fun w10 w11 w12 w13 w18 w19 w20 w21 w22 h5 nx5 L5 H5 => ?_
  rw [F31.k18]
  refine ret _ ?_ _ _ _ H5
  rw [sum_perm _ hpL, fB_perm hpR]; rfl
 by_cases hl0 : 0 < lines.length
 ·simp only [show (0 : Int) < (lines.length : Int) by omega, decide_true, zX, sLss, sGtr, show ¬ s < 0 by omega, show ¬ (255 : Int) < s by omega, decide_false, zO, zH, zG, zB]
  exact fin _ _ _ _ _
 ·simp only [show ¬ (0 : Int) < (lines.length : Int) by omega, decide_false, yB, sG_undef, zG, zB]
  exact fin _ _ _ _ _
end Go.Ev
namespace Go.Ev
open Go Go.Proofs
variable {B : Nat}
theorem when123 (b : Bool) (e : Int) : Pure Tryz.prog B 123 [.bool b, I e] (· = I (if b then e else 0)) := by
 intro p h nx K hK
 refine yQ yW dreg 9 fun hf => ?_
 rw [F123.go]
 cases b <;> simp (disch := omega) only [sAdd, sSub, sMul, sEql, sNeq, sLss, sLeq, sGtr, sGeq, zH, zG, zA, zB, zX, zO, zV, yB, zN, yC, zZ, yH, zR, zQ, zP, zF, zL, zI, zC, decide_true, decide_false, Bool.not_true, Bool.not_false, zS] <;> exact hK _ rfl hf
def gJ : List Int → Int
 | [] => 0
 | e :: l => if e ≠ 0 then e else gJ l
theorem firstE_skip : ∀ (l : List Int) (i : Nat), (∀ e ∈ l.take i, e = 0) → gJ l = gJ (l.drop i)
 | l, 0, _ => rfl
 | [], _ + 1, _ => rfl
 | e :: l, i + 1, h => by
  have h0 : e = 0 := h e (by simp)
  rw [gJ, if_neg (by simp [h0]), List.drop_succ_cons]
  exact firstE_skip l i fun x hx => h x (by simp [hx])
theorem first121 {l : List Int} (hl : l.length ≤ 1000000) : Pure Tryz.prog B 121 [encI l] (· = I (gJ l)) := by
 intro p h nx K hK
 refine yQ yW dreg 10000000 fun hf => ?_
 rw [F121.go]
 simp (disch := omega) only [sAdd, sSub, sMul, sEql, sNeq, sLss, sLeq, sGtr, sGeq, zH, zG, zA, zB, zX, zO, zV, yB, zN, yC, zZ, yH, zR, zQ, zP, zF, zL, zI, zC, decide_true, decide_false, Bool.not_true, Bool.not_false, zS]
 refine F121.L1 (fun m z5 h' nx' => ∃ i : Nat, z5 = I i ∧ l.length - i = m ∧ i ≤ l.length ∧ h' = h ∧ nx' = nx ∧ ∀ e ∈ l.take i, e = 0) (m := l.length) (by omega) ⟨0, rfl, rfl, by omega, rfl, rfl, by simp⟩ ?_
 rintro m z1 z2 z5 z6 z7 _ _ R ⟨i, rfl, rfl, hi, rfl, rfl, htk⟩ hR
 simp (disch := omega) only [sAdd, sSub, sMul, sEql, sNeq, sLss, sLeq, sGtr, sGeq, zH, zG, zA, zB, zX, zO, zV, yB, zN, yC, zZ, yH, zR, zQ, zP, zF, zL, zI, zC, decide_true, decide_false, Bool.not_true, Bool.not_false, zS]
 by_cases hlt : i < l.length
 ·simp only [show (i : Int) < (l.length : Int) by omega, decide_true, zA]
  have hx : l[i]? = some l[i] := List.getElem?_eq_getElem hlt
  rw [sIxL rfl hlt, ldL (getI hx)]
  simp (disch := omega) only [sAdd, sSub, sMul, sEql, sNeq, sLss, sLeq, sGtr, sGeq, zH, zG, zA, zB, zX, zO, zV, yB, zN, yC, zZ, yH, zR, zQ, zP, zF, zL, zI, zC, decide_true, decide_false, Bool.not_true, Bool.not_false, zS]
  have hd : l.drop i = l[i] :: l.drop (i + 1) := List.drop_eq_getElem_cons hlt
  by_cases h0 : l[i] = 0
  ·simp only [h0, decide_true, Bool.not_true, zB]
   refine hR _ _ _ _ _ _ _ _ (by omega) ⟨i + 1, rfl, rfl, by omega, rfl, rfl, fun e he => ?_⟩
   rw [List.take_add_one, hx] at he
   rcases List.mem_append.1 he with q | q
   ·exact htk e q
   ·simp at q; rw [q]; exact h0
  ·simp only [h0, decide_false, Bool.not_false, zA]
   refine hK _ ?_ hf
   rw [firstE_skip l i htk, hd, gJ, if_pos h0]
 ·simp only [show ¬ (i : Int) < (l.length : Int) by omega, decide_false, zB]
  rw [F121.k8]
  refine hK _ ?_ hf
  rw [firstE_skip l i htk, List.drop_of_length_le (by omega)]; rfl
theorem equal150 {a b : List Int} (ha : a.length ≤ 1000000000) : Pure Tryz.prog B 150 [encI a, encI b] (· = .bool (decide (a = b))) := by
 intro p h nx K hK
 refine yQ yW dreg (a.length + 2) fun hf => ?_
 rw [F150.go]
 simp (disch := omega) only [sAdd, sSub, sMul, sEql, sNeq, sLss, sLeq, sGtr, sGeq, zH, zG, zA, zB, zX, zO, zV, yB, zN, yC, zZ, yH, zR, zQ, zP, zF, zL, zI, zC, decide_true, decide_false, Bool.not_true, Bool.not_false, zS]
 by_cases hl : a.length = b.length
 ·simp only [hl, decide_true, Bool.not_true, zB]
  refine F150.L2 (fun m z6 h' nx' => ∃ i : Nat, z6 = I i ∧ a.length - i = m ∧ i ≤ a.length ∧ h' = h ∧ nx' = nx ∧ a.take i = b.take i) (m := a.length) (by omega) ⟨0, rfl, by simp, by omega, rfl, rfl, by simp⟩ ?_
  rintro m z2 z3 z6 z7 z8 _ _ R ⟨i, rfl, rfl, hi, rfl, rfl, htk⟩ hR
  simp (disch := omega) only [sAdd, sSub, sMul, sEql, sNeq, sLss, sLeq, sGtr, sGeq, zH, zG, zA, zB, zX, zO, zV, yB, zN, yC, zZ, yH, zR, zQ, zP, zF, zL, zI, zC, decide_true, decide_false, Bool.not_true, Bool.not_false, zS]
  by_cases hlt : i < a.length
  ·have hb : i < b.length := by omega
   simp only [show (i : Int) < (b.length : Int) by omega, decide_true, zA]
   rw [sIxL rfl hlt, ldL (getI (List.getElem?_eq_getElem hlt)), sIxL rfl hb, ldL (getI (List.getElem?_eq_getElem hb))]
   simp (disch := omega) only [sAdd, sSub, sMul, sEql, sNeq, sLss, sLeq, sGtr, sGeq, zH, zG, zA, zB, zX, zO, zV, yB, zN, yC, zZ, yH, zR, zQ, zP, zF, zL, zI, zC, decide_true, decide_false, Bool.not_true, Bool.not_false, zS]
   by_cases he : a[i] = b[i]
   ·simp only [he, decide_true, Bool.not_true, zB]
    refine hR (a.length - (i + 1)) _ _ _ _ _ _ _ (by omega) ⟨i + 1, rfl, rfl, by omega, rfl, rfl, ?_⟩
    rw [List.take_add_one, List.take_add_one, htk, List.getElem?_eq_getElem hlt, List.getElem?_eq_getElem hb, he]
   ·simp only [he, decide_false, Bool.not_false, zA]
    refine hK _ ?_ hf
    rw [decide_eq_false]
    rintro rfl
    exact he rfl
  ·simp only [show ¬ (i : Int) < (b.length : Int) by omega, decide_false, zB]
   rw [F150.k9]
   refine hK _ ?_ hf
   rw [List.take_of_length_le (by omega), List.take_of_length_le (by omega)] at htk
   rw [decide_eq_true htk]
 ·have h1 : ¬ (a.length : Int) = b.length := by omega
  simp only [h1, decide_false, Bool.not_false, zA]
  refine hK _ ?_ hf
  rw [decide_eq_false]
  rintro rfl; exact hl rfl
theorem contains148 {h0 h : T Blk} {nx : Pa} {L : List Ob} {k : Nat} {x p : Pa} {l : List Int} {prev : List (List Int)} {K : Kw Prop} (H : Hp h0 h nx L) (hk : L[k]? = some (.arr x [encI l])) (hp : prev.length ≤ 1000000) (hw : ∀ q ∈ prev, q.length ≤ 1000000)
  (hK : K (.bool (decide (l ∈ prev))) h nx = .ok True) : (CS Tryz.prog B).fn 148 p [encT prev, .fn 149 (.of 149) [.ptr x 0]] h nx K = .ok True := by
 refine uF (p := .of 148) (K := K) (yQ yW dreg 9 fun hf => ?_) fun _ _ _ _ q => q
 rw [F148.go]
 refine uF (p := .of 172) (K := fun v1 h2 n3 => sBin .geq .int v1 (I 0) fun v4 => K v4 h2 n3) (yQ yW dreg 10000000 fun hf => ?_) fun _ _ _ _ q => q
 rw [F172.go]
 simp (disch := omega) only [sAdd, sSub, sMul, sEql, sNeq, sLss, sLeq, sGtr, sGeq, zH, zG, zA, zB, zX, zO, zV, yB, zN, yC, zZ, yH, zR, zQ, zP, zF, zL, zI, zC, decide_true, decide_false, Bool.not_true, Bool.not_false, zS]
 refine F172.L1 (fun m z5 h' nx' => ∃ i : Nat, z5 = I i ∧ prev.length - i = m ∧ i ≤ prev.length ∧ h' = h ∧ nx' = nx ∧ l ∉ prev.take i) (m := prev.length) (by omega) ⟨0, rfl, rfl, by omega, rfl, rfl, by simp⟩ ?_
 rintro m z2 z3 z5 z6 z7 _ _ R ⟨i, rfl, rfl, hi, rfl, rfl, htk⟩ hR
 simp (disch := omega) only [sAdd, sSub, sMul, sEql, sNeq, sLss, sLeq, sGtr, sGeq, zH, zG, zA, zB, zX, zO, zV, yB, zN, yC, zZ, yH, zR, zQ, zP, zF, zL, zI, zC, decide_true, decide_false, Bool.not_true, Bool.not_false, zS]
 by_cases hlt : i < prev.length
 ·simp only [show (i : Int) < (prev.length : Int) by omega, decide_true, zA]
  have hx : prev[i]? = some prev[i] := List.getElem?_eq_getElem hlt
  rw [sIxL rfl hlt, ldL (getT hx), sCall_fn]
  refine uF (p := .of 149) (yQ yW dreg 9 fun hf => ?_) fun _ _ _ _ q => q
  show yJ tbl 9 _ (Pa.of 149) [encI prev[i], .ptr x 0] _ _ _ = _
  rw [F149.go, H.load (k := k) (i := 0) hk rfl]
  refine equal150 (Nat.le_trans (hw _ (List.getElem_mem hlt)) (by omega)) _ _ _ _ ?_
  rintro _ rfl _
  by_cases he : prev[i] = l
  ·simp only [he, decide_true, zA, sGeq, show (0 : Int) ≤ (i : Int) by omega]
   rw [decide_eq_true (he ▸ List.getElem_mem hlt)] at hK
   exact hK
  ·simp only [he, decide_false, zB]
   refine hR _ _ _ _ _ _ _ _ (by omega) ⟨i + 1, rfl, rfl, by omega, rfl, rfl, fun q => ?_⟩
   rw [List.take_add_one, hx] at q
   rcases List.mem_append.1 q with q | q
   ·exact htk q
   ·simp at q; exact he q.symm
 ·simp only [show ¬ (i : Int) < (prev.length : Int) by omega, decide_false, zB]
  rw [F172.k8]
  rw [List.take_of_length_le (by omega)] at htk
  rw [decide_eq_false htk] at hK
  simp only [sGeq, show ¬ (0 : Int) ≤ -1 by omega, decide_false]
  exact hK
end Go.Ev
namespace Go.Ev
open Go Go.Proofs
variable {B : Nat}
def yD (cells : Int) : Option Int → List Int → Int
 | _, [] => 0
 | p, c :: l => if c < 0 ∨ cells ≤ c then 10 else if p.any (fun q => decide (c ≤ q)) then 11 else yD cells (some c) l
def yP (cells : Int) (prev : List (List Int)) (l : List Int) : Int := if l = [] then 12 else if yD cells none l ≠ 0 then yD cells none l else if l ∈ prev then 9 else 0
def jI (cells : Int) : List (List Int) → List (List Int) → Int
 | _, [] => 0
 | prev, l :: r => if yP cells prev l ≠ 0 then yP cells prev l else jI cells (prev ++ [l]) r
def yO (cells : Int) (lines : List (List Int)) : Int := if cells < 1 ∨ 256 < cells then 3 else if 128 < lines.length then 5 else jI cells [] lines
def pv (l : List Int) (k : Nat) : Option Int := if k = 0 then none else l[k - 1]?
theorem pv_succ {l : List Int} {k : Nat} (h : k < l.length) : pv l (k + 1) = some l[k] := by simp [pv, h]
theorem short25 {cells a b : Int} {lines : List (List Int)} (hb : b ≤ 1000000) : Pure Tryz.prog B 25 [.agg [I cells, encT lines], I a, I b] (· = .bool (decide ((lines.length : Int) ≤ b ∧ ∀ l ∈ lines, (l.length : Int) ≤ a))) := by
 refine uA fun h nx K H0 hK => yQ yW dreg 10000000 fun hf => ?_
 rw [F25.go]
 refine H0.box (l := [I cells, encT lines]) rfl fun bx h1 nx1 H1 => ?_
 rw [sFx, H1.load (k := 0) (i := 0 + 1) rfl rfl]
 simp (disch := omega) only [sAdd, sSub, sMul, sEql, sNeq, sLss, sLeq, sGtr, sGeq, zH, zG, zA, zB, zX, zO, zV, yB, zN, yC, zZ, yH, zR, zQ, zP, zF, zL, zI, zC, decide_true, decide_false, Bool.not_true, Bool.not_false, zS]
 have ret : ∀ v : Bool, v = decide ((lines.length : Int) ≤ b ∧ ∀ l ∈ lines, (l.length : Int) ≤ a) → K (.bool v) h1 nx1 = .ok True := fun v hv => by rw [hv]; exact hK _ _ _ _ _ H1 (jD rfl) rfl
 by_cases hlen : b < (lines.length : Int)
 ·simp only [hlen, decide_true, zA]
  refine ret _ ?_
  rw [decide_eq_false]
  rintro ⟨q, _⟩; omega
 simp only [hlen, decide_false, zB]
 refine F25.L2 (fun m z5 h' nx' => ∃ i : Nat, z5 = I i ∧ lines.length - i = m ∧ i ≤ lines.length ∧ h' = h1 ∧ nx' = nx1 ∧ ∀ l ∈ lines.take i, (l.length : Int) ≤ a) (m := lines.length) (by omega) ⟨0, rfl, rfl, by omega, rfl, rfl, by simp⟩ ?_
 rintro m z4 z5 z7 z8 _ _ R ⟨i, rfl, rfl, hi, rfl, rfl, htk⟩ hR
 rw [sFx, H1.load (k := 0) (i := 0 + 1) rfl rfl]
 simp (disch := omega) only [sAdd, sSub, sMul, sEql, sNeq, sLss, sLeq, sGtr, sGeq, zH, zG, zA, zB, zX, zO, zV, yB, zN, yC, zZ, yH, zR, zQ, zP, zF, zL, zI, zC, decide_true, decide_false, Bool.not_true, Bool.not_false, zS]
 by_cases hlt : i < lines.length
 ·simp only [show (i : Int) < (lines.length : Int) by omega, decide_true, zA]
  have hx : lines[i]? = some lines[i] := List.getElem?_eq_getElem hlt
  rw [sFx, H1.load (k := 0) (i := 0 + 1) rfl rfl, sIxL rfl hlt, ldL (getT hx)]
  simp (disch := omega) only [sAdd, sSub, sMul, sEql, sNeq, sLss, sLeq, sGtr, sGeq, zH, zG, zA, zB, zX, zO, zV, yB, zN, yC, zZ, yH, zR, zQ, zP, zF, zL, zI, zC, decide_true, decide_false, Bool.not_true, Bool.not_false, zS]
  by_cases hw : a < (lines[i].length : Int)
  ·simp only [hw, decide_true, zA]
   refine ret _ ?_
   rw [decide_eq_false]
   rintro ⟨_, q⟩
   have := q _ (List.getElem_mem hlt)
   omega
  ·simp only [hw, decide_false, zB]
   refine hR _ _ _ _ _ _ _ (by omega) ⟨i + 1, rfl, rfl, by omega, rfl, rfl, fun l hl => ?_⟩
   rw [List.take_add_one, hx] at hl
   rcases List.mem_append.1 hl with q | q
   ·exact htk l q
   ·simp at q; rw [q]; omega
 ·simp only [show ¬ (i : Int) < (lines.length : Int) by omega, decide_false, zB]
  rw [F25.k9]
  rw [List.take_of_length_le (by omega)] at htk
  refine ret _ ?_
  rw [decide_eq_true ⟨by omega, htk⟩]
theorem hasLine84 {prev : List (List Int)} {l : List Int} (hp : prev.length ≤ 1000000) (hw : ∀ q ∈ prev, q.length ≤ 1000000000) : Pure Tryz.prog B 84 [encT prev, encI l] (· = .bool (decide (l ∈ prev))) := by
 intro p h nx K hK
 refine yQ yW dreg 10000000 fun hf => ?_
 rw [F84.go]
 refine F84.L1 (fun m z3 h' nx' => ∃ i : Nat, z3 = I i ∧ prev.length - i = m ∧ i ≤ prev.length ∧ h' = h ∧ nx' = nx ∧ l ∉ prev.take i) (m := prev.length) (by omega) ⟨0, rfl, rfl, by omega, rfl, rfl, by simp⟩ ?_
 rintro m z2 z3 z4 z5 _ _ R ⟨i, rfl, rfl, hi, rfl, rfl, htk⟩ hR
 simp (disch := omega) only [sAdd, sSub, sMul, sEql, sNeq, sLss, sLeq, sGtr, sGeq, zH, zG, zA, zB, zX, zO, zV, yB, zN, yC, zZ, yH, zR, zQ, zP, zF, zL, zI, zC, decide_true, decide_false, Bool.not_true, Bool.not_false, zS]
 by_cases hlt : i < prev.length
 ·simp only [show (i : Int) < (prev.length : Int) by omega, decide_true, zA]
  have hx : prev[i]? = some prev[i] := List.getElem?_eq_getElem hlt
  rw [sIxL rfl hlt, ldL (getT hx)]
  refine sameInts35 (hw _ (List.getElem_mem hlt)) _ _ _ _ ?_
  rintro _ rfl _
  by_cases he : prev[i] = l
  ·simp only [he, decide_true, zA]
   refine hK _ ?_ hf
   rw [decide_eq_true (he ▸ List.getElem_mem hlt)]
  ·simp only [he, decide_false, zB]
   refine hR _ _ _ _ _ _ _ (by omega) ⟨i + 1, rfl, rfl, by omega, rfl, rfl, fun q => ?_⟩
   rw [List.take_add_one, hx] at q
   rcases List.mem_append.1 q with q | q
   ·exact htk q
   ·simp at q; exact he q.symm
 ·simp only [show ¬ (i : Int) < (prev.length : Int) by omega, decide_false, zB]
  rw [F84.k8]
  rw [List.take_of_length_le (by omega)] at htk
  refine hK _ ?_ hf
  rw [decide_eq_false htk]
end Go.Ev
namespace Go.Ev
open Go Go.Proofs
variable {B : Nat}
theorem sSliceF {n i : Nat} {l : List AV} {op : AV → OP} (hn : 1 ≤ n) (hi : i ≤ n) : sSlice 1 (.lst 1 n l) none (some (I (i : Int))) none op = op (.lst 1 i (l.take i)) := by
 show (bif Nat.beq 1 1 && Nat.ble 1 n then (match bnd (some (I (i : Int))) n n with | none => Out.no 17 | some h => match bnd none h 0 with | none => .no 17 | some q => op (.lst 1 (h - q) ((l.drop (q * 1)).take ((h - q) * 1)))) else .no 17) = _
 rw [Nat.ble_eq_true_of_le hn]
 have : bnd (some (I (i : Int))) n n = some i := by
  show (bif Nat.ble i n then some i else none) = _
  rw [Nat.ble_eq_true_of_le hi]; rfl
 rw [this]
 show op (.lst 1 (i - 0) ((l.drop (0 * 1)).take ((i - 0) * 1))) = _
 simp
theorem sysErr27 {cells : Int} {lines : List (List Int)} (hw : ∀ q ∈ lines, q.length ≤ 1000000) : Pure Tryz.prog B 27 [.agg [I cells, encT lines]] (· = I (yO cells lines)) := by
 refine uA fun h nx K H0 hK => yQ yW dreg 10000000 fun hf => ?_
 rw [F27.go]
 refine H0.box (l := [I cells, encT lines]) rfl fun bx h1 nx1 H1 => ?_
 rw [sFx, H1.load (k := 0) (i := 0) rfl rfl]
 have ret : ∀ v : Int, v = yO cells lines → K (I v) h1 nx1 = .ok True := fun v hv => by rw [hv]; exact hK _ _ _ _ _ H1 (jD rfl) rfl
 by_cases hc : cells < 1 ∨ 256 < cells
 ·have hv : (3 : Int) = yO cells lines := by rw [yO, if_pos hc]
  by_cases c1 : cells < 1
  ·simp only [sLss, c1, decide_true, zV, zH, zA]
   exact ret 3 hv
  ·simp only [sLss, c1, decide_false, zO]
   rw [sFx, H1.load (k := 0) (i := 0) rfl rfl]
   simp only [sGtr, show (256 : Int) < cells by omega, decide_true, zG, zA]
   exact ret 3 hv
 simp only [sLss, show ¬ cells < 1 by omega, decide_false, zO]
 rw [sFx, H1.load (k := 0) (i := 0) rfl rfl]
 simp only [sGtr, show ¬ (256 : Int) < cells by omega, decide_false, zG, zB]
 rw [sFx, H1.load (k := 0) (i := 0 + 1) rfl rfl]
 simp (disch := omega) only [sAdd, sSub, sMul, sEql, sNeq, sLss, sLeq, sGtr, sGeq, zH, zG, zA, zB, zX, zO, zV, yB, zN, yC, zZ, yH, zR, zQ, zP, zF, zL, zI, zC, decide_true, decide_false, Bool.not_true, Bool.not_false, zS]
 by_cases hm : 128 < lines.length
 ·simp only [show (128 : Int) < (lines.length : Int) by omega, decide_true, zA]
  exact ret 5 (by rw [yO, if_neg hc, if_pos hm])
 simp only [show ¬ (128 : Int) < (lines.length : Int) by omega, decide_false, zB]
 have hs : yO cells lines = jI cells [] lines := by rw [yO, if_neg hc, if_neg hm]
 refine F27.L3 (fun m z3 h' nx' => ∃ i : Nat, z3 = I i ∧ lines.length - i = m ∧ i ≤ lines.length ∧ h' = h1 ∧ nx' = nx1 ∧ yO cells lines = jI cells (lines.take i) (lines.drop i)) (m := lines.length) (by omega) ⟨0, rfl, rfl, by omega, rfl, rfl, by simpa using hs⟩ ?_
 rintro m z2 z3 z4 z5 z8 z9 z10 z11 z12 z13 h1 nx1 R ⟨i, rfl, rfl, hi, rfl, rfl, he⟩ hR
 rw [sFx, H1.load (k := 0) (i := 0 + 1) rfl rfl]
 simp (disch := omega) only [sAdd, sSub, sMul, sEql, sNeq, sLss, sLeq, sGtr, sGeq, zH, zG, zA, zB, zX, zO, zV, yB, zN, yC, zZ, yH, zR, zQ, zP, zF, zL, zI, zC, decide_true, decide_false, Bool.not_true, Bool.not_false, zS]
 by_cases hlt : i < lines.length
 case neg =>
  simp only [show ¬ (i : Int) < (lines.length : Int) by omega, decide_false, zB]
  rw [F27.k20]
  exact ret 0 (by rw [he, List.drop_of_length_le (by omega)]; rfl)
 simp only [show (i : Int) < (lines.length : Int) by omega, decide_true, zA]
 obtain ⟨l, hx⟩ : ∃ l, lines[i]? = some l := ⟨_, List.getElem?_eq_getElem hlt⟩
 have hmem := List.mem_of_getElem? hx
 have hd : lines.drop i = l :: lines.drop (i + 1) := by
  rw [List.drop_eq_getElem_cons hlt]
  rw [List.getElem?_eq_getElem hlt] at hx
  rw [Option.some.inj hx]
 have htake : lines.take (i + 1) = lines.take i ++ [l] := by rw [List.take_add_one, hx]; rfl
 rw [sFx, H1.load (k := 0) (i := 0 + 1) rfl rfl, sIxL rfl hlt, ldL (getT hx)]
 simp (disch := omega) only [sAdd, sSub, sMul, sEql, sNeq, sLss, sLeq, sGtr, sGeq, zH, zG, zA, zB, zX, zO, zV, yB, zN, yC, zZ, yH, zR, zQ, zP, zF, zL, zI, zC, decide_true, decide_false, Bool.not_true, Bool.not_false, zS]
 have hlw := hw l hmem
 have hline : yP cells (lines.take i) l ≠ 0 → yO cells lines = yP cells (lines.take i) l := fun h => by rw [he, hd, jI, if_pos h]
 by_cases h0 : l.length = 0
 ·simp only [show (l.length : Int) = 0 by omega, decide_true, zA]
  have hl0 : l = [] := List.eq_nil_of_length_eq_zero h0
  have e12 : yP cells (lines.take i) l = 12 := by rw [yP, if_pos hl0]
  exact ret 12 (by rw [hline (by rw [e12]; decide), e12])
 simp only [show ¬ (l.length : Int) = 0 by omega, decide_false, zB]
 have hl0 : l ≠ [] := fun q => h0 (by rw [q]; rfl)
 have hcell : yD cells none l ≠ 0 → yO cells lines = yD cells none l := fun h => by
  have e : yP cells (lines.take i) l = yD cells none l := by rw [yP, if_neg hl0, if_pos h]
  rw [hline (by rw [e]; exact h), e]
 refine F27.L10 (fun m z5 h' nx' => ∃ k : Nat, z5 = I k ∧ l.length - k = m ∧ k ≤ l.length ∧ h' = h1 ∧ nx' = nx1 ∧ yD cells none l = yD cells (pv l k) (l.drop k)) (m := l.length) (by omega) ⟨0, rfl, rfl, by omega, rfl, rfl, rfl⟩ ?_
 rintro m y2 y5 y10 y11 y12 h1 nx1 R2 ⟨k, rfl, rfl, hk, rfl, rfl, hce⟩ hR2
 simp (disch := omega) only [sAdd, sSub, sMul, sEql, sNeq, sLss, sLeq, sGtr, sGeq, zH, zG, zA, zB, zX, zO, zV, yB, zN, yC, zZ, yH, zR, zQ, zP, zF, zL, zI, zC, decide_true, decide_false, Bool.not_true, Bool.not_false, zS]
 by_cases hkt : k < l.length
 case neg =>
  simp only [show ¬ (k : Int) < (l.length : Int) by omega, decide_false, zB]
  have hz : yD cells none l = 0 := by rw [hce, List.drop_of_length_le (by omega)]; rfl
  rw [F27.k18, sFx, H1.load (k := 0) (i := 0 + 1) rfl rfl, sSliceF (by omega) (by omega)]
  have ep : AV.lst 1 i ((lines.map encI).take i) = encT (lines.take i) := by
   rw [← List.map_take]
   simp [encT, Nat.min_eq_left (Nat.le_of_lt hlt)]
  rw [ep]
  refine hasLine84 (by rw [List.length_take]; omega) (fun q hq => Nat.le_trans (hw q (List.mem_of_mem_take hq)) (by omega)) _ _ _ _ ?_
  rintro _ rfl _
  by_cases hin : l ∈ lines.take i
  ·simp only [hin, decide_true, zA]
   have e9 : yP cells (lines.take i) l = 9 := by rw [yP, if_neg hl0, if_neg (by rw [hz]; simp), if_pos hin]
   exact ret 9 (by rw [hline (by rw [e9]; decide), e9])
  ·simp only [hin, decide_false, zB]
   rw [F27.k19, sAdd (by omega)]
   have e0 : yP cells (lines.take i) l = 0 := by rw [yP, if_neg hl0, if_neg (by rw [hz]; simp), if_neg hin]
   refine hR _ _ _ _ _ _ _ _ _ _ _ _ _ (by omega) ⟨i + 1, rfl, rfl, by omega, rfl, rfl, ?_⟩
   rw [he, hd, jI, if_neg (by rw [e0]; simp), htake]
 simp only [show (k : Int) < (l.length : Int) by omega, decide_true, zA]
 have hxk : l[k]? = some l[k] := List.getElem?_eq_getElem hkt
 have hdk : l.drop k = l[k] :: l.drop (k + 1) := List.drop_eq_getElem_cons hkt
 rw [sIxL rfl hkt, ldL (getI hxk)]
 by_cases hbad : l[k] < 0 ∨ cells ≤ l[k]
 ·have e10 : yD cells none l = 10 := by rw [hce, hdk, yD, if_pos hbad]
  have fin := ret 10 (by rw [hcell (by rw [e10]; decide), e10])
  by_cases hneg : l[k] < 0
  ·simp only [sLss, hneg, decide_true, zV, zH, zA]
   exact fin
  ·simp only [sLss, hneg, decide_false, zO]
   rw [sIxL rfl hkt, ldL (getI hxk), sFx, H1.load (k := 0) (i := 0) rfl rfl]
   simp only [sGeq, show cells ≤ l[k] by omega, decide_true, zG, zA]
   exact fin
 simp only [sLss, show ¬ l[k] < 0 by omega, decide_false, zO]
 rw [sIxL rfl hkt, ldL (getI hxk), sFx, H1.load (k := 0) (i := 0) rfl rfl]
 simp only [sGeq, show ¬ cells ≤ l[k] by omega, decide_false, zG, zB]
 rw [F27.k16]
 have next : ∀ z12, (pv l k).any (fun q => decide (l[k] ≤ q)) = false → R2 (F27.fr (.agg [I cells, encT lines]) (.ptr bx 0) y2 (I i) (encI l) (I ((k : Int) + 1)) (.bool false) (.bool false) (.bool true) (.bool false) (.bool true) (.bool false) z12 z13) h1 nx1 = .ok True := fun z12 hany => by
  refine hR2 _ _ _ _ _ _ _ _ (by omega) ⟨k + 1, rfl, rfl, by omega, rfl, rfl, ?_⟩
  rw [hce, hdk, yD, if_neg hbad, hany]
  simp [pv_succ hkt]
 by_cases hk0 : 0 < k
 ·obtain ⟨k, rfl⟩ : ∃ j, k = j + 1 := ⟨k - 1, by omega⟩
  have hk1 : k < l.length := by omega
  have hxk1 : l[k]? = some l[k] := List.getElem?_eq_getElem hk1
  simp only [sGtr, show (0 : Int) < ((k + 1 : Nat) : Int) by omega, decide_true, zX]
  rw [sIxL rfl hkt, ldL (getI hxk), sSub (by omega), sIxL (i := k) (by omega) hk1, ldL (getI hxk1)]
  rw [pv_succ hk1] at next
  by_cases hle : l[k + 1] ≤ l[k]
  ·simp only [sLeq, hle, decide_true, zH, zA]
   have e11 : yD cells none l = 11 := by rw [hce, hdk, yD, if_neg hbad, pv_succ hk1, if_pos (by simp [hle])]
   exact ret 11 (by rw [hcell (by rw [e11]; decide), e11])
  ·simp only [sLeq, hle, decide_false, zH, zB]
   rw [F27.k17, sAdd (by omega)]
   exact next _ (by simp [hle])
 ·obtain rfl : k = 0 := by omega
  simp only [sGtr, show ¬ (0 : Int) < ((0 : Nat) : Int) by omega, decide_false, yB, zG, zB]
  rw [F27.k17, sAdd (by omega)]
  exact next _ (by simp [pv])
end Go.Ev
namespace Go.Ev
open Go Go.Proofs
variable {B : Nat}
theorem own_plain {P : Program} {f : Nat} {p id : Pa} {h0 h : T Blk} {nx : Pa} {L : List Ob} {k : Nat} {l : List Int} {K : Kw Prop} {Q : AV → Prop} (H : Hp h0 h nx L) (hk : L[k]? = some (.arr id (l.map I))) (hq : ∀ B, Pure P B f [encI l] Q) (hpl : ∀ v, Q v → Plain v)
  (hK : ∀ v, Q v → K v h nx = .ok True) : (CS P B).fn f p [.sl id 0 l.length (some l.length) 1] h nx K = .ok True :=
 CS_plain (.cons (HasArr.frz (H.own _ (List.mem_of_getElem? hk)) (T.get_e _ id) (Nat.le_refl _) (by simp) fun v hv => by obtain ⟨x, _, rfl⟩ := List.mem_map.1 hv; rfl) .nil) (by
  have := fixd_encI l
  simp only [nns, fixd.nn this, Bool.and_self]) hq hpl fun v hv _ => hK v hv
theorem contF131 {h : T Blk} {nx : Pa} {l : List Int} {g : Nat} {p q : Pa} {cap : List AV} {pr : Int → Bool} {K : Kw Prop} (hl : l.length ≤ 1000000) (hcl : ∀ x ∈ l, ∀ K : Kw Prop, K (.bool (pr x)) h nx = .ok True → (CS Tryz.prog B).fn g q (I x :: cap) h nx K = .ok True)
  (hK : K (.bool (l.any pr)) h nx = .ok True) : (CS Tryz.prog B).fn 131 p [encI l, .fn g q cap] h nx K = .ok True := by
 refine uF (p := .of 131) (K := K) (yQ yW dreg 9 fun hf => ?_) fun _ _ _ _ q => q
 rw [F131.go]
 refine uF (p := .of 165) (K := fun v1 h2 n3 => sBin .geq .int v1 (I 0) fun v4 => K v4 h2 n3) (yQ yW dreg 10000000 fun hf => ?_) fun _ _ _ _ q => q
 rw [F165.go]
 simp (disch := omega) only [sAdd, sSub, sMul, sEql, sNeq, sLss, sLeq, sGtr, sGeq, zH, zG, zA, zB, zX, zO, zV, yB, zN, yC, zZ, yH, zR, zQ, zP, zF, zL, zI, zC, decide_true, decide_false, Bool.not_true, Bool.not_false, zS]
 refine F165.L1 (fun m z5 h' nx' => ∃ i : Nat, z5 = I i ∧ l.length - i = m ∧ i ≤ l.length ∧ h' = h ∧ nx' = nx ∧ (l.take i).any pr = false) (m := l.length) (by omega) ⟨0, rfl, rfl, by omega, rfl, rfl, by simp⟩ ?_
 rintro m z2 z3 z5 z6 z7 _ _ R ⟨i, rfl, rfl, hi, rfl, rfl, htk⟩ hR
 simp (disch := omega) only [sAdd, sSub, sMul, sEql, sNeq, sLss, sLeq, sGtr, sGeq, zH, zG, zA, zB, zX, zO, zV, yB, zN, yC, zZ, yH, zR, zQ, zP, zF, zL, zI, zC, decide_true, decide_false, Bool.not_true, Bool.not_false, zS]
 by_cases hlt : i < l.length
 ·simp only [show (i : Int) < (l.length : Int) by omega, decide_true, zA]
  have hx : l[i]? = some l[i] := List.getElem?_eq_getElem hlt
  rw [sIxL rfl hlt, ldL (getI hx), sCall_fn]
  refine hcl _ (List.getElem_mem hlt) _ ?_
  cases he : pr l[i] with
  | true =>
   simp only [zA, sGeq, show (0 : Int) ≤ (i : Int) by omega, decide_true]
   rw [List.any_eq_true.2 ⟨_, List.getElem_mem hlt, he⟩] at hK
   exact hK
  | false =>
   simp only [zB]
   refine hR _ _ _ _ _ _ _ _ (by omega) ⟨i + 1, rfl, rfl, by omega, rfl, rfl, ?_⟩
   rw [List.take_add_one, hx, List.any_append, htk]
   simp [he]
 ·simp only [show ¬ (i : Int) < (l.length : Int) by omega, decide_false, zB]
  rw [F165.k8]
  rw [List.take_of_length_le (by omega)] at htk
  rw [htk] at hK
  simp only [sGeq, show ¬ (0 : Int) ≤ -1 by omega, decide_false]
  exact hK
theorem from122 {a b : Int} {l : List Int} (hl : l.length ≤ 1000000) : Pure Tryz.prog B 122 [I a, I b, encI l] (· = I (if l.any (fun x => decide (x < a) || decide (b < x)) then 3 else 0)) := by
 refine uA fun h nx K H0 hK => yQ yW dreg 1000 fun hf => ?_
 rw [F122.go]
 refine H0.box (l := [I a]) rfl fun x1 h1 nx1 H1 => ?_
 refine H1.box (l := [I b]) rfl fun x2 h2 nx2 H2 => ?_
 refine contF131 (pr := fun x => decide (x < a) || decide (b < x)) hl (fun x _ K hK => ?_) ?_
 ·refine uF (p := .of 147) (K := K) (yQ yW dreg 9 fun hf => ?_) fun _ _ _ _ q => q
  show yJ tbl 9 _ (Pa.of 147) [I x, .ptr x1 0, .ptr x2 0] _ _ _ = _
  rw [F147.go, H2.load (k := 1) (i := 0) rfl rfl]
  by_cases c : x < a
  ·simp only [sLss, c, decide_true, zV, zH]
   simpa [c] using hK
  ·simp only [sLss, c, decide_false, zO]
   rw [H2.load (k := 0) (i := 0) rfl rfl]
   simp only [sGtr, zG]
   simpa [c] using hK
 ·refine when123 _ _ _ _ _ _ ?_
  rintro _ rfl _
  exact hK _ _ _ _ _ H2 (jD rfl) rfl
theorem line124 {cells : Int} {lines : List (List Int)} {i : Nat} {l : List Int} (hi : lines[i]? = some l) (hn : lines.length ≤ 1000000) (hw : ∀ q ∈ lines, q.length ≤ 1000000) : Pure Tryz.prog B 124 [.agg [I cells, encT lines], I i] (· = I (yP cells (lines.take i) l)) := by
 refine uA fun h nx K H0 hK => yQ yW dreg 10000000 fun hf => ?_
 have hlt : i < lines.length := (List.getElem?_eq_some_iff.1 hi).1
 have hlw := hw l (List.mem_of_getElem? hi)
 rw [F124.go]
 refine H0.box (l := [I cells, encT lines]) rfl fun bx h1 nx1 H1 => ?_
 rw [sFx, H1.load (k := 0) (i := 0 + 1) rfl rfl, sIxL rfl hlt, ldL (getT hi)]
 refine H1.alloc fun x h2 nx2 H2 => ?_
 refine H2.store (k := 0) rfl (by decide) rfl fun h3 H3 => ?_
 rw [H3.load (k := 0) (i := 0) rfl rfl]
 simp (disch := omega) only [sAdd, sSub, sMul, sEql, sNeq, sLss, sLeq, sGtr, sGeq, zH, zG, zA, zB, zX, zO, zV, yB, zN, yC, zZ, yH, zR, zQ, zP, zF, zL, zI, zC, decide_true, decide_false, Bool.not_true, Bool.not_false, zS]
 have ret : ∀ (v : Int) h' nx' L, v = yP cells (lines.take i) l → Hp h h' nx' L → K (I v) h' nx' = .ok True := fun v h' nx' L hv H' => by rw [hv]; exact hK _ _ _ _ _ H' (jD rfl) rfl
 by_cases h0 : l.length = 0
 ·simp only [show (l.length : Int) = 0 by omega, decide_true, zA]
  have hl0 : l = [] := List.eq_nil_of_length_eq_zero h0
  exact ret 12 _ _ _ (by rw [yP, if_pos hl0]) H3
 simp only [show ¬ (l.length : Int) = 0 by omega, decide_false, zB]
 have hl0 : l ≠ [] := fun q => h0 (by rw [q]; rfl)
 have hcell : yD cells none l ≠ 0 → yD cells none l = yP cells (lines.take i) l := fun h => by rw [yP, if_neg hl0, if_pos h]
 rw [H3.load (k := 0) (i := 0) rfl rfl]
 simp (disch := omega) only [sAdd, sSub, sMul, sEql, sNeq, sLss, sLeq, sGtr, sGeq, zH, zG, zA, zB, zX, zO, zV, yB, zN, yC, zZ, yH, zR, zQ, zP, zF, zL, zI, zC, decide_true, decide_false, Bool.not_true, Bool.not_false, zS]
 refine F124.L2 (fun m z11 h' nx' => ∃ k : Nat, z11 = I k ∧ l.length - k = m ∧ k ≤ l.length ∧ Hp h h' nx' [.arr x [encI l], .arr bx [I cells, encT lines]] ∧ yD cells none l = yD cells (pv l k) (l.drop k)) (m := l.length) (by omega) ⟨0, rfl, rfl, by omega, H3, rfl⟩ ?_
 rintro m z3 z5 z6 z7 z11 z12 z13 h1 nx1 R ⟨k, rfl, rfl, hk, H1, hce⟩ hR
 simp (disch := omega) only [sAdd, sSub, sMul, sEql, sNeq, sLss, sLeq, sGtr, sGeq, zH, zG, zA, zB, zX, zO, zV, yB, zN, yC, zZ, yH, zR, zQ, zP, zF, zL, zI, zC, decide_true, decide_false, Bool.not_true, Bool.not_false, zS]
 by_cases hkt : k < l.length
 case neg =>
  simp only [show ¬ (k : Int) < (l.length : Int) by omega, decide_false, zB]
  have hz : yD cells none l = 0 := by rw [hce, List.drop_of_length_le (by omega)]; rfl
  rw [F124.k9, sFx, H1.load (k := 1) (i := 0 + 1) rfl rfl, sSliceF (by omega) (by omega)]
  have ep : AV.lst 1 i ((lines.map encI).take i) = encT (lines.take i) := by
   rw [← List.map_take]
   simp [encT, Nat.min_eq_left (Nat.le_of_lt hlt)]
  rw [ep]
  refine contains148 H1 (k := 0) rfl (by rw [List.length_take]; omega) (fun q hq => hw q (List.mem_of_mem_take hq)) ?_
  refine when123 _ _ _ _ _ _ ?_
  rintro _ rfl _
  refine ret _ _ _ _ ?_ H1
  have e9 : yP cells (lines.take i) l = if l ∈ lines.take i then 9 else 0 := by rw [yP, if_neg hl0, if_neg (by rw [hz]; simp)]
  rw [e9]
  by_cases hin : l ∈ lines.take i <;> simp [hin]
 simp only [show (k : Int) < (l.length : Int) by omega, decide_true, zA]
 have hxk : l[k]? = some l[k] := List.getElem?_eq_getElem hkt
 have hdk : l.drop k = l[k] :: l.drop (k + 1) := List.drop_eq_getElem_cons hkt
 rw [sIxL rfl hkt, ldL (getI hxk)]
 have tail : ∀ (b1 b2 : Bool) (z : AV) (z' : AV) (Z : AV → T Blk → Pa → Out Prop), b1 = (decide (l[k] < 0 ∨ cells ≤ l[k])) → b2 = (pv l k).any (fun q => decide (l[k] ≤ q)) →
   (∀ (e : Int) h' nx', e = (if l[k] < 0 ∨ cells ≤ l[k] then 10 else if (pv l k).any (fun q => decide (l[k] ≤ q)) then 11 else 0) → Hp h h' nx' [.arr x [encI l], .arr bx [I cells, encT lines]] → Z (I e) h' nx' = .ok True) →
   (CS Tryz.prog B).fn 123 (.of 123) [.bool b2, I 11] h1 nx1 (fun v22 h23 n24 => jA 1 2 [(I 0)] [(0, 1, I (if b1 then 10 else 0)), (1, 1, v22)] h23 n24 fun v25 h26 n27 => (CS Tryz.prog B).fn 121 (.of 121) [v25] h26 n27 Z) = .ok True := by
  intro b1 b2 z z' Z e1 e2 hZ
  refine when123 _ _ _ _ _ _ ?_
  rintro _ rfl _
  refine H1.bslice (l := [I (if b1 then 10 else 0), I (if b2 then 11 else 0)]) rfl fun id h4 nx4 H4 => ?_
  refine own_plain (l := [if b1 then 10 else 0, if b2 then 11 else 0]) H4 (k := 0) rfl (fun B => first121 (by simp)) (fun v hv => by rw [hv]; exact .int _ _) ?_
  rintro _ rfl
  refine hZ _ _ _ ?_ H4.drop
  subst e1 e2
  by_cases c1 : l[k] < 0 ∨ cells ≤ l[k]
  ·simp [c1, gJ]
  ·cases c2 : (pv l k).any (fun q => decide (l[k] ≤ q)) <;> simp [c1, gJ]
 have fin : ∀ (e : Int) h' nx', e = (if l[k] < 0 ∨ cells ≤ l[k] then 10 else if (pv l k).any (fun q => decide (l[k] ≤ q)) then 11 else 0) → Hp h h' nx' [.arr x [encI l], .arr bx [I cells, encT lines]] →
   (sBin .neq .int (I e) (I 0) fun v31 => zJ v31 (K (I e) h' nx') (R (F124.fr (.agg [I cells, encT lines]) (I i) (.ptr bx 0) z3 (.ptr x 0) (I k) (I l[k]) (I e) (.bool false) (encI l) (I l.length) (I ((k : Int) + 1)) (.bool true) v31) h' nx')) = .ok True := by
  intro e h' nx' he H'
  have hstep : yD cells none l = if e ≠ 0 then e else yD cells (some l[k]) (l.drop (k + 1)) := by
   rw [hce, hdk, yD, he]
   by_cases c1 : l[k] < 0 ∨ cells ≤ l[k]
   ·simp [c1]
   ·cases c2 : (pv l k).any (fun q => decide (l[k] ≤ q)) <;> simp [c1]
  simp (disch := omega) only [sAdd, sSub, sMul, sEql, sNeq, sLss, sLeq, sGtr, sGeq, zH, zG, zA, zB, zX, zO, zV, yB, zN, yC, zZ, yH, zR, zQ, zP, zF, zL, zI, zC, decide_true, decide_false, Bool.not_true, Bool.not_false, zS]
  by_cases c : e = 0
  ·simp only [c, decide_true, Bool.not_true, zB]
   refine hR _ _ _ _ _ _ _ _ _ _ (by omega) ⟨k + 1, rfl, rfl, by omega, H', ?_⟩
   rw [hstep, if_neg (by simp [c]), pv_succ hkt]
  ·simp only [c, decide_false, Bool.not_false, zA]
   rw [if_pos c] at hstep
   exact ret _ _ _ _ (by rw [← hcell (by rw [hstep]; exact c), hstep]) H'
 have mid : ∀ b1 : Bool, b1 = decide (l[k] < 0 ∨ cells ≤ l[k]) →
   (CS Tryz.prog B).fn 123 (.of 123) [.bool b1, I 10] h1 nx1 (fun v10 h11 n12 =>
    sG (.bool (decide (0 < (k : Int)))) true (fun k => zE (.ptr x 0) h11 k) fun v14 => sG (.bool (decide (0 < (k : Int)))) true (fun q => q (I (k : Int))) fun v15 => sG (.bool (decide (0 < (k : Int)))) true (fun k => sBin .sub .int v15 (I 1) k) fun v16 => sG (.bool (decide (0 < (k : Int)))) true (fun k => zK 1 v14 v16 k) fun v17 => sG (.bool (decide (0 < (k : Int)))) true (fun k => zE v17 h11 k) fun v18 =>
    sG (.bool (decide (0 < (k : Int)))) true (fun q => q (I l[k])) fun v19 => sG (.bool (decide (0 < (k : Int)))) true (fun k => sBin .geq .int v18 v19 k) fun v20 => yV (.bool (decide (0 < (k : Int)))) v20 (.bool false) fun v21 =>
    (CS Tryz.prog B).fn 123 (.of 123) [v21, I 11] h11 n12 fun v22 h23 n24 => jA 1 2 [(I 0)] [(0, 1, v10), (1, 1, v22)] h23 n24 fun v25 h26 n27 => (CS Tryz.prog B).fn 121 (.of 121) [v25] h26 n27 fun v28 h29 n30 =>
    sBin .neq .int v28 (I 0) fun v31 => zJ v31 (K v28 h29 n30) (R (F124.fr (.agg [I cells, encT lines]) (I i) (.ptr bx 0) z3 (.ptr x 0) (I k) (I l[k]) v28 (.bool false) (encI l) (I l.length) (I ((k : Int) + 1)) (.bool true) v31) h29 n30)) = .ok True := by
  intro b1 e1
  refine when123 _ _ _ _ _ _ ?_
  rintro _ rfl _
  by_cases ck : 0 < k
  ·obtain ⟨k, rfl⟩ : ∃ j, k = j + 1 := ⟨k - 1, by omega⟩
   have hk1 : k < l.length := by omega
   have hxk1 : l[k]? = some l[k] := List.getElem?_eq_getElem hk1
   simp only [show (0 : Int) < ((k + 1 : Nat) : Int) by omega, decide_true, zX, zH]
   rw [H1.load (k := 0) (i := 0) rfl rfl, sSub (by omega), sIxL (i := k) (by omega) hk1, ldL (getI hxk1)]
   simp only [sGeq]
   exact tail _ _ .undef .undef _ e1 (by rw [pv_succ hk1]; rfl) fin
  ·obtain rfl : k = 0 := by omega
   simp only [show ¬ (0 : Int) < ((0 : Nat) : Int) by omega, decide_false, yB, zG]
   exact tail _ _ .undef .undef _ e1 rfl fin
 by_cases c : l[k] < 0
 ·simp only [sLss, c, decide_true, zV, zH]
  exact mid true (by simp [c])
 ·simp only [sLss, c, decide_false, zO, sFx]
  rw [H1.load (k := 1) (i := 0) rfl rfl]
  simp only [sGeq, zG]
  exact mid _ (by simp [c])
theorem sys81 {cells : Int} {lines : List (List Int)} (hw : ∀ q ∈ lines, q.length ≤ 1000000) : Pure Tryz.prog B 81 [.agg [I cells, encT lines]] (· = I (yO cells lines)) := by
 refine uA fun h nx K H0 hK => yQ yW dreg 10000000 fun hf => ?_
 rw [F81.go]
 refine H0.box (l := [I cells, encT lines]) rfl fun bx h1 nx1 H1 => ?_
 rw [sFx, H1.load (k := 0) (i := 0) rfl rfl, sFx, H1.load (k := 0) (i := 0 + 1) rfl rfl]
 simp only [zF, sGtr]
 refine H1.bslice (l := [I cells]) rfl fun id h2 nx2 H2 => ?_
 simp only [zC, zF]
 rw [H2.load (k := 1) (i := 0 + 1) rfl rfl]
 simp only [zC, sFx]
 refine CS_plain (args' := [I 1, I 256, encI [cells]]) (.cons (.int _ _) (.cons (.int _ _) (.cons (HasArr.frz (H2.own (.arr id [I cells]) (by simp)) (T.get_e _ id) (Nat.le_refl _) rfl (fun v hv => by simp at hv; subst hv; rfl)) .nil))) rfl (fun B => from122 (l := [cells]) (by simp)) (fun v hv => by rw [hv]; exact .int _ _) ?_
 rintro _ rfl _
 rw [H2.load (k := 1) (i := 0 + 1) rfl rfl]
 simp only [zC, zF]
 refine when123 _ _ _ _ _ _ ?_
 rintro _ rfl _
 refine H2.bslice (l := [I (if [cells].any (fun x => decide (x < 1) || decide (256 < x)) then 3 else 0), I (if decide (128 < (lines.length : Int)) then 5 else 0)]) rfl fun id3 h3 nx3 H3 => ?_
 refine own_plain (l := [if [cells].any (fun x => decide (x < 1) || decide (256 < x)) then 3 else 0, if decide (128 < (lines.length : Int)) then 5 else 0]) H3 (k := 0) rfl (fun B => first121 (by simp)) (fun v hv => by rw [hv]; exact .int _ _) ?_
 rintro _ rfl
 have ret : ∀ (v : Int) h' nx' L, v = yO cells lines → Hp h h' nx' L → K (I v) h' nx' = .ok True := fun v h' nx' L hv H' => by rw [hv]; exact hK _ _ _ _ _ H' (jD rfl) rfl
 have ef : gJ [if [cells].any (fun x => decide (x < 1) || decide (256 < x)) then 3 else 0, if decide (128 < (lines.length : Int)) then 5 else 0] = if cells < 1 ∨ 256 < cells then 3 else if 128 < lines.length then 5 else 0 := by
  by_cases c : cells < 1 ∨ 256 < cells
  ·simp [gJ, c]
  ·by_cases c2 : 128 < lines.length
   ·have : (128 : Int) < (lines.length : Int) := by omega
    simp [gJ, c, c2, this]
   ·have : ¬ (128 : Int) < (lines.length : Int) := by omega
    simp [gJ, c, c2, this]
 rw [ef]
 simp only [sNeq]
 by_cases hc : cells < 1 ∨ 256 < cells
 ·simp only [hc, if_true]
  simp only [show ¬ (3 : Int) = 0 by omega, decide_false, Bool.not_false, zA]
  exact ret 3 _ _ _ (by rw [yO, if_pos hc]) H3
 simp only [hc, if_false]
 by_cases hm : 128 < lines.length
 ·simp only [hm, if_true]
  simp only [show ¬ (5 : Int) = 0 by omega, decide_false, Bool.not_false, zA]
  exact ret 5 _ _ _ (by rw [yO, if_neg hc, if_pos hm]) H3
 simp only [hm, if_false, decide_true, Bool.not_true, zB]
 rw [H3.load (k := 2) (i := 0 + 1) rfl rfl]
 simp only [zF]
 have hs : yO cells lines = jI cells [] lines := by rw [yO, if_neg hc, if_neg hm]
 refine F81.L2 (fun m z8 h' nx' => ∃ i : Nat, z8 = I i ∧ lines.length - i = m ∧ i ≤ lines.length ∧ Hp h h' nx' [.arr bx [I cells, encT lines]] ∧ yO cells lines = jI cells (lines.take i) (lines.drop i)) (m := lines.length) (by omega) ⟨0, rfl, rfl, by omega, H3.drop.drop, by simpa using hs⟩ ?_
 rintro m z2 z4 z5 z8 z9 z10 h4 nx4 R ⟨i, rfl, rfl, hi, H4, he⟩ hR
 simp (disch := omega) only [sAdd, sSub, sMul, sEql, sNeq, sLss, sLeq, sGtr, sGeq, zH, zG, zA, zB, zX, zO, zV, yB, zN, yC, zZ, yH, zR, zQ, zP, zF, zL, zI, zC, decide_true, decide_false, Bool.not_true, Bool.not_false, zS]
 by_cases hlt : i < lines.length
 case neg =>
  simp only [show ¬ (i : Int) < (lines.length : Int) by omega, decide_false, zB]
  rw [F81.k9]
  exact ret 0 _ _ _ (by rw [he, List.drop_of_length_le (by omega)]; rfl) H4
 simp only [show (i : Int) < (lines.length : Int) by omega, decide_true, zA]
 obtain ⟨l, hx⟩ : ∃ l, lines[i]? = some l := ⟨_, List.getElem?_eq_getElem hlt⟩
 have hd : lines.drop i = l :: lines.drop (i + 1) := by
  rw [List.drop_eq_getElem_cons hlt]
  rw [List.getElem?_eq_getElem hlt] at hx
  rw [Option.some.inj hx]
 have htake : lines.take (i + 1) = lines.take i ++ [l] := by rw [List.take_add_one, hx]; rfl
 rw [H4.loadN (k := 0) (n := 2) rfl rfl]
 refine line124 hx (by omega) hw _ _ _ _ ?_
 rintro _ rfl _
 simp only [sNeq]
 by_cases c : yP cells (lines.take i) l = 0
 ·simp only [c, decide_true, Bool.not_true, zB]
  refine hR _ _ _ _ _ _ _ _ _ (by omega) ⟨i + 1, rfl, rfl, by omega, H4, ?_⟩
  rw [he, hd, jI, if_neg (by rw [c]; simp), htake]
 ·simp only [c, decide_false, Bool.not_false, zA]
  exact ret _ _ _ _ (by rw [he, hd, jI, if_pos c]) H4
end Go.Ev
namespace Go.Ev
def AscL (cells : Nat) (l : List Int) : Prop := l ≠ [] ∧ l.Pairwise (· < ·) ∧ ∀ c ∈ l, 0 ≤ c ∧ c < (cells : Int)
end Go.Ev
namespace Go.Ev
open Go Go.Proofs
variable {B : Nat}
theorem whenB82 (b : Bool) (e : Int) : Pure Tryz.prog B 82 [.bool b, I e] (· = I (if b then e else 0)) := by
 intro p h nx K hK
 refine yQ yW dreg 9 fun hf => ?_
 rw [F82.go]
 cases b <;> simp (disch := omega) only [sAdd, sSub, sMul, sEql, sNeq, sLss, sLeq, sGtr, sGeq, zH, zG, zA, zB, zX, zO, zV, yB, zN, yC, zZ, yH, zR, zQ, zP, zF, zL, zI, zC, decide_true, decide_false, Bool.not_true, Bool.not_false, zS] <;> exact hK _ rfl hf
theorem first80 {l : List Int} (hl : l.length ≤ 1000000) : Pure Tryz.prog B 80 [encI l] (· = I (gJ l)) := by
 intro p h nx K hK
 refine yQ yW dreg 10000000 fun hf => ?_
 rw [F80.go]
 simp (disch := omega) only [sAdd, sSub, sMul, sEql, sNeq, sLss, sLeq, sGtr, sGeq, zH, zG, zA, zB, zX, zO, zV, yB, zN, yC, zZ, yH, zR, zQ, zP, zF, zL, zI, zC, decide_true, decide_false, Bool.not_true, Bool.not_false, zS]
 refine F80.L1 (fun m z5 h' nx' => ∃ i : Nat, z5 = I i ∧ l.length - i = m ∧ i ≤ l.length ∧ h' = h ∧ nx' = nx ∧ ∀ e ∈ l.take i, e = 0) (m := l.length) (by omega) ⟨0, rfl, rfl, by omega, rfl, rfl, by simp⟩ ?_
 rintro m z1 z2 z5 z6 z7 _ _ R ⟨i, rfl, rfl, hi, rfl, rfl, htk⟩ hR
 simp (disch := omega) only [sAdd, sSub, sMul, sEql, sNeq, sLss, sLeq, sGtr, sGeq, zH, zG, zA, zB, zX, zO, zV, yB, zN, yC, zZ, yH, zR, zQ, zP, zF, zL, zI, zC, decide_true, decide_false, Bool.not_true, Bool.not_false, zS]
 by_cases hlt : i < l.length
 ·simp only [show (i : Int) < (l.length : Int) by omega, decide_true, zA]
  have hx : l[i]? = some l[i] := List.getElem?_eq_getElem hlt
  rw [sIxL rfl hlt, ldL (getI hx)]
  simp (disch := omega) only [sAdd, sSub, sMul, sEql, sNeq, sLss, sLeq, sGtr, sGeq, zH, zG, zA, zB, zX, zO, zV, yB, zN, yC, zZ, yH, zR, zQ, zP, zF, zL, zI, zC, decide_true, decide_false, Bool.not_true, Bool.not_false, zS]
  have hd : l.drop i = l[i] :: l.drop (i + 1) := List.drop_eq_getElem_cons hlt
  by_cases h0 : l[i] = 0
  ·simp only [h0, decide_true, Bool.not_true, zB]
   refine hR _ _ _ _ _ _ _ _ (by omega) ⟨i + 1, rfl, rfl, by omega, rfl, rfl, fun e he => ?_⟩
   rw [List.take_add_one, hx] at he
   rcases List.mem_append.1 he with q | q
   ·exact htk e q
   ·simp at q; rw [q]; exact h0
  ·simp only [h0, decide_false, Bool.not_false, zA]
   refine hK _ ?_ hf
   rw [firstE_skip l i htk, hd, gJ, if_pos h0]
 ·simp only [show ¬ (i : Int) < (l.length : Int) by omega, decide_false, zB]
  rw [F80.k8]
  refine hK _ ?_ hf
  rw [firstE_skip l i htk, List.drop_of_length_le (by omega)]; rfl
theorem cells_ok {cells : Int} : ∀ {l : List Int} {p : Option Int}, yD cells p l = 0 → (∀ c ∈ l, 0 ≤ c ∧ c < cells) ∧ l.Pairwise (· < ·) ∧ ∀ q, p = some q → ∀ c ∈ l, q < c
 | [], _, _ => ⟨by simp, .nil, by simp⟩
 | c :: l, p, h => by
  rw [yD] at h
  by_cases c1 : c < 0 ∨ cells ≤ c
  ·rw [if_pos c1] at h; cases h
  rw [if_neg c1] at h
  cases c2 : p.any (fun q => decide (c ≤ q)) with
  | true => rw [c2, if_pos rfl] at h; cases h
  | false =>
   rw [c2, if_neg (by simp)] at h
   obtain ⟨h1, h2, h3⟩ := cells_ok h
   have h4 := h3 c rfl
   refine ⟨fun x hx => ?_, List.pairwise_cons.2 ⟨h4, h2⟩, fun q hq x hx => ?_⟩
   ·rcases List.mem_cons.1 hx with rfl | hx
    ·omega
    ·exact h1 x hx
   ·subst hq
    simp at c2
    rcases List.mem_cons.1 hx with rfl | hx
    ·exact c2
    ·have := h4 x hx; omega
theorem lines_ok {cells : Int} : ∀ {ls prev : List (List Int)}, jI cells prev ls = 0 → ∀ l ∈ ls, l ≠ [] ∧ yD cells none l = 0
 | [], _, _, l, h => by simp at h
 | a :: ls, prev, h, l, hl => by
  rw [jI] at h
  by_cases c : yP cells prev a ≠ 0
  ·rw [if_pos c] at h; exact absurd h c
  rw [if_neg c] at h
  rcases List.mem_cons.1 hl with rfl | hl
  ·have c : yP cells prev l = 0 := by simpa using c
   rw [yP] at c
   by_cases c0 : l = []
   ·rw [if_pos c0] at c; cases c
   rw [if_neg c0] at c
   refine ⟨c0, ?_⟩
   by_cases c1 : yD cells none l ≠ 0
   ·rw [if_pos c1] at c; exact c
   ·simpa using c1
  ·exact lines_ok h l hl
theorem sys_ok {cells : Int} {lines : List (List Int)} (h : yO cells lines = 0) : ∃ n : Nat, cells = n ∧ 1 ≤ n ∧ n ≤ 256 ∧ lines.length ≤ 128 ∧ ∀ l ∈ lines, AscL n l := by
 rw [yO] at h
 by_cases c1 : cells < 1 ∨ 256 < cells
 ·rw [if_pos c1] at h; cases h
 rw [if_neg c1] at h
 by_cases c2 : 128 < lines.length
 ·rw [if_pos c2] at h; cases h
 rw [if_neg c2] at h
 refine ⟨cells.toNat, by omega, by omega, by omega, by omega, fun l hl => ?_⟩
 obtain ⟨h1, h2⟩ := lines_ok h l hl
 obtain ⟨h3, h4, _⟩ := cells_ok h2
 exact ⟨h1, h4, fun c hc => by have := h3 c hc; omega⟩
end Go.Ev
namespace Go.Ev
def fill (most : Nat) : Nat → List (List Nat)
 | 0 => [[]]
 | n + 1 => (fill most n).flatMap fun x => (List.range (most + 1)).map fun k => x ++ [k]
theorem fill_len {most : Nat} : ∀ {n : Nat}, ∀ f ∈ fill most n, f.length = n ∧ ∀ v ∈ f, v ≤ most
 | 0, f, h => by rw [List.mem_singleton.1 h]; simp
 | n + 1, f, h => by
  simp only [fill, List.mem_flatMap, List.mem_map, List.mem_range] at h
  obtain ⟨x, hx, k, hk, rfl⟩ := h
  obtain ⟨h1, h2⟩ := fill_len x hx
  refine ⟨by simp [h1], fun v hv => ?_⟩
  rcases List.mem_append.1 hv with q | q
  ·exact h2 v q
  ·simp at q; omega
theorem sum_flatMap {α β : Type} (F : β → Nat) (g : α → List β) : ∀ l : List α, ((l.flatMap g).map F).sum = (l.map fun x => ((g x).map F).sum).sum
 | [] => rfl
 | a :: l => by simp [List.flatMap_cons, sum_flatMap F g l]
theorem fill_add (most : Nat) (a : Nat) : ∀ (b : Nat) (F : List Nat → Nat), ((fill most (a + b)).map F).sum = ((fill most a).map fun x => ((fill most b).map fun y => F (x ++ y)).sum).sum
 | 0, F => by simp [fill]
 | b + 1, F => by
  show ((fill most (a + b + 1)).map F).sum = _
  rw [fill, sum_flatMap, fill_add most a b]
  congr 1
  refine List.map_congr_left fun x _ => ?_
  rw [fill, sum_flatMap]
  congr 1
  refine List.map_congr_left fun y _ => ?_
  simp [List.map_map, Function.comp_def]
theorem fill_front (most r : Nat) (F : List Nat → Nat) : ((fill most (r + 1)).map F).sum = ((List.range (most + 1)).map fun k => ((fill most r).map fun y => F (k :: y)).sum).sum := by
 rw [Nat.add_comm, fill_add]
 simp [fill, List.map_map, Function.comp_def]
def gC (fr : Nat) (f : List Nat) (c : Int) : Nat := if (fr : Int) ≤ c then f.getD (c - fr).toNat 0 else 0
def con (fr : Nat) (f : List Nat) (l : List Int) : Nat := (l.map (gC fr f)).sum
theorem gC_app (fr : Nat) (x y : List Nat) (c : Int) : gC fr (x ++ y) c = gC fr x c + gC (fr + x.length) y c := by
 unfold gC
 by_cases h1 : (fr : Int) ≤ c
 ·rw [if_pos h1, if_pos h1]
  by_cases h2 : ((fr + x.length : Nat) : Int) ≤ c
  ·rw [if_pos h2, List.getD_eq_getElem?_getD, List.getD_eq_getElem?_getD, List.getD_eq_getElem?_getD, List.getElem?_append_right (by omega), List.getElem?_eq_none (l := x) (by omega)]
   rw [show (c - fr).toNat - x.length = (c - ((fr + x.length : Nat) : Int)).toNat by omega]
   simp
  ·rw [if_neg h2, List.getD_eq_getElem?_getD, List.getD_eq_getElem?_getD, List.getElem?_append_left (by omega)]
   rfl
 ·rw [if_neg h1, if_neg h1, if_neg (by omega)]
theorem con_app (fr : Nat) (x y : List Nat) : ∀ l : List Int, con fr (x ++ y) l = con fr x l + con (fr + x.length) y l
 | [] => rfl
 | c :: l => by
  have := con_app fr x y l
  simp only [con, List.map_cons, List.sum_cons] at this ⊢
  rw [this, gC_app]; omega
theorem con_one (fr k : Nat) : ∀ l : List Int, con fr [k] l = k * l.count (fr : Int)
 | [] => rfl
 | c :: l => by
  have := con_one fr k l
  simp only [con, List.map_cons, List.sum_cons] at this ⊢
  rw [this, List.count_cons]
  by_cases e : c = (fr : Int)
  ·subst e
   simp [gC, Nat.mul_add]; omega
  ·have : gC fr [k] c = 0 := by
    unfold gC
    by_cases h1 : (fr : Int) ≤ c
    ·rw [if_pos h1, List.getD_eq_getElem?_getD, List.getElem?_eq_none (by simp; omega)]; rfl
    ·rw [if_neg h1]
   rw [this]
   simp [e]
theorem con_zero (fr : Nat) : ∀ l : List Int, con fr [] l = 0
 | [] => rfl
 | c :: l => by
  have := con_zero fr l
  simp only [con, List.map_cons, List.sum_cons] at this ⊢
  rw [this]; simp [gC]
theorem con_le {fr most : Nat} {f : List Nat} (h : ∀ v ∈ f, v ≤ most) : ∀ l : List Int, con fr f l ≤ l.length * most
 | [] => by simp [con]
 | c :: l => by
  have := con_le (fr := fr) h l
  simp only [con, List.map_cons, List.sum_cons, List.length_cons, Nat.add_mul] at this ⊢
  have : gC fr f c ≤ most := by
   unfold gC
   split
   ·rw [List.getD_eq_getElem?_getD]
    cases e : f[(c - (fr : Int)).toNat]? with
    | none => simp
    | some v => exact h v (List.mem_of_getElem? e)
   ·omega
  omega
theorem con_past {fr : Nat} {f : List Nat} : ∀ {l : List Int}, (∀ c ∈ l, c < (fr : Int)) → con fr f l = 0
 | [], _ => rfl
 | c :: l, h => by
  have := con_past (fr := fr) (f := f) (l := l) fun x hx => h x (by simp [hx])
  simp only [con, List.map_cons, List.sum_cons] at this ⊢
  have h0 := h c (by simp)
  rw [this, gC, if_neg (by omega)]
theorem addAt_get (y : List Nat) (i k j : Nat) (hi : i < y.length) : (addAt y i k).getD j 0 = if j = i then (y.getD j 0 + k) % 256 else y.getD j 0 := by
 unfold addAt
 rw [List.getD_eq_getElem?_getD, List.getElem?_set]
 by_cases e : i = j
 ·subst e; simp [hi]
 ·rw [if_neg e, if_neg fun q => e q.symm, List.getD_eq_getElem?_getD]
theorem addL_get (k j : Nat) : ∀ (idx : List Nat) (y : List Nat), (∀ i ∈ idx, i < y.length) → y.getD j 0 < 256 → (addL y idx k).getD j 0 = (y.getD j 0 + k * idx.count j) % 256
 | [], y, _, h => by simp [addL]; rw [List.getD_eq_getElem?_getD] at h; exact (Nat.mod_eq_of_lt h).symm
 | i :: idx, y, hi, h => by
  show (addL (addAt y i k) idx k).getD j 0 = _
  have hi0 := hi i (by simp)
  have e := addAt_get y i k j hi0
  rw [addL_get k j idx (addAt y i k) (fun x hx => by simpa using hi x (by simp [hx])) (by rw [e]; split <;> omega), e, List.count_cons]
  by_cases q : j = i
  ·subst q
   simp only [if_true, beq_self_eq_true]
   rw [Nat.mul_add, Nat.mod_add_mod]
   congr 1; omega
  ·have : ¬ (i == j) = true := by simpa using fun r => q r.symm
   rw [if_neg q]
   simp [this]
theorem count_map_const (i j : Nat) : ∀ l : List Int, (l.map fun _ => i).count j = if i = j then l.length else 0
 | [] => by simp
 | a :: l => by
  rw [List.map_cons, List.count_cons, count_map_const i j l]
  by_cases e : i = j
  ·subst e; simp
  ·simp [e]
theorem onP_count (lines : List (List Int)) (c j : Nat) : ∀ i, (onP lines i c).count j = if j < i then (lines.getD j []).count (c : Int) else 0
 | 0 => by simp [onP]
 | i + 1 => by
  rw [onP_succ, List.count_append, onP_count lines c j i, count_map_const]
  by_cases e : i = j
  ·subst e
   rw [if_neg (by omega), if_pos rfl, if_pos (by omega)]
   simp [List.count_eq_countP, List.countP_eq_length_filter, BEq.beq]
  ·rw [if_neg e]
   by_cases h : j < i
   ·rw [if_pos h, if_pos (by omega)]; rfl
   ·rw [if_neg h, if_neg (by omega)]
theorem list_ext_getD {a b : List Nat} (hl : a.length = b.length) (h : ∀ j, j < a.length → a.getD j 0 = b.getD j 0) : a = b := by
 refine List.ext_getElem hl fun j h1 h2 => ?_
 have := h j h1
 simpa [List.getD_eq_getElem?_getD, List.getElem?_eq_getElem h1, List.getElem?_eq_getElem h2] using this
theorem map_getD {lines : List (List Int)} {F : List Int → Nat} {j : Nat} (h : j < lines.length) : (lines.map F).getD j 0 = F (lines.getD j []) := by
 simp [List.getD_eq_getElem?_getD, List.getElem?_eq_getElem h]
theorem flatMap_congr' {α β : Type} {f g : α → List β} : ∀ {l : List α}, (∀ x ∈ l, f x = g x) → l.flatMap f = l.flatMap g
 | [], _ => rfl
 | a :: l, h => by rw [List.flatMap_cons, List.flatMap_cons, h a (by simp), flatMap_congr' fun x hx => h x (by simp [hx])]
theorem tally_fill (lines : List (List Int)) (most fr : Nat) : ∀ n, gE lines most fr n = (fill most n).map fun f => lines.map fun l => con fr f l % 256
 | 0 => by
  simp only [gE, fill, List.map_cons, List.map_nil, con_zero]
  simp [List.map_const']
 | n + 1 => by
  rw [gE, fill, tally_fill lines most fr n, List.flatMap_map, List.map_flatMap]
  refine flatMap_congr' fun f hf => ?_
  rw [List.map_map]
  refine List.map_congr_left fun k _ => ?_
  refine list_ext_getD (by simp) fun j hj => ?_
  have hj' : j < lines.length := by simpa using hj
  rw [addL_get k j _ _ (fun i hi => by simpa using onP_lt hi) (by rw [map_getD hj']; omega), map_getD hj', onP_count, if_pos hj']
  show _ = (lines.map fun l => con fr (f ++ [k]) l % 256).getD j 0
  rw [map_getD hj', con_app, con_one, (fill_len f hf).1, Nat.mod_add_mod]
def okF (lines : List (List Int)) (s : Int) (f : List Nat) : Bool := lines.all fun l => decide ((con 0 f l : Int) = s)
def agr (lines : List (List Int)) (s : Int) (f : List Nat) : Bool := lines.all fun l => decide ((f.length : Int) ≤ l.getLastD 0) || decide ((con 0 f l : Int) = s)
def refB (lines : List (List Int)) (most : Nat) (s : Int) : Nat → List Nat → Nat
 | 0, f => if agr lines s f then 1 else 0
 | r + 1, f => if agr lines s f then ((List.range (most + 1)).map fun k => refB lines most s r (f ++ [k])).sum else 0
theorem le_last : ∀ {l : List Int}, l.Pairwise (· < ·) → ∀ c ∈ l, c ≤ l.getLastD 0
 | [], _, c, h => by simp at h
 | [a], _, c, h => by simp at h; subst h; simp
 | a :: b :: l, hp, c, h => by
  have ih := le_last (l := b :: l) (List.pairwise_cons.1 hp).2
  have e : (a :: b :: l).getLastD 0 = (b :: l).getLastD 0 := by simp [List.getLastD]
  rw [e]
  rcases List.mem_cons.1 h with q | q
  ·subst q
   have := (List.pairwise_cons.1 hp).1 b (by simp)
   have := ih b (by simp)
   omega
  ·exact ih c q
theorem last_mem : ∀ {l : List Int}, l ≠ [] → l.getLastD 0 ∈ l
 | [], h => absurd rfl h
 | a :: l, _ => by rw [List.getLastD_cons]; cases l <;> simp [List.getLastD]
theorem prune {cells : Nat} {lines : List (List Int)} {s : Int} {f : List Nat} (hl : ∀ l ∈ lines, AscL cells l) (h : agr lines s f = false) (g : List Nat) : okF lines s (f ++ g) = false := by
 cases q : okF lines s (f ++ g) with
 | false => rfl
 | true =>
  exfalso
  have : agr lines s f = true := by
   simp only [agr, okF, List.all_eq_true, Bool.or_eq_true, decide_eq_true_eq] at q ⊢
   intro l hm
   by_cases hle : (f.length : Int) ≤ l.getLastD 0
   ·exact .inl hle
   ·refine .inr ?_
    have e := q l hm
    rw [con_app, con_past (fr := 0 + f.length) (f := g) (fun c hc => by
     have := le_last (hl l hm).2.1 c hc
     omega)] at e
    exact e
  rw [this] at h; cases h
theorem agr_full {cells : Nat} {lines : List (List Int)} {s : Int} {f : List Nat} (hl : ∀ l ∈ lines, AscL cells l) (hf : f.length = cells) : agr lines s f = okF lines s f := by
 rw [Bool.eq_iff_iff]
 simp only [agr, okF, List.all_eq_true, Bool.or_eq_true, decide_eq_true_eq]
 constructor
 ·intro h l hm
  rcases h l hm with q | q
  ·have := ((hl l hm).2.2 _ (last_mem (hl l hm).1)).2
   omega
  ·exact q
 ·exact fun h l hm => .inr (h l hm)
theorem sum_zero {α : Type} {F : α → Nat} : ∀ {l : List α}, (∀ x ∈ l, F x = 0) → (l.map F).sum = 0
 | [], _ => rfl
 | a :: l, h => by rw [List.map_cons, List.sum_cons, h a (by simp), sum_zero fun x hx => h x (by simp [hx])]
theorem uG {cells most : Nat} {lines : List (List Int)} {s : Int} (hl : ∀ l ∈ lines, AscL cells l) : ∀ (r : Nat) (f : List Nat), f.length + r = cells → refB lines most s r f = ((fill most r).map fun g => if okF lines s (f ++ g) then 1 else 0).sum
 | 0, f, h => by
  rw [refB, agr_full hl (by omega)]
  simp [fill]
 | r + 1, f, h => by
  rw [refB]
  cases q : agr lines s f with
  | false =>
   rw [if_neg (by simp), sum_zero]
   intro g _
   rw [prune hl q, if_neg (by simp)]
  | true =>
   rw [if_pos rfl, fill_front]
   congr 1
   refine List.map_congr_left fun k _ => ?_
   rw [uG hl r (f ++ [k]) (by simp; omega)]
   simp
theorem count_map_sum {α : Type} (F : α → List Nat) (z : List Nat) : ∀ l : List α, (l.map F).count z = (l.map fun x => if F x = z then 1 else 0).sum
 | [] => rfl
 | a :: l => by
  rw [List.map_cons, List.count_cons, count_map_sum F z l, List.map_cons, List.sum_cons]
  by_cases e : F a = z
  ·simp [e]; omega
  ·have : ¬ (F a == z) = true := by simpa using e
   simp [this, e]
theorem jO {α : Type} {F G : α → Nat} {l : List α} (h : ∀ x ∈ l, F x = G x) : (l.map F).sum = (l.map G).sum := by rw [List.map_congr_left h]
theorem asc_len : ∀ {l : List Int} {a b : Int}, l.Pairwise (· < ·) → (∀ c ∈ l, a ≤ c ∧ c < b) → a ≤ b → (l.length : Int) ≤ b - a
 | [], _, _, _, _, h => by simp; omega
 | c :: l, a, b, hp, hc, _ => by
  have h1 := hc c (by simp)
  have := asc_len (l := l) (a := c + 1) (b := b) (List.pairwise_cons.1 hp).2 (fun x hx => ⟨(List.pairwise_cons.1 hp).1 x hx, (hc x (by simp [hx])).2⟩) (by omega)
  simp only [List.length_cons]
  omega
theorem con_small {cells most n fr : Nat} {l : List Int} (hl : AscL cells l) (hc : cells ≤ 16) (hm : most ≤ 9) {f : List Nat} (hf : f ∈ fill most n) : con fr f l ≤ 144 := by
 have h1 := con_le (fr := fr) (fill_len f hf).2 l
 have h2 := asc_len hl.2.1 hl.2.2 (by omega)
 have h3 : l.length * most ≤ 16 * 9 := Nat.mul_le_mul (by omega) hm
 omega
theorem map_eq_iff {α : Type} {F G : α → Nat} : ∀ {l : List α}, l.map F = l.map G ↔ ∀ x ∈ l, F x = G x
 | [] => by simp
 | a :: l => by simp [map_eq_iff (l := l)]
theorem meet_fill {cells most half : Nat} {lines : List (List Int)} {sum : Nat} (hl : ∀ l ∈ lines, AscL cells l) (hc : cells ≤ 16) (hm : most ≤ 9) (hh : half ≤ cells) :
  ((gE lines most 0 half).map fun x => if x.all (fun v => decide (v ≤ sum)) then (gE lines most half (cells - half)).count (x.map fun v => sum - v) else 0).sum = refB lines most (sum : Int) cells [] := by
 rw [uG hl cells [] (by simp), tally_fill lines most 0 half, List.map_map]
 have e : cells = half + (cells - half) := by omega
 have e2 : ∀ F : List Nat → Nat, ((fill most cells).map F).sum = ((fill most half).map fun x => ((fill most (cells - half)).map fun y => F (x ++ y)).sum).sum := fun F => by
  rw [← fill_add, ← e]
 rw [e2]
 refine jO fun x hx => ?_
 show (if (lines.map fun l => con 0 x l % 256).all (fun v => decide (v ≤ sum)) then (gE lines most half (cells - half)).count ((lines.map fun l => con 0 x l % 256).map fun v => sum - v) else 0) = _
 have hx0 := (fill_len x hx).1
 have ex : (lines.map fun l => con 0 x l % 256) = lines.map fun l => con 0 x l := List.map_congr_left fun l h => Nat.mod_eq_of_lt (by have := con_small (fr := 0) (hl l h) hc hm hx; omega)
 rw [ex, tally_fill lines most half, count_map_sum]
 by_cases hall : (lines.map fun l => con 0 x l).all (fun v => decide (v ≤ sum)) = true
 ·rw [if_pos hall]
  refine jO fun y hy => ?_
  have ey : (lines.map fun l => con half y l % 256) = lines.map fun l => con half y l := List.map_congr_left fun l h => Nat.mod_eq_of_lt (by have := con_small (fr := half) (hl l h) hc hm hy; omega)
  rw [ey, List.map_map]
  have key : (lines.map fun l => con half y l) = lines.map ((fun v => sum - v) ∘ fun l => con 0 x l) ↔ okF lines (sum : Int) ([] ++ (x ++ y)) = true := by
   rw [map_eq_iff]
   simp only [okF, List.all_eq_true, decide_eq_true_eq, List.nil_append, Function.comp]
   constructor
   ·intro h l hm
    have h1 := h l hm
    have h2 : con 0 x l ≤ sum := by simpa using List.all_eq_true.1 hall (con 0 x l) (List.mem_map_of_mem hm)
    rw [con_app, hx0, Nat.zero_add]
    omega
   ·intro h l hm
    have h1 := h l hm
    rw [con_app, hx0, Nat.zero_add] at h1
    omega
  by_cases q : (lines.map fun l => con half y l) = lines.map ((fun v => sum - v) ∘ fun l => con 0 x l)
  ·rw [if_pos q, if_pos (key.1 q)]
  ·rw [if_neg q, if_neg fun r => q (key.2 r)]
 ·rw [if_neg hall]
  refine (sum_zero fun y hy => ?_).symm
  rw [if_neg]
  intro q
  refine hall (List.all_eq_true.2 fun v hv => ?_)
  obtain ⟨l, hm, rfl⟩ := List.mem_map.1 hv
  simp only [okF, List.all_eq_true, decide_eq_true_eq, List.nil_append] at q
  have h1 := q l hm
  rw [con_app] at h1
  simp only [decide_eq_true_eq]
  omega
theorem none_fill {cells most : Nat} {lines : List (List Int)} {s : Int} (hl : ∀ l ∈ lines, AscL cells l) (hc : cells ≤ 16) (hm : most ≤ 9) (hn : 0 < lines.length) (hs : s < 0 ∨ 255 < s) : refB lines most s cells [] = 0 := by
 rw [uG hl cells [] (by simp), sum_zero]
 intro g hg
 rw [if_neg]
 intro q
 obtain ⟨l, hm'⟩ := List.exists_mem_of_length_pos hn
 simp only [okF, List.all_eq_true, decide_eq_true_eq, List.nil_append] at q
 have h1 := q l hm'
 have := con_small (fr := 0) (hl l hm') hc hm hg
 omega
theorem refB_nolines {most : Nat} {s s' : Int} : ∀ (r : Nat) (f : List Nat), refB [] most s r f = refB [] most s' r f
 | 0, f => rfl
 | r + 1, f => by rw [refB, refB, jO fun k _ => refB_nolines r (f ++ [k])]; rfl
end Go.Ev
namespace Go.Ev
def zY (n : Nat) (to l : List Int) : List Int := ((List.range n).filter fun c : Nat => l.any fun x => decide (to.getD x.toNat 0 = (c : Int))).map fun c : Nat => (c : Int)
structure PermN (n : Nat) (to : List Int) : Prop where
 len : to.length = n
 nd : to.Nodup
 rg : ∀ x ∈ to, 0 ≤ x ∧ x < (n : Int)
theorem subP {α : Type} [DecidableEq α] : ∀ (l r : List α), l.Nodup → (∀ x ∈ l, x ∈ r) → ∃ s, r.Perm (l ++ s)
 | [], r, _, _ => ⟨r, .refl _⟩
 | a :: l, r, hn, hs => by
  obtain ⟨h1, h2⟩ := List.nodup_cons.1 hn
  have ha := hs a (by simp)
  obtain ⟨s, hp⟩ := subP l (r.erase a) h2 fun x hx => (List.mem_erase_of_ne (by rintro rfl; exact h1 hx)).2 (hs x (by simp [hx]))
  exact ⟨s, (List.perm_cons_erase ha).trans (.cons a hp)⟩
theorem eqP {α : Type} [DecidableEq α] {l r : List α} (h1 : l.Nodup) (h2 : ∀ x ∈ l, x ∈ r) (h3 : r.length ≤ l.length) : r.Perm l := by
 obtain ⟨s, hs⟩ := subP l r h1 h2
 have hl := hs.length_eq
 obtain rfl : s = [] := List.eq_nil_of_length_eq_zero (by rw [List.length_append] at hl; omega)
 simpa using hs
theorem PermN.at {n : Nat} {to : List Int} (h : PermN n to) {i : Nat} (hi : i < n) : to[i]? = some (to.getD i 0) := by
 rw [List.getD_eq_getElem?_getD, List.getElem?_eq_getElem (by rw [h.len]; exact hi)]; rfl
theorem PermN.bd {n : Nat} {to : List Int} (h : PermN n to) {i : Nat} (hi : i < n) : 0 ≤ to.getD i 0 ∧ to.getD i 0 < (n : Int) := h.rg _ (List.mem_of_getElem? (h.at hi))
theorem PermN.inj {n : Nat} {to : List Int} (h : PermN n to) {i j : Nat} (hi : i < n) (hj : j < n) (e : to.getD i 0 = to.getD j 0) : i = j := by
 obtain ⟨a1, a2⟩ := List.getElem?_eq_some_iff.1 (h.at hi)
 obtain ⟨b1, b2⟩ := List.getElem?_eq_some_iff.1 (h.at hj)
 have hp := List.pairwise_iff_getElem.1 h.nd
 rcases Nat.lt_trichotomy i j with c | c | c
 ·exact absurd (a2.trans (e.trans b2.symm)) (hp i j a1 b1 c)
 ·exact c
 ·exact absurd (b2.trans (e.symm.trans a2.symm)) (hp j i b1 a1 c)
theorem PermN.surj {n : Nat} {to : List Int} (h : PermN n to) {j : Nat} (hj : j < n) : ∃ i, i < n ∧ to.getD i 0 = (j : Int) := by
 have hp : ((List.range n).map fun (i : Nat) => (i : Int)).Perm to := eqP h.nd (fun x hx => by
  have := h.rg x hx
  exact List.mem_map.2 ⟨x.toNat, List.mem_range.2 (by omega), by omega⟩) (by simp [h.len])
 have hm : (j : Int) ∈ to := hp.mem_iff.1 (List.mem_map.2 ⟨j, List.mem_range.2 hj, rfl⟩)
 obtain ⟨i, hi⟩ := List.mem_iff_getElem?.1 hm
 have hil := (List.getElem?_eq_some_iff.1 hi).1
 refine ⟨i, by rw [← h.len]; exact hil, ?_⟩
 rw [List.getD_eq_getElem?_getD, hi]; rfl
theorem turnL_mem {n : Nat} {to l : List Int} {c : Int} : c ∈ zY n to l ↔ 0 ≤ c ∧ c < (n : Int) ∧ ∃ x ∈ l, to.getD x.toNat 0 = c := by
 simp only [zY, List.mem_map, List.mem_filter, List.mem_range, List.any_eq_true, decide_eq_true_eq]
 constructor
 ·rintro ⟨k, ⟨h1, x, hx, e⟩, rfl⟩
  exact ⟨by omega, by omega, x, hx, e⟩
 ·rintro ⟨h1, h2, x, hx, e⟩
  exact ⟨c.toNat, ⟨by omega, x, hx, by omega⟩, by omega⟩
theorem turnL_asc {n : Nat} {to l : List Int} : (zY n to l).Pairwise (· < ·) := by
 rw [zY, List.pairwise_map]
 refine List.Pairwise.filter _ ?_
 exact List.pairwise_lt_range.imp fun h => by omega
theorem asc_nodup {l : List Int} (h : l.Pairwise (· < ·)) : l.Nodup := h.imp fun h => by omega
theorem turnL_perm {n : Nat} {to l : List Int} (h : PermN n to) (hl : AscL n l) : (zY n to l).Perm (l.map fun x => to.getD x.toNat 0) := by
 have nd : (l.map fun x => to.getD x.toNat 0).Nodup := by
  rw [List.Nodup, List.pairwise_map]
  refine (List.Pairwise.and_mem.1 hl.2.1).imp ?_
  rintro a b ⟨ha, hb, hab⟩ e
  have h1 := hl.2.2 a ha
  have h2 := hl.2.2 b hb
  have := h.inj (i := a.toNat) (j := b.toNat) (by omega) (by omega) e
  omega
 rw [List.perm_ext_iff_of_nodup (asc_nodup turnL_asc) nd]
 intro c
 rw [turnL_mem, List.mem_map]
 constructor
 ·rintro ⟨_, _, x, hx, e⟩
  exact ⟨x, hx, e⟩
 ·rintro ⟨x, hx, e⟩
  have h1 := hl.2.2 x hx
  have := h.bd (i := x.toNat) (by omega)
  exact ⟨by omega, by omega, x, hx, e⟩
theorem turnL_ok {n : Nat} {to l : List Int} (h : PermN n to) (hl : AscL n l) : AscL n (zY n to l) := by
 refine ⟨fun e => ?_, turnL_asc, fun c hc => ?_⟩
 ·have := (turnL_perm h hl).length_eq
  rw [e, List.length_map] at this
  exact hl.1 (List.eq_nil_of_length_eq_zero this.symm)
 ·have := turnL_mem.1 hc
  exact ⟨this.1, this.2.1⟩
theorem asc_ext : ∀ {a b : List Int}, a.Pairwise (· < ·) → b.Pairwise (· < ·) → (∀ x, x ∈ a ↔ x ∈ b) → a = b := by
 intro a b ha hb h
 exact ((List.perm_ext_iff_of_nodup (asc_nodup ha) (asc_nodup hb)).2 h).eq_of_pairwise (fun a b _ _ h1 h2 => by omega) ha hb
theorem turnL_inj {n : Nat} {to a b : List Int} (h : PermN n to) (ha : AscL n a) (hb : AscL n b) (e : zY n to a = zY n to b) : a = b := by
 have key : ∀ {a b : List Int}, AscL n a → AscL n b → zY n to a = zY n to b → ∀ x, x ∈ a → x ∈ b := by
  intro a b ha hb e x hx
  have h1 := ha.2.2 x hx
  have h2 := h.bd (i := x.toNat) (by omega)
  have hm : to.getD x.toNat 0 ∈ zY n to a := turnL_mem.2 ⟨h2.1, h2.2, x, hx, rfl⟩
  rw [e] at hm
  obtain ⟨_, _, y, hy, q⟩ := turnL_mem.1 hm
  have h3 := hb.2.2 y hy
  have := h.inj (i := y.toNat) (j := x.toNat) (by omega) (by omega) q
  obtain rfl : y = x := by omega
  exact hy
 exact asc_ext ha.2.1 hb.2.1 fun x => ⟨key ha hb e x, key hb ha e.symm x⟩
theorem fill_mem {most : Nat} : ∀ {n : Nat} {f : List Nat}, f ∈ fill most n ↔ f.length = n ∧ ∀ v ∈ f, v ≤ most := by
 intro n
 induction n with
 | zero =>
  intro f
  rw [fill, List.mem_singleton]
  constructor
  ·rintro rfl; simp
  ·rintro ⟨h, _⟩; exact List.eq_nil_of_length_eq_zero h
 | succ n ih =>
  intro f
  refine ⟨fill_len f, fun ⟨h1, h2⟩ => ?_⟩
  have hne : f ≠ [] := by rintro rfl; simp at h1
  have e := List.dropLast_concat_getLast hne
  simp only [fill, List.mem_flatMap, List.mem_map, List.mem_range]
  refine ⟨f.dropLast, ih.2 ⟨by simp [h1], fun v hv => h2 v ((List.dropLast_sublist f).subset hv)⟩, f.getLast hne, ?_, e⟩
  have := h2 _ (List.getLast_mem hne)
  omega
theorem fill_nodup (most : Nat) : ∀ n, (fill most n).Nodup
 | 0 => by simp [fill]
 | n + 1 => by
  rw [fill, List.Nodup, List.pairwise_flatMap]
  refine ⟨fun f _ => ?_, ?_⟩
  ·rw [List.pairwise_map]
   refine List.pairwise_lt_range.imp fun {a b} h e => ?_
   have := List.append_cancel_left e
   simp at this; omega
  ·refine List.Pairwise.imp ?_ (fill_nodup most n)
   intro a b hab x hx y hy e
   obtain ⟨k, _, rfl⟩ := List.mem_map.1 hx
   obtain ⟨j, _, rfl⟩ := List.mem_map.1 hy
   exact hab (List.append_inj_left' e rfl)
theorem fill_bij {most n : Nat} {φ ψ : List Nat → List Nat} (h1 : ∀ f ∈ fill most n, φ f ∈ fill most n) (h2 : ∀ f ∈ fill most n, ψ f ∈ fill most n) (h3 : ∀ f ∈ fill most n, ψ (φ f) = f) (h4 : ∀ f ∈ fill most n, φ (ψ f) = f) : ((fill most n).map φ).Perm (fill most n) := by
 have nd : ((fill most n).map φ).Nodup := by
  rw [List.Nodup, List.pairwise_map]
  refine (List.Pairwise.and_mem.1 (fill_nodup most n)).imp ?_
  rintro a b ⟨ha, hb, hab⟩ e
  exact hab (by rw [← h3 a ha, ← h3 b hb, e])
 rw [List.perm_ext_iff_of_nodup nd (fill_nodup most n)]
 intro f
 rw [List.mem_map]
 constructor
 ·rintro ⟨g, hg, rfl⟩; exact h1 g hg
 ·exact fun hf => ⟨ψ f, h2 f hf, h4 f hf⟩
theorem psum {α : Type} {l l' : List α} (f : α → Nat) (h : l.Perm l') : (l.map f).sum = (l'.map f).sum := by
 induction h with
 | nil => rfl
 | cons a _ ih => simp [ih]
 | swap a b l => simp; omega
 | trans _ _ h1 h2 => exact h1.trans h2
theorem fill_rev {most n : Nat} (F : List Nat → Nat) : ((fill most n).map fun g => F g.reverse).sum = ((fill most n).map F).sum := by
 have hr : ∀ f ∈ fill most n, f.reverse ∈ fill most n := fun f hf => by
  obtain ⟨h1, h2⟩ := fill_mem.1 hf
  exact fill_mem.2 ⟨by simp [h1], fun v hv => h2 v (by simpa using hv)⟩
 have := psum F (fill_bij hr hr (fun f _ => by simp) (fun f _ => by simp))
 rw [List.map_map] at this
 exact this
def pullF (n : Nat) (to : List Int) (g : List Nat) : List Nat := (List.range n).map fun i => g.getD (to.getD i 0).toNat 0
def pushF (n : Nat) (to : List Int) (g : List Nat) : List Nat := (List.range n).map fun j : Nat => g.getD (to.idxOf (j : Int)) 0
theorem idx_of {n : Nat} {to : List Int} (h : PermN n to) {i j : Nat} (hi : i < n) (e : to.getD i 0 = (j : Int)) : to.idxOf (j : Int) = i := by
 have hm : (j : Int) ∈ to := List.mem_of_getElem? (e ▸ h.at hi)
 have hl := List.idxOf_lt_length_iff.2 hm
 refine h.inj (by rw [← h.len]; exact hl) hi ?_
 rw [e, List.getD_eq_getElem?_getD, List.getElem?_eq_getElem hl, List.getElem_idxOf]; rfl
theorem rangeD {n j : Nat} {F : Nat → Nat} (h : j < n) : ((List.range n).map F).getD j 0 = F j := by
 rw [List.getD_eq_getElem?_getD, List.getElem?_map, List.getElem?_range h]; rfl
theorem getD_le {most : Nat} {g : List Nat} (h : ∀ v ∈ g, v ≤ most) (j : Nat) : g.getD j 0 ≤ most := by
 rw [List.getD_eq_getElem?_getD]
 cases e : g[j]? with
 | none => simp
 | some v => exact h v (List.mem_of_getElem? e)
theorem pull_bij {most n : Nat} {to : List Int} (h : PermN n to) : ((fill most n).map (pullF n to)).Perm (fill most n) := by
 refine fill_bij (ψ := pushF n to) (fun f hf => ?_) (fun f hf => ?_) (fun f hf => ?_) (fun f hf => ?_)
 all_goals obtain ⟨h1, h2⟩ := fill_mem.1 hf
 ·refine fill_mem.2 ⟨by simp [pullF], fun v hv => ?_⟩
  obtain ⟨i, _, rfl⟩ := List.mem_map.1 hv
  exact getD_le h2 _
 ·refine fill_mem.2 ⟨by simp [pushF], fun v hv => ?_⟩
  obtain ⟨i, _, rfl⟩ := List.mem_map.1 hv
  exact getD_le h2 _
 ·refine list_ext_getD (by simp [pushF, h1]) fun j hj => ?_
  have hj : j < n := by simpa [pushF] using hj
  obtain ⟨i, hi, e⟩ := h.surj hj
  rw [pushF, rangeD hj, idx_of h hi e, pullF, rangeD hi, e]; simp
 ·refine list_ext_getD (by simp [pullF, h1]) fun i hi => ?_
  have hi : i < n := by simpa [pullF] using hi
  have hb := h.bd hi
  rw [pullF, rangeD hi, pushF, rangeD (by omega), idx_of h hi (by omega)]
theorem con_eq (g : List Nat) (l : List Int) : con 0 g l = (l.map (gC 0 g)).sum := rfl
theorem gC_nn {g : List Nat} {c : Int} (h : 0 ≤ c) : gC 0 g c = g.getD c.toNat 0 := by
 rw [gC, if_pos (by omega)]; congr 1; omega
theorem con_turn {n : Nat} {to l : List Int} (h : PermN n to) (hl : AscL n l) (g : List Nat) : con 0 g (zY n to l) = con 0 (pullF n to g) l := by
 rw [con_eq, con_eq, psum _ (turnL_perm h hl), List.map_map]
 refine jO fun x hx => ?_
 have h1 := hl.2.2 x hx
 have h2 := h.bd (i := x.toNat) (by omega)
 show gC 0 g (to.getD x.toNat 0) = _
 rw [gC_nn h2.1, gC_nn h1.1, pullF, rangeD (by omega)]
theorem refB_turn {n most : Nat} {lines : List (List Int)} {to : List Int} {s : Int} (h : PermN n to) (hl : ∀ l ∈ lines, AscL n l) : refB (lines.map (zY n to)) most s n [] = refB lines most s n [] := by
 have hl2 : ∀ l ∈ lines.map (zY n to), AscL n l := fun l hm => by
  obtain ⟨x, hx, rfl⟩ := List.mem_map.1 hm
  exact turnL_ok h (hl x hx)
 rw [uG hl2 n [] (by simp), uG hl n [] (by simp)]
 simp only [List.nil_append]
 rw [← psum (fun g => if okF lines s g = true then 1 else 0) (pull_bij h), List.map_map]
 refine jO fun g _ => ?_
 have : okF (lines.map (zY n to)) s g = okF lines s (pullF n to g) := by
  rw [okF, okF, List.all_map, Bool.eq_iff_iff, List.all_eq_true, List.all_eq_true]
  refine forall_congr' fun l => forall_congr' fun hm => ?_
  simp only [Function.comp, con_turn h (hl l hm)]
 simp only [this, Function.comp]
theorem fill_mono {a b : Nat} (h : a ≤ b) (F : List Nat → Nat) : ∀ n, ((fill a n).map F).sum ≤ ((fill b n).map F).sum := by
 intro n
 obtain ⟨s, hs⟩ := subP (fill a n) (fill b n) (fill_nodup a n) fun f hf => by
  obtain ⟨h1, h2⟩ := fill_mem.1 hf
  exact fill_mem.2 ⟨h1, fun v hv => Nat.le_trans (h2 v hv) h⟩
 rw [psum F hs, List.map_append, List.sum_append]; omega
theorem refB_mono {n a b : Nat} {lines : List (List Int)} {s : Int} (hab : a ≤ b) (hl : ∀ l ∈ lines, AscL n l) : refB lines a s n [] ≤ refB lines b s n [] := by
 rw [uG hl n [] (by simp), uG hl n [] (by simp)]
 exact fill_mono hab _ n
end Go.Ev
namespace Go.Ev
def jN (n : Nat) : List Int := (List.range n).map fun i : Nat => (n : Int) - 1 - (i : Int)
theorem backL_getD {n i : Nat} (h : i < n) : (jN n).getD i 0 = (n : Int) - 1 - (i : Int) := by
 rw [jN, List.getD_eq_getElem?_getD, List.getElem?_map, List.getElem?_range h]; rfl
theorem backL_perm (n : Nat) : PermN n (jN n) := {
 len := by simp [jN]
 nd := by
  rw [jN, List.Nodup, List.pairwise_map]
  exact List.pairwise_lt_range.imp fun h e => by omega
 rg x hx := by
  obtain ⟨i, hi, rfl⟩ := List.mem_map.1 hx
  have := List.mem_range.1 hi
  omega }
theorem con_back {n cut : Nat} {l : List Int} (hl : AscL n l) (hc : cut ≤ n) {g : List Nat} (hg : g.length = n - cut) : con 0 g (zY n (jN n) l) = con cut g.reverse l := by
 rw [con_eq, psum _ (turnL_perm (backL_perm n) hl), List.map_map, con]
 refine jO fun x hx => ?_
 have h1 := hl.2.2 x hx
 show gC 0 g ((jN n).getD x.toNat 0) = _
 rw [backL_getD (by omega), gC_nn (by omega), gC]
 by_cases c : (cut : Int) ≤ x
 ·rw [if_pos c, List.getD_eq_getElem?_getD, List.getD_eq_getElem?_getD, List.getElem?_reverse (by omega)]
  congr 2; omega
 ·rw [if_neg c, List.getD_eq_getElem?_getD, List.getElem?_eq_none (by omega)]; rfl
theorem meets_fill {n cut most : Nat} {lines : List (List Int)} {s : Nat} (hl : ∀ l ∈ lines, AscL n l) (hc : cut ≤ n) :
  ((fill most cut).map fun f => ((fill most (n - cut)).map fun g => if (lines.all fun l => decide (con 0 f l + con 0 g (zY n (jN n) l) = s)) = true then 1 else 0).sum).sum = refB lines most (s : Int) n [] := by
 rw [uG hl n [] (by simp)]
 have e : n = cut + (n - cut) := by omega
 have e2 : ∀ F : List Nat → Nat, ((fill most n).map F).sum = ((fill most cut).map fun x => ((fill most (n - cut)).map fun y => F (x ++ y)).sum).sum := fun F => by rw [← fill_add, ← e]
 rw [e2]
 refine jO fun f hf => ?_
 have hfl := (fill_mem.1 hf).1
 refine Eq.trans ?_ (fill_rev fun y => if okF lines (s : Int) ([] ++ (f ++ y)) = true then 1 else 0)
 refine jO fun g hg => ?_
 have hgl := (fill_mem.1 hg).1
 have : (lines.all fun l => decide (con 0 f l + con 0 g (zY n (jN n) l) = s)) = okF lines (s : Int) ([] ++ (f ++ g.reverse)) := by
  rw [okF, Bool.eq_iff_iff, List.all_eq_true, List.all_eq_true]
  refine forall_congr' fun l => forall_congr' fun hm => ?_
  rw [con_back (hl l hm) hc hgl, List.nil_append, con_app, hfl, Nat.zero_add]
  simp only [decide_eq_true_eq]
  omega
 simp only [this]
end Go.Ev
namespace Go.Ev
open Go Go.Proofs
theorem cells_zero {cells : Int} : ∀ {l : List Int} {p : Option Int}, (∀ c ∈ l, 0 ≤ c ∧ c < cells) → l.Pairwise (· < ·) → (∀ q, p = some q → ∀ c ∈ l, q < c) → yD cells p l = 0
 | [], _, _, _, _ => rfl
 | c :: l, p, h1, h2, h3 => by
  have h0 := h1 c (by simp)
  obtain ⟨h4, h5⟩ := List.pairwise_cons.1 h2
  rw [yD, if_neg (by omega)]
  have : (p.any fun q => decide (c ≤ q)) = false := by
   cases p with
   | none => rfl
   | some q =>
    have := h3 q rfl c (by simp)
    simp; omega
  rw [this, if_neg (by simp)]
  exact cells_zero (fun x hx => h1 x (by simp [hx])) h5 fun q hq x hx => by
   have := Option.some.inj hq
   have := h4 x hx
   omega
theorem turn_lines {n : Nat} {to : List Int} (h : PermN n to) : ∀ (ls prev : List (List Int)), (∀ l ∈ prev, AscL n l) → jI n prev ls = 0 → jI n (prev.map (zY n to)) (ls.map (zY n to)) = 0
 | [], _, _, _ => rfl
 | l :: ls, prev, hp, he => by
  rw [jI] at he
  by_cases c : yP n prev l ≠ 0
  ·rw [if_pos c] at he; exact absurd he c
  rw [if_neg c] at he
  have c : yP n prev l = 0 := by simpa using c
  rw [yP] at c
  by_cases c0 : l = []
  ·rw [if_pos c0] at c; cases c
  rw [if_neg c0] at c
  by_cases c1 : yD n none l ≠ 0
  ·rw [if_pos c1] at c; exact absurd c c1
  rw [if_neg c1] at c
  have c1 : yD n none l = 0 := by simpa using c1
  obtain ⟨g1, g2, _⟩ := cells_ok c1
  have hl : AscL n l := ⟨c0, g2, g1⟩
  have ht := turnL_ok h hl
  have hm : zY n to l ∉ prev.map (zY n to) := by
   intro hm
   obtain ⟨x, hx, e⟩ := List.mem_map.1 hm
   have := turnL_inj h (hp x hx) hl e
   subst this
   rw [if_pos hx] at c; cases c
  have e : yP n (prev.map (zY n to)) (zY n to l) = 0 := by
   rw [yP, if_neg ht.1, cells_zero ht.2.2 ht.2.1 (by simp), if_neg (by simp), if_neg hm]
  rw [List.map_cons, jI, if_neg (by rw [e]; simp)]
  have := turn_lines h ls (prev ++ [l]) (fun x hx => by
   rcases List.mem_append.1 hx with q | q
   ·exact hp x q
   ·rw [List.mem_singleton.1 q]; exact hl) he
  rwa [List.map_append] at this
theorem turn_sys {n : Nat} {to : List Int} {lines : List (List Int)} (h : PermN n to) (hs : yO n lines = 0) : yO n (lines.map (zY n to)) = 0 := by
 rw [yO] at hs ⊢
 by_cases c1 : (n : Int) < 1 ∨ 256 < (n : Int)
 ·rw [if_pos c1] at hs; cases hs
 rw [if_neg c1] at hs ⊢
 rw [List.length_map]
 by_cases c2 : 128 < lines.length
 ·rw [if_pos c2] at hs; cases hs
 rw [if_neg c2] at hs ⊢
 exact turn_lines h lines [] (by simp) hs
end Go.Ev
namespace Go.Proofs
open Go.Shelf Go.Lib
def ordL : List Int → List Int → Int
 | [], [] => 0
 | [], _ :: _ => -1
 | _ :: _, [] => 1
 | x :: xs, y :: ys => if x < y then -1 else if y < x then 1 else ordL xs ys
theorem isNaN164 (x : Int) (w : World) : Calls Tryz.prog 164 #[.int .i64 x] w fun e w' => e = .returned (.bool false) ∧ w' = w := by
 have t3 := Tryz.underlying3; have a3 := Tryz.isAgg3; have z3 := Tryz.sizeOf3; have v3 := Tryz.zeroValue3; have t4 := Tryz.underlying4; have a4 := Tryz.isAgg4; have z4 := Tryz.sizeOf4; have v4 := Tryz.zeroValue4
 go_enter Tryz.func164, Tryz.ntmps164
 go_wp2
 go_ret
 exact ⟨by simp, rfl⟩
set_option maxHeartbeats 2000000 in
set_option maxRecDepth 100000 in
theorem compare130 (x y : Int) (w : World) : Calls Tryz.prog 130 #[.int .i64 x, .int .i64 y] w fun e w' => e = .returned (.int .i64 (Lib.compareInt x y)) ∧ w' = w := by
 have t3 := Tryz.underlying3; have a3 := Tryz.isAgg3; have z3 := Tryz.sizeOf3; have v3 := Tryz.zeroValue3; have t4 := Tryz.underlying4; have a4 := Tryz.isAgg4; have z4 := Tryz.sizeOf4; have v4 := Tryz.zeroValue4
 go_enter Tryz.func130, Tryz.ntmps130
 go_wp2_with (go_at_call 164; refine (isNaN164 _ _).mono ?_; rintro e w' ⟨rfl, hw⟩; rw [hw])
 all_goals (go_ret; refine ⟨?_, rfl⟩; unfold Lib.compareInt; (repeat' split) <;> first | rfl | (exfalso; omega))
end Go.Proofs
namespace Go.Proofs
open Go.Shelf Go.Lib Go.RowKit
theorem ordL_step {xs ys : List Int} {k : Nat} {x y : Int} (hx : k < xs.length) (hy : k < ys.length) (ex : xs[k]! = x) (ey : ys[k]! = y) : ordL (xs.drop k) (ys.drop k) = if x < y then -1 else if y < x then 1 else ordL (xs.drop (k + 1)) (ys.drop (k + 1)) := by
 rw [List.drop_eq_getElem_cons hx, List.drop_eq_getElem_cons hy]
 rw [getElem!_pos xs k hx] at ex
 rw [getElem!_pos ys k hy] at ey
 rw [ex, ey, ordL]
theorem ordL_endl {xs ys : List Int} {k : Nat} (hx : xs.length ≤ k) : ordL (xs.drop k) (ys.drop k) = if ys.length ≤ k then 0 else -1 := by
 rw [List.drop_eq_nil_of_le hx]
 by_cases h : ys.length ≤ k
 ·rw [if_pos h, List.drop_eq_nil_of_le h, ordL]
 ·rw [if_neg h, List.drop_eq_getElem_cons (by omega), ordL]
theorem ordL_endr {xs ys : List Int} {k : Nat} (hx : k < xs.length) (hy : ys.length ≤ k) : ordL (xs.drop k) (ys.drop k) = 1 := by
 rw [List.drop_eq_nil_of_le hy, List.drop_eq_getElem_cons hx, ordL]
set_option maxHeartbeats 2000000 in
set_option maxRecDepth 100000 in
theorem compare92W (p1 p2 : Option Addr) (n c m d : Nat) (xs ys : List Int) (w : World) (hn : n = xs.length) (hm : m = ys.length) (hbig : n ≤ 1000000) (hbig2 : m ≤ 1000000)
  (hc1 : n = 0 ∨ ∃ b1 o1, p1 = some ⟨b1, o1, none⟩ ∧ ∀ j, j < n → w.cell? ⟨b1, o1 + j, none⟩ = some (.int .i64 xs[j]!)) (hc2 : m = 0 ∨ ∃ b2 o2, p2 = some ⟨b2, o2, none⟩ ∧ ∀ j, j < m → w.cell? ⟨b2, o2 + j, none⟩ = some (.int .i64 ys[j]!)) :
  Calls Tryz.prog 92 #[.slice p1 n c, .slice p2 m d] w fun e w' => e = .returned (.int .i64 (ordL xs ys)) ∧ ∃ q, w' = w.drewN q := by
 have H1 : Aside (n = 0 ∨ ∃ b1 o1, p1 = some ⟨b1, o1, none⟩ ∧ ∀ j, j < n → w.cell? ⟨b1, o1 + j, none⟩ = some (.int .i64 xs[j]!)) := hc1
 have H2 : Aside (m = 0 ∨ ∃ b2 o2, p2 = some ⟨b2, o2, none⟩ ∧ ∀ j, j < m → w.cell? ⟨b2, o2 + j, none⟩ = some (.int .i64 ys[j]!)) := hc2
 clear hc1 hc2
 have mixed : Tryz.prog.follows .mixedOrders = true := by kernel_rfl
 have t0 := Tryz.underlying0; have a0 := Tryz.isAgg0; have z0 := Tryz.sizeOf0; have v0 := Tryz.zeroValue0
 have t3 := Tryz.underlying3; have a3 := Tryz.isAgg3; have z3 := Tryz.sizeOf3; have v3 := Tryz.zeroValue3; have t4 := Tryz.underlying4; have a4 := Tryz.isAgg4; have z4 := Tryz.sizeOf4; have v4 := Tryz.zeroValue4
 have t46 := Tryz.underlying46; have a46 := Tryz.isAgg46; have z46 := Tryz.sizeOf46; have v46 := Tryz.zeroValue46
 have A0 : Aside (n = xs.length ∧ m = ys.length) := ⟨hn, hm⟩
 clear hn hm
 go_enter Tryz.func92, Tryz.ntmps92
 go_wp2
 go_loopg [11] n (fun g s11 wr => ∃ k q : Nat, k ≤ n ∧ k ≤ m ∧ n - k ≤ g ∧ s11 = .int .i64 k ∧ wr = w.drewN q ∧ Aside (ordL (xs.drop k) (ys.drop k) = ordL xs ys))
 case atStart => exact ⟨0, 0, Nat.zero_le _, Nat.zero_le _, by omega, rfl, rfl, rfl⟩
 case round =>
  obtain ⟨k, q, hk, hkm, hg, rfl, rfl, A⟩ := hrel
  by_cases hlt : k < n
  ·by_cases hlm : k < m
   ·obtain ⟨b1, o1, rfl, hc1⟩ := H1.out.resolve_left (by omega)
    obtain ⟨b2, o2, rfl, hc2⟩ := H2.out.resolve_left (by omega)
    clear H1 H2
    have g1 : w.cell? ⟨b1, o1 + k, none⟩ = some (.int .i64 xs[k]!) := hc1 k hlt
    have g2 : w.cell? ⟨b2, o2 + k, none⟩ = some (.int .i64 ys[k]!) := hc2 k hlm
    clear hc1 hc2
    generalize hxk : xs[k]! = x at g1
    generalize hyk : ys[k]! = y at g2
    have B : Aside (xs[k]! = x ∧ ys[k]! = y) := ⟨hxk, hyk⟩
    clear hxk hyk
    obtain ⟨r, C, hcon⟩ : ∃ r, Aside (r = -1 ∧ x < y ∨ r = 1 ∧ y < x ∨ r = 0 ∧ x = y) ∧ ∀ w, Calls Tryz.prog 130 #[.int .i64 x, .int .i64 y] w fun e w' => e = .returned (.int .i64 r) ∧ w' = w :=
     ⟨Lib.compareInt x y, (show Aside _ from by
      unfold Aside Lib.compareInt
      by_cases c1 : x < y
      ·rw [if_pos c1]; exact .inl ⟨rfl, c1⟩
      ·rw [if_neg c1]
       by_cases c2 : y < x
       ·simp [c2]
       ·have : x = y := by omega
        simp [this]), fun w => compare130 x y w⟩
    have D := ordL_step (A0.out.1 ▸ hlt) (A0.out.2 ▸ hlm) B.out.1 B.out.2
    have D' : Aside (ordL (xs.drop k) (ys.drop k) = if x < y then -1 else if y < x then 1 else ordL (xs.drop (k + 1)) (ys.drop (k + 1))) := D
    clear D
    by_cases hr : r = 0
    ·subst hr
     go_wp2_with (go_at_call 130; refine (hcon _).mono ?_; rintro e w' ⟨rfl, hw⟩; rw [hw])
     go_roundg (n - (k + 1))
     case measure => omega
     case rel =>
      refine ⟨k + 1, q, by omega, by omega, by omega, by go_num, rfl, (show Aside _ from ?_)⟩
      rcases C.out with ⟨c, _⟩ | ⟨c, _⟩ | ⟨_, rfl⟩
      ·omega
      ·omega
      ·have := D'.out
       rw [if_neg (by omega), if_neg (by omega)] at this
       exact this.symm.trans A.out
    ·go_wp2_with (go_at_call 130; refine (hcon _).mono ?_; rintro e w' ⟨rfl, hw⟩; rw [hw])
     go_ret
     refine ⟨?_, q, rfl⟩
     rw [← A.out, D'.out]
     rcases C.out with ⟨rfl, c⟩ | ⟨rfl, c⟩ | ⟨c, _⟩
     ·rw [if_pos c]; rfl
     ·rw [if_neg (show ¬ x < y by omega), if_pos c]; rfl
     ·exact absurd c hr
   ·have D : Aside (ordL (xs.drop k) (ys.drop k) = 1) := ordL_endr (A0.out.1 ▸ hlt) (by have := A0.out.2; omega)
    obtain ⟨b1, o1, rfl, hc1⟩ := H1.out.resolve_left (by omega)
    clear H1 H2
    have g1 : w.cell? ⟨b1, o1 + k, none⟩ = some (.int .i64 xs[k]!) := hc1 k hlt
    clear hc1
    generalize hxk : xs[k]! = x at g1
    have hmk : m ≤ k := by omega
    go_wp2
    go_ret
    refine ⟨?_, q, rfl⟩
    rw [← A.out, D.out]; rfl
  ·have hkn : k = n := by omega
   have D : Aside (ordL (xs.drop k) (ys.drop k) = if ys.length ≤ k then 0 else -1) := ordL_endl (by have := A0.out.1; omega)
   clear H1 H2
   by_cases hlm : k < m
   ·have D' : Aside (ordL (xs.drop k) (ys.drop k) = -1) := D.out.trans (if_neg (by have := A0.out.2; omega))
    go_wp2
    go_ret
    refine ⟨?_, q, rfl⟩
    rw [← A.out, D'.out]; rfl
   ·have D' : Aside (ordL (xs.drop k) (ys.drop k) = 0) := D.out.trans (if_pos (by have := A0.out.2; omega))
    go_wp2
    go_ret
    refine ⟨?_, q, rfl⟩
    rw [← A.out, D'.out]; rfl
end Go.Proofs
namespace Go.Proofs
theorem ordL_cons (x : Int) (xs : List Int) (y : Int) (ys : List Int) : ordL (x :: xs) (y :: ys) = if x < y then -1 else if y < x then 1 else ordL xs ys := by rw [ordL]
theorem gH : ∀ a b : List Int, ordL b a = - ordL a b
 | [], [] => by rw [ordL]; rfl
 | [], _ :: _ => by rw [ordL, ordL]; rfl
 | _ :: _, [] => by rw [ordL, ordL]
 | x :: xs, y :: ys => by
  rw [ordL_cons, ordL_cons, gH xs ys]
  by_cases h : x < y
  ·simp only [if_pos h, if_neg (show ¬ y < x by omega)]; rfl
  ·rw [if_neg h]
   by_cases g : y < x
   ·simp only [if_pos g, if_neg h]
   ·simp only [if_neg g, if_neg h]
theorem ordL_eq : ∀ {a b : List Int}, ordL a b = 0 → a = b
 | [], [], _ => rfl
 | [], _ :: _, h => by rw [ordL] at h; omega
 | _ :: _, [], h => by rw [ordL] at h; omega
 | x :: xs, y :: ys, h => by
  rw [ordL_cons] at h
  by_cases c : x < y
  ·rw [if_pos c] at h; omega
  ·rw [if_neg c] at h
   by_cases g : y < x
   ·rw [if_pos g] at h; omega
   ·rw [if_neg g] at h
    rw [ordL_eq h, show x = y by omega]
theorem ordL_refl (a : List Int) : ordL a a = 0 := by have := gH a a; omega
theorem ordL_le_trans : ∀ {a b c : List Int}, ordL a b ≤ 0 → ordL b c ≤ 0 → ordL a c ≤ 0
 | [], _, [], _, _ => by rw [ordL]; omega
 | [], _, _ :: _, _, _ => by rw [ordL]; omega
 | _ :: _, [], _, h, _ => by rw [ordL] at h; omega
 | x :: xs, y :: ys, [], _, h => by rw [ordL] at h; omega
 | x :: xs, y :: ys, z :: zs, h, g => by
  rw [ordL_cons] at h g ⊢
  by_cases c1 : x < y
  ·by_cases c2 : y < z
   ·rw [if_pos (by omega)]; omega
   ·rw [if_neg c2] at g
    by_cases c3 : z < y
    ·rw [if_pos c3] at g; omega
    ·rw [if_pos (by omega)]; omega
  ·rw [if_neg c1] at h
   by_cases c4 : y < x
   ·rw [if_pos c4] at h; omega
   ·rw [if_neg c4] at h
    by_cases c2 : y < z
    ·rw [if_pos (by omega)]; omega
    ·rw [if_neg c2] at g
     by_cases c3 : z < y
     ·rw [if_pos c3] at g; omega
     ·rw [if_neg c3] at g
      rw [if_neg (by omega), if_neg (by omega)]
      exact ordL_le_trans h g
theorem ordL_lt_trans {a b c : List Int} (h : ordL a b < 0) (g : ordL b c < 0) : ordL a c < 0 := by
 have := ordL_le_trans (Int.le_of_lt h) (Int.le_of_lt g)
 by_cases e : ordL a c = 0
 ·have := ordL_eq e
  subst this
  have := gH a b
  omega
 ·omega
theorem ordL_ge_trans {a b c : List Int} (h : 0 ≤ ordL a b) (g : 0 ≤ ordL b c) : 0 ≤ ordL a c := by
 have h1 := gH a b
 have h2 := gH b c
 have h3 := gH a c
 have := ordL_le_trans (a := c) (b := b) (c := a) (by omega) (by omega)
 omega
end Go.Proofs
namespace Go.Ev
open Go.Proofs
def insT (A : List (List Int × Nat)) (l : List Int) (n : Nat) : List (List Int × Nat) := match A with
 | [] => [(l, n)]
 |(a, c) :: A => if ordL a l < 0 then (a, c) :: insT A l n else if a = l then (a, c + n) :: A else (l, n) :: (a, c) :: A
structure IsTab (A : List (List Int × Nat)) (M : List (List Int)) : Prop where
 srt : A.Pairwise fun a b => ordL a.1 b.1 < 0
 cnt : ∀ p ∈ A, p.2 = M.count p.1 ∧ 0 < p.2
 all : ∀ y ∈ M, ∃ p ∈ A, p.1 = y
theorem tab_unique : ∀ {A A' : List (List Int × Nat)}, A.Pairwise (fun a b => ordL a.1 b.1 < 0) → A'.Pairwise (fun a b => ordL a.1 b.1 < 0) → (∀ p, p ∈ A ↔ p ∈ A') → A = A'
 | [], [], _, _, _ => rfl
 | [], b :: _, _, _, h => by have := (h b).2 (by simp); simp at this
 | a :: _, [], _, _, h => by have := (h a).1 (by simp); simp at this
 | a :: A, b :: B, hA, hB, h => by
  rw [List.pairwise_cons] at hA hB
  have e : a = b := by
   rcases List.mem_cons.1 ((h a).1 (by simp)) with e | e
   ·exact e
   ·rcases List.mem_cons.1 ((h b).2 (by simp)) with g | g
    ·exact g.symm
    ·have h1 := hA.1 b g
     have h2 := hB.1 a e
     have := gH a.1 b.1
     omega
  subst e
  rw [tab_unique hA.2 hB.2 fun p => ⟨fun hp => ?_, fun hp => ?_⟩]
  ·rcases List.mem_cons.1 ((h p).1 (by simp [hp])) with e | e
   ·have := hA.1 p hp
    rw [e, ordL_refl] at this; omega
   ·exact e
  ·rcases List.mem_cons.1 ((h p).2 (by simp [hp])) with e | e
   ·have := hB.1 p hp
    rw [e, ordL_refl] at this; omega
   ·exact e
theorem IsTab.mem {A : List (List Int × Nat)} {M : List (List Int)} (T : IsTab A M) (p : List Int × Nat) : p ∈ A ↔ p.2 = M.count p.1 ∧ 0 < p.2 := by
 refine ⟨T.cnt p, fun ⟨h1, h2⟩ => ?_⟩
 have hm : p.1 ∈ M := List.count_pos_iff.1 (by omega)
 obtain ⟨q, hq, e⟩ := T.all _ hm
 have := (T.cnt q hq).1
 have : q = p := by
  refine Prod.ext e ?_
  rw [this, e, h1]
 exact this ▸ hq
theorem IsTab.unique {A A' : List (List Int × Nat)} {M M' : List (List Int)} (T : IsTab A M) (T' : IsTab A' M') (h : M.Perm M') : A = A' :=
 tab_unique T.srt T'.srt fun p => by rw [T.mem, T'.mem, h.count_eq]
theorem IsTab.nil : IsTab [] [] := ⟨.nil, by simp, by simp⟩
theorem insT_mem {l : List Int} {n : Nat} : ∀ {A : List (List Int × Nat)} {p : List Int × Nat}, p ∈ insT A l n → p.1 = l ∨ p ∈ A
 | [], p, h => by
  simp only [insT, List.mem_singleton] at h
  exact .inl (by rw [h])
 |(a, c) :: A, p, h => by
  rw [insT] at h
  split at h
  ·rcases List.mem_cons.1 h with e | e
   ·exact .inr (by simp [e])
   ·rcases insT_mem e with q | q
    ·exact .inl q
    ·exact .inr (by simp [q])
  ·split at h
   ·rename_i e
    rcases List.mem_cons.1 h with q | q
    ·exact .inl (by rw [q, ← e])
    ·exact .inr (by simp [q])
   ·rcases List.mem_cons.1 h with q | q
    ·exact .inl (by rw [q])
    ·exact .inr q
theorem insT_srt {l : List Int} {n : Nat} : ∀ {A : List (List Int × Nat)}, A.Pairwise (fun a b => ordL a.1 b.1 < 0) → (insT A l n).Pairwise fun a b => ordL a.1 b.1 < 0
 | [], _ => by simp [insT]
 |(a, c) :: A, h => by
  rw [List.pairwise_cons] at h
  rw [insT]
  split
  ·rename_i c1
   refine List.pairwise_cons.2 ⟨fun p hp => ?_, insT_srt h.2⟩
   rcases insT_mem hp with e | e
   ·rw [e]; exact c1
   ·exact h.1 p e
  ·rename_i c1
   split
   ·exact List.pairwise_cons.2 ⟨fun p hp => h.1 p hp, h.2⟩
   ·rename_i c2
    have hl : ordL l a < 0 := by
     have h1 := gH a l
     by_cases e : ordL a l = 0
     ·exact absurd (ordL_eq e) c2
     ·omega
    refine List.pairwise_cons.2 ⟨fun p hp => ?_, List.pairwise_cons.2 h⟩
    rcases List.mem_cons.1 hp with e | e
    ·rw [e]; exact hl
    ·exact ordL_lt_trans hl (h.1 p e)
def cntT (A : List (List Int × Nat)) (y : List Int) : Nat := (A.map fun p => if p.1 = y then p.2 else 0).sum
theorem cntT_ins {l : List Int} {n : Nat} (y : List Int) : ∀ (A : List (List Int × Nat)), cntT (insT A l n) y = (if l = y then n else 0) + cntT A y
 | [] => by simp [insT, cntT]
 |(a, c) :: A => by
  rw [insT]
  split
  ·have := cntT_ins (l := l) (n := n) y A
   simp only [cntT, List.map_cons, List.sum_cons] at this ⊢
   omega
  ·split
   ·rename_i e
    subst e
    simp only [cntT, List.map_cons, List.sum_cons]
    split <;> omega
   ·simp only [cntT, List.map_cons, List.sum_cons]
theorem cntT_zero {y : List Int} : ∀ {A : List (List Int × Nat)}, (∀ q ∈ A, q.1 ≠ y) → cntT A y = 0
 | [], _ => rfl
 | a :: A, h => by
  have := cntT_zero (y := y) (A := A) fun q hq => h q (by simp [hq])
  simp only [cntT, List.map_cons, List.sum_cons] at this ⊢
  rw [if_neg (h a (by simp)), this]
theorem cntT_mem : ∀ {A : List (List Int × Nat)}, A.Pairwise (fun a b => ordL a.1 b.1 < 0) → ∀ p ∈ A, cntT A p.1 = p.2
 | [], _, p, h => by cases h
 | a :: A, hA, p, h => by
  rw [List.pairwise_cons] at hA
  simp only [cntT, List.map_cons, List.sum_cons]
  rcases List.mem_cons.1 h with e | e
  ·subst e
   rw [if_pos rfl]
   have : cntT A p.1 = 0 := cntT_zero fun q hq e => by
    have := hA.1 q hq
    rw [e, ordL_refl] at this; omega
   rw [cntT] at this; omega
  ·have h1 := hA.1 p e
   rw [if_neg (fun e => by rw [e, ordL_refl] at h1; omega)]
   have := cntT_mem hA.2 p e
   rw [cntT] at this; omega
theorem cntT_pos {A : List (List Int × Nat)} {y : List Int} (h : 0 < cntT A y) : ∃ p ∈ A, p.1 = y := by
 by_cases c : ∃ p ∈ A, p.1 = y
 ·exact c
 ·have := cntT_zero (A := A) (y := y) fun q hq e => c ⟨q, hq, e⟩
  omega
structure Tab (A : List (List Int × Nat)) (M : List (List Int)) : Prop where
 srt : A.Pairwise fun a b => ordL a.1 b.1 < 0
 cnt : ∀ y, cntT A y = M.count y
 pos : ∀ p ∈ A, 0 < p.2
theorem Tab.is {A : List (List Int × Nat)} {M : List (List Int)} (T : Tab A M) : IsTab A M := {
 srt := T.srt
 cnt p hp := ⟨by rw [← T.cnt, cntT_mem T.srt p hp], T.pos p hp⟩
 all y hy := cntT_pos (by rw [T.cnt]; exact List.count_pos_iff.2 hy) }
theorem Tab.nil : Tab [] [] := ⟨.nil, fun _ => rfl, by simp⟩
theorem insT_pos {l : List Int} {n : Nat} (hn : 0 < n) : ∀ {A : List (List Int × Nat)}, (∀ p ∈ A, 0 < p.2) → ∀ p ∈ insT A l n, 0 < p.2
 | [], _, p, h => by
  simp only [insT, List.mem_singleton] at h
  rw [h]; exact hn
 |(a, c) :: A, hA, p, h => by
  rw [insT] at h
  split at h
  ·rcases List.mem_cons.1 h with e | e
   ·rw [e]; exact hA _ (by simp)
   ·exact insT_pos hn (fun q hq => hA q (by simp [hq])) p e
  ·split at h
   ·rcases List.mem_cons.1 h with e | e
    ·rw [e]; have := hA (a, c) (by simp); simp only at this ⊢; omega
    ·exact hA p (by simp [e])
   ·rcases List.mem_cons.1 h with e | e
    ·rw [e]; exact hn
    ·exact hA p e
theorem Tab.ins {A : List (List Int × Nat)} {M : List (List Int)} {l : List Int} {n : Nat} (T : Tab A M) (hn : 0 < n) : Tab (insT A l n) (List.replicate n l ++ M) := {
 srt := insT_srt T.srt
 cnt y := by rw [cntT_ins, T.cnt, List.count_append, List.count_replicate]; simp only [beq_iff_eq]
 pos := insT_pos hn T.pos }
theorem Tab.perm {A : List (List Int × Nat)} {M M' : List (List Int)} (T : Tab A M) (h : M.Perm M') : Tab A M' := ⟨T.srt, fun y => (T.cnt y).trans (h.count_eq y), T.pos⟩
theorem Tab.fold {C : List (List Int × Nat)} {N : List (List Int)} : ∀ {A : List (List Int × Nat)} {M : List (List Int)}, Tab A M → Tab C N → Tab (C.foldl (fun A p => insT A p.1 p.2) A) (N ++ M) := by
 intro A M TA TC
 have key : ∀ (C : List (List Int × Nat)) (A : List (List Int × Nat)) (M : List (List Int)), Tab A M → (∀ p ∈ C, 0 < p.2) → Tab (C.foldl (fun A p => insT A p.1 p.2) A) ((C.flatMap fun p => List.replicate p.2 p.1) ++ M) := by
  intro C
  induction C with
  | nil => intro A M T _; exact T
  | cons c C ih =>
   intro A M T h
   rw [List.foldl_cons]
   refine (ih _ _ (T.ins (h c (by simp))) fun p hp => h p (by simp [hp])).perm ?_
   rw [List.flatMap_cons, ← List.append_assoc]
   exact List.perm_append_comm.append_right M
 refine (key C A M TA TC.pos).perm (List.Perm.append_right M ?_)
 rw [List.perm_iff_count]
 intro y
 rw [← TC.cnt]
 have : ∀ C : List (List Int × Nat), (C.flatMap fun p => List.replicate p.2 p.1).count y = cntT C y := by
  intro C
  induction C with
  | nil => rfl
  | cons c C ih =>
   rw [List.flatMap_cons, List.count_append, ih, List.count_replicate]
   simp only [cntT, List.map_cons, List.sum_cons, beq_iff_eq]
 exact this C
end Go.Ev
namespace Go.Ev
open Go.Proofs
def shr (lines : List (List Int)) (f : List Nat) : List Int := lines.map fun l => ((con 0 f l : Nat) : Int)
def jS (lines : List (List Int)) (most : Nat) : Nat → List Nat → List (List Int × Nat)
 | 0, f => [(shr lines f, 1)]
 | r + 1, f => (List.range (most + 1)).foldl (fun A x => (jS lines most r (f ++ [x])).foldl (fun A p => insT A p.1 p.2) A) []
def allH (lines : List (List Int)) (most r : Nat) (f : List Nat) : List (List Int) := (fill most r).map fun g => shr lines (f ++ g)
theorem count_map_sum' {α : Type} (F : α → List Int) (z : List Int) : ∀ l : List α, (l.map F).count z = (l.map fun x => if F x = z then 1 else 0).sum
 | [] => rfl
 | a :: l => by
  rw [List.map_cons, List.count_cons, count_map_sum' F z l, List.map_cons, List.sum_cons]
  simp only [beq_iff_eq]; omega
theorem allH_succ (lines : List (List Int)) (most r : Nat) (f : List Nat) : (allH lines most (r + 1) f).Perm ((List.range (most + 1)).flatMap fun x => allH lines most r (f ++ [x])) := by
 rw [List.perm_iff_count]
 intro z
 rw [allH, count_map_sum', fill_front, List.count_flatMap]
 refine congrArg List.sum (List.map_congr_left fun k _ => ?_)
 show _ = (allH lines most r (f ++ [k])).count z
 rw [allH, count_map_sum']
 refine congrArg List.sum (List.map_congr_left fun g _ => ?_)
 rw [List.append_assoc]; rfl
theorem refHL_tab (lines : List (List Int)) (most : Nat) : ∀ (r : Nat) (f : List Nat), Tab (jS lines most r f) (allH lines most r f)
 | 0, f => by
  rw [jS]
  have := Tab.nil.ins (l := shr lines f) (n := 1) (by omega)
  simpa [insT, allH, fill] using this
 | r + 1, f => by
  rw [jS]
  have key : ∀ (X : List Nat) (A : List (List Int × Nat)) (M : List (List Int)), Tab A M → Tab (X.foldl (fun A x => (jS lines most r (f ++ [x])).foldl (fun A p => insT A p.1 p.2) A) A) ((X.flatMap fun x => allH lines most r (f ++ [x])) ++ M) := by
   intro X
   induction X with
   | nil => intro A M T; exact T
   | cons x X ih =>
    intro A M T
    rw [List.foldl_cons]
    refine (ih _ _ (T.fold (refHL_tab lines most r (f ++ [x])))).perm ?_
    rw [List.flatMap_cons, ← List.append_assoc]
    exact List.perm_append_comm.append_right M
  refine (key (List.range (most + 1)) [] [] Tab.nil).perm ?_
  rw [List.append_nil]
  exact (allH_succ lines most r f).symm
theorem tally_all {cells most n : Nat} {lines : List (List Int)} (hl : ∀ l ∈ lines, AscL cells l) (hc : cells ≤ 16) (hm : most ≤ 9) : (gE lines most 0 n).map (fun y => y.map fun k : Nat => (k : Int)) = allH lines most n [] := by
 rw [tally_fill, allH, List.map_map]
 refine List.map_congr_left fun g hg => ?_
 show (lines.map fun l => con 0 g l % 256).map _ = shr lines ([] ++ g)
 rw [shr, List.map_map, List.nil_append]
 refine List.map_congr_left fun l hl' => ?_
 have := con_small (fr := 0) (hl l hl') hc hm hg
 show ((con 0 g l % 256 : Nat) : Int) = _
 rw [Nat.mod_eq_of_lt (by omega)]
end Go.Ev
namespace Go.Ev
open Go Go.Proofs
variable {B : Nat}
def bndErr (cells : Int) (lines : List (List Int)) (most : Int) : Int := gJ [yO cells lines, if 16 < cells then 20 else 0, if most < 0 ∨ 9 < most then 3 else 0]
theorem check87 {cells most : Int} {lines : List (List Int)} (hw : ∀ q ∈ lines, q.length ≤ 1000000) : Pure Tryz.prog B 87 [.agg [I cells, encT lines], I most] (· = I (bndErr cells lines most)) := by
 refine uA fun h nx K H0 hK => yQ yW dreg 1000 fun hf => ?_
 rw [F87.go]
 refine H0.box (l := [I cells, encT lines]) rfl fun bx h1 nx1 H1 => ?_
 rw [H1.loadN (k := 0) (n := 2) rfl rfl, sFx, H1.load (k := 0) (i := 0) rfl rfl]
 simp only [sGtr, sLss]
 refine sys81 hw _ _ _ _ ?_
 rintro _ rfl _
 simp only [zC]
 rw [H1.load (k := 0) (i := 0) rfl rfl]
 simp only [zC, sFx]
 refine whenB82 _ _ _ _ _ _ ?_
 rintro _ rfl _
 have tail : ∀ b : Bool, b = decide (most < 0 ∨ 9 < most) → (CS Tryz.prog B).fn 82 (.of 82) [.bool b, I 3] h1 nx1 (fun v18 h19 n20 => jA 1 3 [(I 0)] [(0, 1, I (yO cells lines)), (1, 1, I (if decide (16 < cells) = true then 20 else 0)), (2, 1, v18)] h19 n20 fun v21 h22 n23 => (CS Tryz.prog B).fn 80 (.of 80) [v21] h22 n23 fun v24 h25 n26 => K v24 h25 n26) = .ok True := by
  intro b hb
  refine whenB82 _ _ _ _ _ _ ?_
  rintro _ rfl _
  refine H1.bslice (l := [I (yO cells lines), I (if decide (16 < cells) = true then 20 else 0), I (if b then 3 else 0)]) rfl fun id h4 nx4 H4 => ?_
  refine own_plain (l := [yO cells lines, if decide (16 < cells) = true then 20 else 0, if b then 3 else 0]) H4 (k := 0) rfl (fun B => first80 (by simp)) (fun v hv => by rw [hv]; exact .int _ _) ?_
  rintro _ rfl
  refine hK _ _ _ _ _ H4 (jD rfl) ?_
  subst hb
  simp only [bndErr, decide_eq_true_eq]
 by_cases c : most < 0
 ·simp only [c, decide_true, zC, zV, zH]
  exact tail true (by simp [c])
 ·simp only [c, decide_false, zC, zO, sGtr, zG]
  exact tail _ (by simp [c])
theorem pow_mono {a k i : Nat} (ha : 1 ≤ a) (h : i ≤ k) : a ^ i ≤ a ^ k := Nat.pow_le_pow_right ha h
theorem many88 {cells most : Nat} (hc : cells ≤ 1000000) (hm : most ≤ 9) : Pure Tryz.prog B 88 [I cells, I most] (· = .bool (decide (100000 < (most + 1) ^ cells))) := by
 intro p h nx K hK
 refine yQ yW dreg 10000000 fun hf => ?_
 rw [F88.go]
 refine F88.L1 (fun m z3 z5 h' nx' => ∃ i : Nat, z5 = I i ∧ z3 = I ((most + 1) ^ i : Nat) ∧ cells - i = m ∧ i ≤ cells ∧ h' = h ∧ nx' = nx ∧ (most + 1) ^ i ≤ 100000) (m := cells) (by omega) ⟨0, rfl, rfl, rfl, by omega, rfl, rfl, by simp⟩ ?_
 rintro m z2 z3 z5 z6 z7 _ _ R ⟨i, rfl, rfl, rfl, hi, rfl, rfl, hle⟩ hR
 simp (disch := omega) only [sAdd, sSub, sMul, sEql, sNeq, sLss, sLeq, sGtr, sGeq, zH, zG, zA, zB, zX, zO, zV, yB, zN, yC, zZ, yH, zR, zQ, zP, zF, zL, zI, zC, decide_true, decide_false, Bool.not_true, Bool.not_false, zS]
 by_cases hlt : i < cells
 ·have e1 : (((most + 1) ^ i : Nat) : Int) * ((most : Int) + 1) = (((most + 1) ^ (i + 1) : Nat) : Int) := by
   rw [Nat.pow_succ, Int.natCast_mul]; rfl
  have e2 : (most + 1) ^ (i + 1) ≤ 100000 * 10 := by rw [Nat.pow_succ]; exact Nat.mul_le_mul hle (by omega)
  simp only [show (i : Int) < (cells : Int) by omega, decide_true, zA]
  rw [sMul (by rw [e1]; omega), e1]
  simp only [sGtr]
  by_cases c : 100000 < (most + 1) ^ (i + 1)
  ·simp only [show (100000 : Int) < (((most + 1) ^ (i + 1) : Nat) : Int) by omega, decide_true, zA]
   refine hK _ ?_ hf
   rw [decide_eq_true (Nat.lt_of_lt_of_le c (pow_mono (by omega) hlt))]
  ·simp only [show ¬ (100000 : Int) < (((most + 1) ^ (i + 1) : Nat) : Int) by omega, decide_false, zB]
   exact hR _ _ _ _ _ _ _ _ (by omega) ⟨i + 1, rfl, rfl, rfl, by omega, rfl, rfl, by omega⟩
 ·simp only [show ¬ (i : Int) < (cells : Int) by omega, decide_false, zB]
  rw [F88.k8]
  refine hK _ ?_ hf
  rw [show cells = i by omega, decide_eq_false (by omega)]
theorem frz_agg {N : Pa → Prop} {O : AV → Prop} {hh : T Blk} {l : List AV} (h : ∀ v ∈ l, fixd v = true) : Frz True N O hh (.agg l) (.agg l) :=
 .agg _ _ rfl (List.all_eq_true.2 fun v hv => fixd.scal (h v hv)) fun i v v' h1 h2 => by rw [h1] at h2; cases h2; exact jD (h v (List.mem_of_getElem? h1))
theorem fixd_sys {cells : Int} {lines : List (List Int)} : ∀ v ∈ [I cells, encT lines], fixd v = true := fun v hv => by
 simp only [List.mem_cons, List.not_mem_nil, or_false] at hv
 rcases hv with rfl | rfl
 ·rfl
 ·exact fixd_encT lines
end Go.Ev
namespace Go.Ev
open Go Go.Proofs
variable {B : Nat}
theorem shr_len (lines : List (List Int)) (f : List Nat) : (shr lines f).length = lines.length := by simp [shr]
end Go.Ev
namespace Go.Ev
def Rv (l cur : List Int) (i : Nat) : Prop := cur.length = l.length ∧ ∀ t, t < l.length → cur[t]? = if t < i ∨ l.length ≤ t + i then l[l.length - 1 - t]? else l[t]?
theorem Rv.done {l cur : List Int} {i : Nat} (h : Rv l cur i) (hi : l.length ≤ 2 * i + 1) : cur = l.reverse := by
 refine List.ext_getElem? fun t => ?_
 by_cases ht : t < l.length
 ·rw [h.2 t ht, List.getElem?_reverse ht]
  by_cases c : t < i ∨ l.length ≤ t + i
  ·rw [if_pos c]
  ·rw [if_neg c, show l.length - 1 - t = t by omega]
 ·rw [List.getElem?_eq_none (by rw [h.1]; omega), List.getElem?_eq_none (by simp; omega)]
theorem Rv.step {l cur : List Int} {i j : Nat} {a b : Int} (h : Rv l cur i) (hij : i < j) (hs : i + j + 1 = l.length) (ha : cur[i]? = some a) (hb : cur[j]? = some b) : Rv l ((cur.set i b).set j a) (i + 1) := by
 obtain ⟨hl, hg⟩ := h
 refine ⟨by simp [hl], fun t ht => ?_⟩
 have e1 := hg i (by omega)
 have e2 := hg j (by omega)
 rw [if_neg (by omega), ha] at e1
 rw [if_neg (by omega), hb] at e2
 rw [List.getElem?_set, List.getElem?_set, List.length_set]
 by_cases c1 : j = t
 ·subst c1
  rw [if_pos rfl, if_pos (by omega), if_pos (by omega), show l.length - 1 - j = i by omega]
  exact e1
 ·rw [if_neg c1]
  by_cases c2 : i = t
  ·subst c2
   rw [if_pos rfl, if_pos (by omega), if_pos (by omega), show l.length - 1 - i = j by omega]
   exact e2
  ·rw [if_neg c2, hg t ht]
   by_cases c3 : t < i ∨ l.length ≤ t + i
   ·rw [if_pos c3, if_pos (by omega)]
   ·rw [if_neg c3, if_neg (by omega)]
end Go.Ev
namespace Go.Ev
open Go.Proofs
end Go.Ev
namespace Go.Ev
open Go.Proofs
theorem Tab.flat {A : List (List Int × Nat)} {M : List (List Int)} (T : Tab A M) : (A.flatMap fun p => List.replicate p.2 p.1).Perm M := by
 rw [List.perm_iff_count]
 intro y
 rw [← T.cnt]
 have : ∀ C : List (List Int × Nat), (C.flatMap fun p => List.replicate p.2 p.1).count y = cntT C y := by
  intro C
  induction C with
  | nil => rfl
  | cons c C ih =>
   rw [List.flatMap_cons, List.count_append, ih, List.count_replicate]
   simp only [cntT, List.map_cons, List.sum_cons, beq_iff_eq]
 exact this A
theorem Tab.cnt_le {A : List (List Int × Nat)} {M : List (List Int)} (T : Tab A M) {p : List Int × Nat} (hp : p ∈ A) : p.2 ≤ M.length := by
 rw [(T.is.cnt p hp).1]; exact List.count_le_length
theorem fill_length (most : Nat) : ∀ n, (fill most n).length = (most + 1) ^ n
 | 0 => rfl
 | n + 1 => by
  simp only [fill, List.length_flatMap, List.length_map, List.length_range, List.map_const', List.sum_replicate_nat]
  rw [fill_length most n, Nat.pow_succ]
theorem allH_length (lines : List (List Int)) (most r : Nat) (f : List Nat) : (allH lines most r f).length = (most + 1) ^ r := by rw [allH, List.length_map, fill_length]
end Go.Ev
namespace Go.Ev
open Go Go.Proofs
variable {B : Nat}
end Go.Ev
namespace Go.Ev
open Go Go.Proofs
variable {B : Nat}
end Go.Ev
namespace Go.Ev
open Go Go.Proofs
variable {B : Nat}
theorem isNaN164 (x : Int) : Pure Tryz.prog B 164 [I x] (· = .bool false) := by
 intro p h nx K hK
 refine yQ yW dreg 9 fun hf => ?_
 rw [F164.go]
 simp only [sNeq, decide_true, Bool.not_true]
 exact hK _ rfl hf
end Go.Ev
namespace Go.Ev
open Go Go.Proofs
variable {B : Nat}
abbrev kA (A : List (List Int × Nat)) : List AV := A.map fun p => encI p.1
abbrev nA (A : List (List Int × Nat)) : List AV := A.map fun p => I (p.2 : Int)
end Go.Ev
namespace Go.Ev
open Go Go.Proofs
variable {B : Nat}
theorem Hp.addGro {h0 h : T Blk} {nx : Pa} {L : List Ob} (H : Hp h0 h nx L) (e : Nat) : Hp h0 h nx (.gro none e 0 [] :: L) :=
  ⟨H.keep, fun x hx => by rcases List.mem_cons.1 hx with rfl | q; · exact ⟨rfl, rfl⟩
                          · exact H.own x q, fun n hn => H.off n (by simpa [Ob.names] using hn), by have := H.nd; simpa [Ob.names] using this, H.fr⟩
end Go.Ev
namespace Go.Ev
open Go Go.Proofs
variable {B : Nat}
end Go.Ev
namespace Go.Ev
open Go Go.Proofs
variable {B : Nat}
def halfErr (cells : Int) (lines : List (List Int)) (cut most : Int) : Int := gJ [yO cells lines, if 16 < cells then 20 else 0, if most < 0 ∨ 9 < most ∨ cut < 0 ∨ cells < cut then 3 else 0]
theorem halves33_chk {cells cut most : Int} {lines : List (List Int)} {N : Nat} {K : Kw Prop} {h : T Blk} {nx : Pa} (hw : ∀ q ∈ lines, q.length ≤ 1000000) (H0 : Hp h h nx [])
  (hE : halfErr cells lines cut most ≠ 0 → ∀ h' nx' L, Hp h h' nx' L → K (.tup [.nils, .nils, I (halfErr cells lines cut most)]) h' nx' = .ok True)
  (hO : halfErr cells lines cut most = 0 → ∀ bx h' nx' L, Hp h h' nx' (L ++ [.arr bx [I cells, encT lines]]) → IR.run F33.b1 (CS Tryz.prog B) N (fnO F33.res K) (retK F33.res K)
   (F33.fr (.agg [I cells, encT lines]) (I cut) (I most) (.ptr bx 0) .nils .nils (I 0) (I 0) .undef .undef .undef .undef .undef .undef .undef .undef .undef .undef (.bool false) .undef .undef .undef .undef .undef .undef .undef .undef .undef .undef .undef .undef .undef .undef) h' nx' = .ok True) :
  yJ tbl N (CS Tryz.prog B) (.of 33) [.agg [I cells, encT lines], I cut, I most] h nx K = .ok True := by
 rw [F33.go]
 refine H0.box (l := [I cells, encT lines]) rfl fun bx h1 nx1 H1 => ?_
 rw [H1.loadN (k := 0) (n := 2) rfl rfl, sFx, H1.load (k := 0) (i := 0) rfl rfl]
 simp only [sGtr, sLss]
 refine sys81 hw _ _ _ _ ?_
 rintro _ rfl _
 simp only [zC]
 rw [H1.load (k := 0) (i := 0) rfl rfl]
 simp only [zC, sFx]
 refine whenB82 _ _ _ _ _ _ ?_
 rintro _ rfl _
 have tail : ∀ b : Bool, b = decide (most < 0 ∨ 9 < most ∨ cut < 0 ∨ cells < cut) → (CS Tryz.prog B).fn 82 (.of 82) [.bool b, I 3] h1 nx1 (fun v26 h27 n28 =>
   jA 1 3 [(I 0)] [(0, 1, I (yO cells lines)), (1, 1, I (if decide (16 < cells) = true then 20 else 0)), (2, 1, v26)] h27 n28 fun v29 h30 n31 =>
   (CS Tryz.prog B).fn 80 (.of 80) [v29] h30 n31 fun v32 h33 n34 =>
   sBin .neq .int v32 (I 0) fun v35 =>
   zJ v35 (K (.tup [.nils, .nils, v32]) h33 n34) (IR.run F33.b1 (CS Tryz.prog B) N (fnO F33.res K) (retK F33.res K)
    (F33.fr (.agg [I cells, encT lines]) (I cut) (I most) (.ptr bx 0) .nils .nils (I 0) v32 .undef .undef .undef .undef .undef .undef .undef .undef .undef .undef v35 .undef .undef .undef .undef .undef .undef .undef .undef .undef .undef .undef .undef .undef .undef) h33 n34)) = .ok True := by
  intro b hb
  refine whenB82 _ _ _ _ _ _ ?_
  rintro _ rfl _
  refine H1.bslice (l := [I (yO cells lines), I (if decide (16 < cells) = true then 20 else 0), I (if b then 3 else 0)]) rfl fun id h4 nx4 H4 => ?_
  refine own_plain (l := [yO cells lines, if decide (16 < cells) = true then 20 else 0, if b then 3 else 0]) H4 (k := 0) rfl (fun B => first80 (by simp)) (fun v hv => by rw [hv]; exact .int _ _) ?_
  rintro _ rfl
  have e : gJ [yO cells lines, if decide (16 < cells) = true then 20 else 0, if b = true then 3 else 0] = halfErr cells lines cut most := by
   subst hb; simp only [halfErr, decide_eq_true_eq]
  rw [e]
  simp only [sNeq]
  by_cases c : halfErr cells lines cut most = 0
  ·simp only [c, decide_true, Bool.not_true, zB]
   exact hO c _ _ _ [_] H4
  ·simp only [c, decide_false, Bool.not_false, zA]
   exact hE c _ _ _ H4
 by_cases c1 : most < 0
 ·simp only [c1, decide_true, zC, zV, zH]
  exact tail true (by simp [c1])
 simp only [c1, decide_false, zC, zO, sGtr, zG]
 by_cases c2 : 9 < most
 ·simp only [c2, decide_true, zC, zV, zH]
  exact tail true (by simp [c2])
 simp only [c2, decide_false, zC, zO, sLss, zG]
 by_cases c3 : cut < 0
 ·simp only [c3, decide_true, zC, zV, zH]
  exact tail true (by simp [c3])
 simp only [c3, decide_false, zC, zO, zG, sFx]
 rw [H1.load (k := 0) (i := 0) rfl rfl]
 simp only [sGtr]
 exact tail _ (by simp [c1, c2, c3])
end Go.Ev
namespace Go.Ev
open Go.Proofs
theorem sorted_tab {α : Type} {M N : List (List Int)} {qs : List (α × List Int)} {A : List (List Int × Nat)} (srt : qs.Pairwise fun a b => ordL a.2 b.2 ≤ 0) (nd : (qs.map (·.2)).Nodup) (hm : ∀ l, l ∈ qs.map (·.2) ↔ l ∈ N) (T : Tab A M) (hp : N.Perm M) : qs.map (fun p => (p.2, N.count p.2)) = A := by
 have T' : IsTab (qs.map fun p => (p.2, N.count p.2)) N := {
  srt := by
   rw [List.pairwise_map]
   have h2 : qs.Pairwise fun a b => a.2 ≠ b.2 := by
    have := nd
    rw [List.Nodup, List.pairwise_map] at this
    exact this
   refine (srt.and h2).imp ?_
   rintro a b ⟨h1, h3⟩
   have : ordL a.2 b.2 ≠ 0 := fun e => h3 (ordL_eq e)
   show ordL a.2 b.2 < 0
   omega
  cnt := by
   intro p hp
   obtain ⟨q, hq, rfl⟩ := List.mem_map.1 hp
   exact ⟨rfl, List.count_pos_iff.2 ((hm _).1 (List.mem_map.2 ⟨q, hq, rfl⟩))⟩
  all := by
   intro y hy
   obtain ⟨q, hq, e⟩ := List.mem_map.1 ((hm y).2 hy)
   exact ⟨_, List.mem_map.2 ⟨q, hq, rfl⟩, e⟩ }
 exact T'.unique T.is hp
abbrev zk (y : List Nat) : List Int := y.map fun k : Nat => (k : Int)
theorem zk_inj {a b : List Nat} (h : zk a = zk b) : a = b := by
 have := congrArg (List.map Int.toNat) h
 simpa [zk, Function.comp_def] using this
theorem count_zk (x : List Nat) : ∀ G : List (List Nat), (G.map zk).count (zk x) = G.count x
 | [] => rfl
 | a :: G => by
  rw [List.map_cons, List.count_cons, List.count_cons, count_zk x G]
  have : (zk a == zk x) = (a == x) := by
   by_cases e : a = x
   ·subst e; simp
   ·rw [beq_eq_false_iff_ne.2 e, beq_eq_false_iff_ne.2 fun q => e (zk_inj q)]
  rw [this]
theorem nodup_zk {ks : List (List Nat)} (h : ks.Nodup) : (ks.map zk).Nodup := by
 rw [List.Nodup, List.pairwise_map]
 exact h.imp fun hab e => hab (zk_inj e)
def srtS {α : Type} (S : List (List Nat × α)) : List (List Nat × α) := S.mergeSort fun a b => decide (ordL (zk a.1) (zk b.1) ≤ 0)
theorem srtS_perm {α : Type} (S : List (List Nat × α)) : (srtS S).Perm S := List.mergeSort_perm _ _
theorem srtS_srt {α : Type} (S : List (List Nat × α)) : (srtS S).Pairwise fun a b => ordL (zk a.1) (zk b.1) ≤ 0 := by
 have := List.pairwise_mergeSort (le := fun a b : List Nat × α => decide (ordL (zk a.1) (zk b.1) ≤ 0)) (fun a b c h1 h2 => decide_eq_true (ordL_le_trans (of_decide_eq_true h1) (of_decide_eq_true h2))) (fun a b => by
  have := gH (zk a.1) (zk b.1)
  by_cases c : ordL (zk a.1) (zk b.1) ≤ 0
  ·simp [c]
  ·simp; omega) S
 exact this.imp fun h => of_decide_eq_true h
end Go.Ev
namespace Go.Ev
open Go Go.Proofs
variable {B : Nat}
theorem fill33 {E0 E1 : Ks Prop} {K0 : Kw Prop} {K : Ks Prop} {N n : Nat} {y : Key} {h0 h : T Blk} {nx rid xb : Pa} {L : List Ob} {x0 x1 x2 x3 x4 x5 x6 x7 x8 x9 x12 x13 x14 x15 x16 x17 x18 x19 x20 x21 x24 x25 x26 x27 x28 x29 x30 x31 x32 : AV} (hy : y.length = n) (hn : n ≤ 128) (hN : n < N) (hlt : ∀ v ∈ y, v < 256)
  (H : Hp h0 h nx (.arr rid (List.replicate n (I 0)) :: .arr xb (yM y) :: L))
  (hK : ∀ w12 w23 w24 h', Hp h0 h' nx (.arr rid ((zk y).map I) :: .arr xb (yM y) :: L) → K (F33.fr x0 x1 x2 x3 x4 x5 x6 x7 x8 x9 (.ptr xb 0) (.sl rid 0 n (some n) 1) w12 x13 x14 x15 x16 x17 x18 x19 x20 x21 (I n) w23 w24 x25 x26 x27 x28 x29 x30 x31 x32) h' nx = .ok True) :
  IR.run F33.b8 (CS Tryz.prog B) N (((fnO F33.res K0).blk 0 E0).blk 1 E1) K (F33.fr x0 x1 x2 x3 x4 x5 x6 x7 x8 x9 (.ptr xb 0) (.sl rid 0 n (some n) 1) x12 x13 x14 x15 x16 x17 x18 x19 x20 x21 (I n) (I 0) x24 x25 x26 x27 x28 x29 x30 x31 x32) h nx = .ok True := by
 refine F33.L8 (fun m x23 h' nx' => ∃ j : Nat, x23 = I j ∧ m = n - j ∧ j ≤ n ∧ nx' = nx ∧ Hp h0 h' nx (.arr rid (((zk y).take j ++ List.replicate (n - j) 0).map I) :: .arr xb (yM y) :: L)) (m := n) hN ⟨0, rfl, by omega, by omega, rfl, H.cast (by simp)⟩ ?_
 rintro m z12 z23 z24 h2 nx2 R ⟨j, rfl, rfl, hj, rfl, H2⟩ hR
 simp only [sLss]
 by_cases hjn : j < n
 case neg =>
  simp only [show ¬ (j : Int) < (n : Int) by omega, decide_false, zB]
  refine hK _ _ _ _ (H2.cast ?_)
  rw [List.take_of_length_le (by simp; omega), show n - j = 0 by omega, List.replicate_zero, List.append_nil]
 simp only [show (j : Int) < (n : Int) by omega, decide_true, zA]
 have hg : y[j]? = some y[j] := List.getElem?_eq_getElem (by omega)
 have hv := hlt _ (List.getElem_mem (show j < y.length by omega))
 rw [sAx (i := j) rfl (by omega), H2.load (k := 1) rfl (cellsK_get hg), sConv_i64 (by omega), sIx (i := j) rfl hjn]
 refine H2.store (k := 0) rfl (by simp; omega) rfl fun h3 H3 => ?_
 rw [sAdd (by omega)]
 refine hR _ _ _ _ _ _ (by omega) ⟨j + 1, rfl, rfl, by omega, rfl, H3.cast ?_⟩
 have hz : (zk y)[j]? = some ((y[j] : Nat) : Int) := by rw [List.getElem?_map, hg]; rfl
 have hlj : ((zk y).take j).length = j := by rw [List.length_take]; simp; omega
 have e : ((zk y).take j ++ List.replicate (n - j) 0).set j ((y[j] : Nat) : Int) = (zk y).take (j + 1) ++ List.replicate (n - (j + 1)) 0 := by
  rw [List.set_append_right _ _ (by omega), hlj, Nat.sub_self, show n - j = n - (j + 1) + 1 by omega, List.replicate_succ, List.set_cons_zero, List.take_add_one, hz, List.append_assoc]; rfl
 rw [← e, List.map_set]; simp
theorem key33 {E0 E1 : Ks Prop} {K0 : Kw Prop} {K : Ks Prop} {N n k : Nat} {y : Key} {h0 h : T Blk} {nx rid xb : Pa} {L : List Ob} {x0 x1 x2 x3 x4 x5 x6 x7 x8 x9 x10 x11 x12 x13 x14 x16 x17 x18 x19 x20 x21 x22 x23 x24 x25 x26 x27 x28 x32 : AV} (hy : y.length = n) (hn : n ≤ 128) (hN : n < N) (hlt : ∀ v ∈ y, v < 256) (hk : L[k]? = some (.arr rid ((zk y).map I)))
  (H : Hp h0 h nx (.arr xb (yM (List.replicate n 0)) :: L))
  (hK : ∀ w16 w17 w31 w32 h', Hp h0 h' nx (.arr xb (yM y) :: L) → K (F33.fr x0 x1 x2 x3 x4 x5 x6 x7 x8 x9 x10 x11 x12 x13 x14 (.ptr xb 0) w16 w17 x18 x19 x20 x21 x22 x23 x24 x25 x26 x27 x28 (.sl rid 0 n (some n) 1) (I n) w31 w32) h' nx = .ok True) :
  IR.run F33.b23 (CS Tryz.prog B) N (((fnO F33.res K0).blk 4 E0).blk 5 E1) K (F33.fr x0 x1 x2 x3 x4 x5 x6 x7 x8 x9 x10 x11 x12 x13 x14 (.ptr xb 0) x16 x17 x18 x19 x20 x21 x22 x23 x24 x25 x26 x27 x28 (.sl rid 0 n (some n) 1) (I n) (I 0) x32) h nx = .ok True := by
 refine F33.L23 (fun m x31 h' nx' => ∃ j : Nat, x31 = I j ∧ m = n - j ∧ j ≤ n ∧ nx' = nx ∧ Hp h0 h' nx (.arr xb (yM (y.take j ++ List.replicate (n - j) 0)) :: L)) (m := n) hN ⟨0, rfl, by omega, by omega, rfl, H.cast (by simp)⟩ ?_
 rintro m z16 z17 z31 z32 h2 nx2 R ⟨j, rfl, rfl, hj, rfl, H2⟩ hR
 simp only [sLss]
 by_cases hjn : j < n
 case neg =>
  simp only [show ¬ (j : Int) < (n : Int) by omega, decide_false, zB]
  refine hK _ _ _ _ _ (H2.cast ?_)
  rw [List.take_of_length_le (by omega), show n - j = 0 by omega, List.replicate_zero, List.append_nil]
 simp only [show (j : Int) < (n : Int) by omega, decide_true, zA]
 have hg : y[j]? = some y[j] := List.getElem?_eq_getElem (by omega)
 have hv := hlt _ (List.getElem_mem (show j < y.length by omega))
 have hz : ((zk y).map I)[j]? = some (I ((y[j] : Nat) : Int)) := by rw [List.getElem?_map, List.getElem?_map, hg]; rfl
 have hlj : (y.take j).length = j := by rw [List.length_take]; omega
 rw [sIx (i := j) rfl hjn, H2.load (k := k + 1) hk hz, sConv_u8, Nat.mod_eq_of_lt hv, sAx (i := j) rfl (by omega)]
 refine H2.store (k := 0) rfl (by rw [yT (by simp; omega)]; omega) rfl fun h3 H3 => ?_
 rw [sAdd (by omega)]
 refine hR _ _ _ _ _ _ _ (by omega) ⟨j + 1, rfl, rfl, by omega, rfl, H3.cast ?_⟩
 have e : (y.take j ++ List.replicate (n - j) 0).set j y[j] = y.take (j + 1) ++ List.replicate (n - (j + 1)) 0 := by
  rw [List.set_append_right _ _ (by omega), hlj, Nat.sub_self, show n - j = n - (j + 1) + 1 by omega, List.replicate_succ, List.set_cons_zero, List.take_add_one, hg, List.append_assoc]; rfl
 rw [← e, ← cellsK_set (by simp; omega)]; rfl
theorem frzGroC {h0 h : T Blk} {nx : Pa} {L : List Ob} {o : Option Pa} {n k : Nat} {l l' : List AV} (H : Hp h0 h nx L) (hk : L[k]? = some (.gro o 1 n l)) (hl : l'.length = l.length) (hs : l'.all scal = true) (hf : ∀ (i : Nat) (v v' : AV), l[i]? = some v → l'[i]? = some v' → FrzN h0 h v v') : FrzN h0 h (rowV o 1 n) (.lst 1 n l') := by
 have own := H.own _ (List.mem_of_getElem? hk)
 have hoff := H.off
 cases o with
 | none =>
  obtain ⟨rfl, rfl⟩ := own
  obtain rfl : l' = [] := by simpa using hl
  exact .lnils 1
 | some id =>
  obtain ⟨t, h1, h2, h3⟩ := own
  refine .sl _ _ _ _ _ true _ t _ (hoff id (List.mem_flatMap.2 ⟨_, List.mem_of_getElem? hk, by simp [Ob.names]⟩)) trivial h1 (by omega) (by rw [hl]; exact h2) hs fun i v hi => ?_
  have hil : i < l.length := by rw [← hl]; exact (List.getElem?_eq_some_iff.1 hi).1
  have := yE t 0 (n * 1) i (by rw [← h2]; exact hil)
  rw [h3, List.getElem?_eq_getElem hil] at this
  rw [← Option.some.inj this]
  exact hf i _ _ (List.getElem?_eq_getElem hil) hi
end Go.Ev
namespace Go.Ev
open Go Go.Proofs
variable {B : Nat}
def mkL (n : Nat) (to line : List Int) (k : Nat) : List Bool := (List.range n).map fun c : Nat => (line.take k).any fun x => decide (to.getD x.toNat 0 = (c : Int))
@[simp] theorem mkL_length (n : Nat) (to line : List Int) (k : Nat) : (mkL n to line k).length = n := by simp [mkL]
theorem mkL_zero (n : Nat) (to line : List Int) : mkL n to line 0 = List.replicate n false := by simp [mkL, List.map_const']
theorem mkL_get {n : Nat} {to line : List Int} {k c : Nat} (h : c < n) : (mkL n to line k)[c]? = some ((line.take k).any fun x => decide (to.getD x.toNat 0 = (c : Int))) := by
 rw [mkL, List.getElem?_map, List.getElem?_range h]; rfl
theorem mkL_succ {n : Nat} {to line : List Int} {k c : Nat} {x : Int} (hk : line[k]? = some x) (hx : to.getD x.toNat 0 = (c : Int)) : mkL n to line (k + 1) = (mkL n to line k).set c true := by
 refine List.ext_getElem? fun j => ?_
 by_cases hj : j < n
 ·rw [mkL_get hj, List.getElem?_set, mkL_get hj, List.take_add_one, hk, List.any_append]
  by_cases e : c = j
  ·subst e
   rw [if_pos rfl, if_pos (by simpa using hj)]
   simp only [Option.toList_some, List.any_cons, List.any_nil, hx, decide_true, Bool.or_false, Bool.or_true]
  ·have : ¬ to.getD x.toNat 0 = (j : Int) := by omega
   rw [if_neg e]
   simp only [Option.toList_some, List.any_cons, List.any_nil, this, decide_false, Bool.or_false]
 ·rw [List.getElem?_eq_none (by simp; omega), List.getElem?_eq_none (by simp; omega)]
def lsL (to line : List Int) (k : Nat) : List Int := ((List.range k).filter fun c : Nat => line.any fun x => decide (to.getD x.toNat 0 = (c : Int))).map fun c : Nat => (c : Int)
theorem lsL_succ (to line : List Int) (k : Nat) : lsL to line (k + 1) = if (line.any fun x => decide (to.getD x.toNat 0 = (k : Int))) = true then lsL to line k ++ [(k : Int)] else lsL to line k := by
 rw [lsL, List.range_succ, List.filter_append, List.map_append]
 by_cases c : (line.any fun x => decide (to.getD x.toNat 0 = (k : Int))) = true
 ·rw [if_pos c, List.filter_cons, if_pos c]; rfl
 ·rw [if_neg c, List.filter_cons, if_neg c]
  simp [lsL]
theorem lsL_len (to line : List Int) (k : Nat) : (lsL to line k).length ≤ k := by
 rw [lsL, List.length_map]
 exact Nat.le_trans (List.length_filter_le _ _) (by simp)
theorem rowV_scal (o : Option Pa) (e n : Nat) : scal (rowV o e n) = true := by cases o <;> rfl
theorem F46.mark {N : Nat} {K0 : Kw Prop} {E0 E1 K : Ks Prop} {h0 h : T Blk} {nx : Pa} {L : List Ob} {x0 x3 x4 x8 x9 x10 x11 x12 x13 : AV} {ub bx : Pa} {n i k : Nat} {to line : List Int} {lines : List (List Int)} (hN : 1000 < N) (hp : PermN n to) (hi : lines[i]? = some line) (hl : AscL n line) (hw : line.length ≤ 300) (hk : L[k]? = some (.arr bx [I n, encT lines]))
  (H : Hp h0 h nx (.arr ub ((mkL n to line 0).map AV.bool) :: L))
  (hK : ∀ x7 x11 h', Hp h0 h' nx (.arr ub ((mkL n to line line.length).map AV.bool) :: L) → K (F46.fr x0 (encI to) (.ptr bx 0) x3 x4 (I i) (.sl ub 0 n (some n) 1) x7 x8 x9 x10 x11 x12 x13) h' nx = .ok True) :
  IR.run F46.b7 (CS Tryz.prog B) N (((fnO F46.res K0).blk 0 E0).blk 1 E1) K (F46.fr x0 (encI to) (.ptr bx 0) x3 x4 (I i) (.sl ub 0 n (some n) 1) (I 0) x8 x9 x10 x11 x12 x13) h nx = .ok True := by
 have hil : i < lines.length := (List.getElem?_eq_some_iff.1 hi).1
 refine F46.L7 (fun m x7 h' nx' => ∃ j : Nat, x7 = I j ∧ line.length - j = m ∧ j ≤ line.length ∧ nx' = nx ∧ Hp h0 h' nx (.arr ub ((mkL n to line j).map AV.bool) :: L)) (m := line.length) (by omega) ⟨0, rfl, rfl, by omega, rfl, H⟩ ?_
 rintro m z7 z11 h1 nx1 R ⟨j, rfl, rfl, hj, rfl, H1⟩ hR
 rw [sFx, H1.load (k := k + 1) (i := 0 + 1) hk rfl, sIxL rfl hil, ldL (getT hi)]
 simp only [zF, sLss]
 by_cases hlt : j < line.length
 case neg =>
  simp only [show ¬ (j : Int) < (line.length : Int) by omega, decide_false, zB]
  obtain rfl : j = line.length := by omega
  exact hK _ _ _ H1
 simp only [show (j : Int) < (line.length : Int) by omega, decide_true, zA]
 have hx : line[j]? = some line[j] := List.getElem?_eq_getElem hlt
 have hxr := hl.2.2 _ (List.getElem_mem hlt)
 have hb := hp.bd (i := line[j].toNat) (by omega)
 have ht := hp.at (i := line[j].toNat) (by omega)
 obtain ⟨c, hc⟩ : ∃ c : Nat, to.getD line[j].toNat 0 = (c : Int) := ⟨(to.getD line[j].toNat 0).toNat, by omega⟩
 rw [sFx, H1.load (k := k + 1) (i := 0 + 1) hk rfl, sIxL rfl hil, ldL (getT hi), sIxL rfl hlt, ldL (getI hx), sIxL (i := line[j].toNat) (by omega) (by rw [hp.len]; omega), ldL (getI ht), hc, sIx (i := c) rfl (by omega)]
 refine H1.store (k := 0) rfl (by simp; omega) rfl fun h2 H2 => ?_
 rw [sAdd (by omega)]
 refine hR _ _ _ _ _ (by omega) ⟨j + 1, rfl, rfl, by omega, rfl, H2.cast ?_⟩
 rw [mkL_succ hx hc, List.map_set]; rfl
theorem F46.cells {N : Nat} {K0 : Kw Prop} {E0 E1 K : Ks Prop} {h0 h : T Blk} {nx : Pa} {L : List Ob} {x0 x1 x3 x4 x5 x7 x10 x11 x12 x13 : AV} {ub bx : Pa} {n k : Nat} {to line : List Int} {lines : List (List Int)} (hN : 1000 < N) (hn : n ≤ 300) (hk : L[k]? = some (.arr bx [I n, encT lines]))
  (H : Hp h0 h nx (.gro none 1 0 [] :: .arr ub ((mkL n to line line.length).map AV.bool) :: L))
  (hK : ∀ o x9 x12 x13 h' nx', Hp h0 h' nx' (.gro o 1 (zY n to line).length ((zY n to line).map I) :: .arr ub ((mkL n to line line.length).map AV.bool) :: L) → K (F46.fr x0 x1 (.ptr bx 0) x3 x4 x5 (.sl ub 0 n (some n) 1) x7 (rowV o 1 (zY n to line).length) x9 x10 x11 x12 x13) h' nx' = .ok True) :
  IR.run F46.b15 (CS Tryz.prog B) N (((fnO F46.res K0).blk 0 E0).blk 1 E1) K (F46.fr x0 x1 (.ptr bx 0) x3 x4 x5 (.sl ub 0 n (some n) 1) x7 .nils (I 0) x10 x11 x12 x13) h nx = .ok True := by
 refine F46.L15 (fun m x8 x9 h' nx' => ∃ (j : Nat) (o : Option Pa), x9 = I j ∧ x8 = rowV o 1 (lsL to line j).length ∧ n - j = m ∧ j ≤ n ∧ Hp h0 h' nx' (.gro o 1 (lsL to line j).length ((lsL to line j).map I) :: .arr ub ((mkL n to line line.length).map AV.bool) :: L)) (m := n) (by omega) ⟨0, none, rfl, rfl, rfl, by omega, H⟩ ?_
 rintro m z8 z9 z12 z13 h1 nx1 R ⟨j, o, rfl, rfl, rfl, hj, H1⟩ hR
 rw [sFx, H1.load (k := k + 2) (i := 0) hk rfl]
 simp only [sLss]
 by_cases hlt : j < n
 case neg =>
  simp only [show ¬ (j : Int) < (n : Int) by omega, decide_false, zB]
  obtain rfl : j = n := by omega
  exact hK o _ _ _ _ _ H1
 simp only [show (j : Int) < (n : Int) by omega, decide_true, zA]
 have hg : ((mkL n to line line.length).map AV.bool)[j]? = some (.bool (line.any fun x => decide (to.getD x.toNat 0 = (j : Int)))) := by
  rw [List.getElem?_map, mkL_get hlt, List.take_length]; rfl
 have hls := lsL_succ to line j
 have hll := lsL_len to line j
 rw [sIx (i := j) rfl hlt, H1.load (k := 1) rfl hg]
 cases hb : (line.any fun x => decide (to.getD x.toNat 0 = (j : Int))) with
 | false =>
  rw [hb, if_neg (by simp)] at hls
  rw [zB, sAdd (by omega)]
  exact hR _ _ _ _ _ _ _ (by omega) ⟨j + 1, o, rfl, by rw [hls], rfl, by omega, by rw [hls]; exact H1⟩
 | true =>
  rw [hb, if_pos rfl] at hls
  rw [zA]
  refine H1.bslice (l := [I (j : Int)]) rfl fun tb h2 nx2 H2 => ?_
  refine H2.appN (k := 1) (o := o) (c := 1) (new := [I (j : Int)]) rfl (HasArr.rd (l := [I (j : Int)]) (n := 1) (H2.own _ (List.mem_cons_self ..)) rfl) rfl rfl (by decide) (by decide) (by omega) fun o' h3 nx3 _ H3 => ?_
  rw [sAdd (by omega)]
  refine hR _ _ _ _ _ _ _ (by omega) ⟨j + 1, o', rfl, by rw [hls, List.length_append]; rfl, rfl, by omega, ?_⟩
  rw [hls, List.length_append, List.map_append]
  exact H3.drop
abbrev cellT (s : List Int × Option Pa) : AV := rowV s.2 1 s.1.length
abbrev rowT (s : List Int × Option Pa) : Ob := .gro s.2 1 s.1.length (s.1.map I)
theorem sBuildS {n : Int} {K : AV → OP} : sBuild [(I 0), .nils] [(0, 1, I n)] K = K (.agg [I n, .nils]) := nr rfl
theorem turned46 {n : Nat} {to : List Int} {lines : List (List Int)} (hp : PermN n to) (hn : n ≤ 300) (hm : lines.length ≤ 300) (hl : ∀ l ∈ lines, AscL n l ∧ l.length ≤ 300) : Pure Tryz.prog B 46 [.agg [I n, encT lines], encI to] (· = .agg [I n, encT (lines.map (zY n to))]) := by
 refine uA fun h nx K H0 hK => yQ yW dreg 10000 fun hf => ?_
 rw [F46.go]
 refine H0.box (l := [I n, encT lines]) rfl fun bx h1 nx1 H1 => ?_
 refine H1.alloc fun r h2 nx2 H2 => ?_
 rw [sFx, H2.load (k := 1) (i := 0) rfl rfl]
 rw [sBuildS]
 refine H2.alloc fun ob h3 nx3 H3 => ?_
 refine H3.storeN (l2 := [I n, .nils]) (k := 0) rfl rfl rfl fun h4 H4 => ?_
 refine F46.L1 (fun m x5 h' nx' => ∃ (i : Nat) (S : List (List Int × Option Pa)) (o : Option Pa), x5 = I i ∧ lines.length - i = m ∧ i ≤ lines.length ∧ S.map (·.1) = (lines.take i).map (zY n to) ∧
  Hp h h' nx' (.gro o 1 S.length (S.map cellT) :: .arr ob [I n, rowV o 1 S.length] :: .arr r [I 0, .nils] :: .arr bx [I n, encT lines] :: S.map rowT)) (m := lines.length) (by omega) ⟨0, [], none, rfl, rfl, by omega, rfl, H4.addGro 1⟩ ?_
 rintro m z5 z6 z7 z8 z9 z10 z11 z12 z13 h5 nx5 R ⟨i, S, o, rfl, rfl, hi, hS, H5⟩ hR
 have hSl : S.length = i := by
  have := congrArg List.length hS
  simp only [List.length_map, List.length_take] at this; omega
 rw [sFx, H5.load (k := 3) (i := 0 + 1) rfl rfl]
 simp only [zF, sLss]
 by_cases hlt : i < lines.length
 case neg =>
  simp only [show ¬ (i : Int) < (lines.length : Int) by omega, decide_false, zB]
  rw [F46.k24, H5.loadN (k := 1) (n := 2) rfl rfl]
  refine H5.storeN (l2 := [I n, rowV o 1 S.length]) (k := 2) rfl rfl rfl fun h6 H6 => ?_
  rw [H6.loadN (k := 2) (n := 2) rfl rfl]
  rw [List.take_of_length_le (by omega)] at hS
  have hF : FrzN h h6 (rowV o 1 S.length) (encT (lines.map (zY n to))) := by
   have e : encT (lines.map (zY n to)) = .lst 1 S.length (S.map fun s => encI s.1) := by
    rw [← hS]; simp [encT, List.map_map, Function.comp_def]
   rw [e]
   refine frzGroC H6 (k := 0) rfl (by simp) (List.all_eq_true.2 fun v hv => ?_) fun j v v' h1 h2 => ?_
   ·obtain ⟨s, _, rfl⟩ := List.mem_map.1 hv; rfl
   ·rw [List.getElem?_map] at h1 h2
    cases hs : S[j]? with
    | none => rw [hs] at h2; cases h2
    | some s =>
     rw [hs] at h1 h2
     cases h1; cases h2
     have hg : (S.map rowT)[j]? = some (.gro s.2 1 s.1.length (s.1.map I)) := by rw [List.getElem?_map, hs]; rfl
     have := H6.frzGro (k := j + 4) hg (fun v hv => by obtain ⟨x, _, rfl⟩ := List.mem_map.1 hv; rfl)
     exact this
  refine hK _ _ _ _ (AV.agg [I n, encT (lines.map (zY n to))]) H6 (Frz.agg _ _ rfl rfl fun j v v' h1 h2 => ?_) rfl
  match j, h1, h2 with
  | 0, h1, h2 => cases h1; cases h2; exact jD rfl
  | 1, h1, h2 => cases h1; cases h2; exact hF
  | j + 2, h1, h2 => simp at h1
 simp only [show (i : Int) < (lines.length : Int) by omega, decide_true, zA]
 obtain ⟨line, hline⟩ : ∃ l, lines[i]? = some l := ⟨_, List.getElem?_eq_getElem hlt⟩
 obtain ⟨ha, hw⟩ := hl _ (List.mem_of_getElem? hline)
 rw [sFx, H5.load (k := 3) (i := 0) rfl rfl]
 refine H5.mk1 n rfl rfl (by omega) (by decide) fun ub h6 nx6 H6 => ?_
 have H6 : Hp h h6 nx6 (.arr ub ((mkL n to line 0).map AV.bool) :: .gro o 1 S.length (S.map cellT) :: .arr ob [I n, rowV o 1 S.length] :: .arr r [I 0, .nils] :: .arr bx [I n, encT lines] :: S.map rowT) := H6.cast (by rw [mkL_zero]; simp)
 refine F46.mark (k := 3) (by omega) hp hline ha hw rfl H6 fun w7 w11 h7 H7 => ?_
 rw [F46.k14]
 refine F46.cells (k := 3) (lines := lines) (by omega) hn rfl (H7.addGro 1) fun oL w9 w12 w13 h8 nx8 H8 => ?_
 rw [F46.k22, sFx, H8.load (k := 3) (i := 0 + 1) rfl rfl]
 have fill : jW (repl 1 [AV.nils]) [(0, 1, rowV oL 1 (zY n to line).length)] = some [rowV oL 1 (zY n to line).length] := by
  simp only [jW, rowV_cells]; rfl
 refine H8.bslice (l := [rowV oL 1 (zY n to line).length]) fill fun tb h9 nx9 H9 => ?_
 refine H9.appN (k := 3) (o := o) (c := 1) (new := [rowV oL 1 (zY n to line).length]) rfl (HasArr.rd (l := [rowV oL 1 (zY n to line).length]) (n := 1) (H9.own _ (List.mem_cons_self ..)) rfl) rfl (by simp [rowV_scal]) (by decide) (by decide) (by omega) fun o' h10 nx10 _ H10 => ?_
 rw [sFx]
 refine H10.store (k := 4) rfl (by simp) (rowV_cells _ _ _) fun h11 H11 => ?_
 rw [F46.k23, sAdd (by omega)]
 refine hR _ _ _ _ _ _ _ _ _ _ _ _ (by omega) ⟨i + 1, S ++ [(zY n to line, oL)], o', rfl, rfl, by omega, ?_, ?_⟩
 ·rw [List.map_append, hS, List.take_add_one, hline, List.map_append]; rfl
 ·rw [List.length_append, List.map_append, List.map_append]
  have H12 : Hp h h11 nx10 (.gro oL 1 (zY n to line).length ((zY n to line).map I) :: .arr ub ((mkL n to line line.length).map AV.bool) :: (([.gro o' 1 (S.length + 1) (S.map cellT ++ [rowV oL 1 (zY n to line).length]), .arr ob [I n, rowV o' 1 (S.length + 1)], .arr r [I 0, .nils], .arr bx [I n, encT lines]] ++ S.map rowT) ++ [])) := by
   have := H11.drop
   simpa using this
  have H13 := (H12.perm ((List.Perm.swap _ _ _).trans ((List.perm_middle (l₁ := [.gro o' 1 (S.length + 1) (S.map cellT ++ [rowV oL 1 (zY n to line).length]), .arr ob [I n, rowV o' 1 (S.length + 1)], .arr r [I 0, .nils], .arr bx [I n, encT lines]] ++ S.map rowT)).symm.cons _))).drop
  simpa using H13
end Go.Ev
namespace Go.Proofs
open Go.Shelf
def Tryz.sortF_ren : Go.Shelf.Ren := ⟨fun | 6 => 91 | 15 => 129 | 14 => 128 | 28 => 162 | 29 => 163 | 20 => 154 | 21 => 155 | 22 => 156 | 23 => 157 | 24 => 158 | 25 => 159 | 26 => 160 | 27 => 161 | 46 => 175 | 47 => 176 | 48 => 177 | 49 => 178 | 50 => 179 | 57 => 199 | n => n, fun | 22 => 23 | 24 => 46 | 25 => 123 | 3 => 3 | 39 => 152 | 0 => 0 | 53 => 174 | 55 => 176 | 4 => 4 | 46 => 168 | 45 => 167 | 50 => 159 | 5 => 5 | 9 => 9 | 66 => 189 | 70 => 193 | 76 => 212 | 77 => 40 | n => n, fun | n => n⟩
theorem Tryz.sortF : Go.Proofs.SlLaysF.n6 Tryz.prog Tryz.sortF_ren := {
 mixed := by kernel_rfl
 f6 := ⟨Tryz.f91.name, by decide, Tryz.func91.trans (congrArg some (by kernel_rfl))⟩
 f14 := ⟨Tryz.f128.name, by decide, Tryz.func128.trans (congrArg some (by kernel_rfl))⟩
 f15 := Tryz.func129.trans (congrArg some (by kernel_rfl))
 f20 := ⟨Tryz.f154.name, by decide, Tryz.func154.trans (congrArg some (by kernel_rfl))⟩
 f21 := ⟨Tryz.f155.name, by decide, Tryz.func155.trans (congrArg some (by kernel_rfl))⟩
 f22 := ⟨Tryz.f156.name, by decide, Tryz.func156.trans (congrArg some (by kernel_rfl))⟩
 f23 := ⟨Tryz.f157.name, by decide, Tryz.func157.trans (congrArg some (by kernel_rfl))⟩
 f24 := ⟨Tryz.f158.name, by decide, Tryz.func158.trans (congrArg some (by kernel_rfl))⟩
 f25 := ⟨Tryz.f159.name, by decide, Tryz.func159.trans (congrArg some (by kernel_rfl))⟩
 f26 := ⟨Tryz.f160.name, by decide, Tryz.func160.trans (congrArg some (by kernel_rfl))⟩
 f27 := ⟨Tryz.f161.name, by decide, Tryz.func161.trans (congrArg some (by kernel_rfl))⟩
 f28 := Tryz.func162.trans (congrArg some (by kernel_rfl))
 f29 := Tryz.func163.trans (congrArg some (by kernel_rfl))
 f46 := ⟨Tryz.f175.name, by decide, Tryz.func175.trans (congrArg some (by kernel_rfl))⟩
 f47 := Tryz.func176.trans (congrArg some (by kernel_rfl))
 f48 := Tryz.func177.trans (congrArg some (by kernel_rfl))
 f49 := ⟨Tryz.f178.name, by decide, Tryz.func178.trans (congrArg some (by kernel_rfl))⟩
 f50 := ⟨Tryz.f179.name, by decide, Tryz.func179.trans (congrArg some (by kernel_rfl))⟩
 f57 := ⟨Tryz.f199.name, by decide, Tryz.func199.trans (congrArg some (by kernel_rfl))⟩
 t0 := Tryz.underlying0
 a0 := Tryz.isAgg0
 z0 := Tryz.sizeOf0
 v0 := Tryz.zeroValue0
 t3 := Tryz.underlying3
 a3 := Tryz.isAgg3
 z3 := Tryz.sizeOf3
 v3 := Tryz.zeroValue3
 t4 := Tryz.underlying4
 a4 := Tryz.isAgg4
 z4 := Tryz.sizeOf4
 v4 := Tryz.zeroValue4
 t5 := Tryz.underlying5
 a5 := Tryz.isAgg5
 z5 := Tryz.sizeOf5
 v5 := Tryz.zeroValue5
 t9 := Tryz.underlying9
 a9 := Tryz.isAgg9
 z9 := Tryz.sizeOf9
 v9 := Tryz.zeroValue9
 t22 := Tryz.underlying23
 a22 := Tryz.isAgg23
 z22 := Tryz.sizeOf23
 v22 := Tryz.zeroValue23
 a24 := Tryz.isAgg46
 z24 := Tryz.sizeOf46
 t25 := Tryz.underlying123
 a25 := Tryz.isAgg123
 z25 := Tryz.sizeOf123
 v25 := Tryz.zeroValue123
 t39 := Tryz.underlying152
 a39 := Tryz.isAgg152
 z39 := Tryz.sizeOf152
 v39 := Tryz.zeroValue152
 t45 := Tryz.underlying167
 a45 := Tryz.isAgg167
 z45 := Tryz.sizeOf167
 v45 := Tryz.zeroValue167
 t46 := Tryz.underlying168
 a46 := Tryz.isAgg168
 z46 := Tryz.sizeOf168
 v46 := Tryz.zeroValue168
 t50 := Tryz.underlying159
 a50 := Tryz.isAgg159
 z50 := Tryz.sizeOf159
 v50 := Tryz.zeroValue159
 t53 := Tryz.underlying174
 a53 := Tryz.isAgg174
 z53 := Tryz.sizeOf174
 v53 := Tryz.zeroValue174
 t55 := Tryz.underlying176
 a55 := Tryz.isAgg176
 z55 := Tryz.sizeOf176
 v55 := Tryz.zeroValue176
 t66 := Tryz.underlying189
 a66 := Tryz.isAgg189
 z66 := Tryz.sizeOf189
 v66 := Tryz.zeroValue189
 t70 := Tryz.underlying193
 a70 := Tryz.isAgg193
 z70 := Tryz.sizeOf193
 v70 := Tryz.zeroValue193
 t76 := Tryz.underlying212
 a76 := Tryz.isAgg212
 z76 := Tryz.sizeOf212
 v76 := Tryz.zeroValue212
 t77 := Tryz.underlying40
 a77 := Tryz.isAgg40
 z77 := Tryz.sizeOf40
 v77 := Tryz.zeroValue40 }
end Go.Proofs
namespace Go.Ev
open Go Go.Proofs Go.RowKit Go.Sort
theorem HR.sortedG {P : Program} {B : Nat} {E : Env} {h : T Blk} {nx : Pa} {w : World} {α : Type} [Inhabited α] {enc : α → Value} {av : α → AV} (hva : ∀ x, VR E (av x) (enc x)) (hsc : ∀ x, scal (av x) = true)
  (H : HR P B E h nx w) {id : Pa} {op : Bool} {m off b n k : Nat} {t : T AV} {l' : List α} {os : Array Obj} (hb : T.get .no id h = .cells op m t) (hE : E id = some (b, n)) (hm : off + l'.length ≤ m) :
  HR P B E (T.set .no (.cells op m (yY (l'.map av) t off)) id h) nx (grow (putRow enc (Sort.ahead w k) b off l'.toArray) os) ∧ Ex E E w (grow (putRow enc (Sort.ahead w k) b off l'.toArray) os) := by
 have hid : T.get .no id h ≠ .no := by rw [hb]; intro e; cases e
 obtain ⟨b', n', o, h1, h2, h3⟩ := H.blk id hid
 rw [hE] at h1; cases h1
 rw [hb] at h3
 obtain ⟨c, ty, fr, rfl, q1, q2, q3, q4, q5⟩ := h3
 have hcs : (putCells enc off l'.toArray c).size = c.size := by simp [putCells]
 have hbr : BR P E n (.cells op m (yY (l'.map av) t off)) (.cells (putCells enc off l'.toArray c) ty fr) := by
  refine ⟨_, ty, fr, rfl, by rw [hcs]; exact q1, by rw [hcs]; exact q2, q3, q4, fun i hi => ?_⟩
  rw [uC]
  have hic : i < c.size := by omega
  have hce : (putCells enc off l'.toArray c)[i]? = some (if off ≤ i ∧ i < off + l'.length then enc (l'.toArray[i - off]!) else c[i]) := by
   simp [putCells, Array.getElem?_eq_getElem hic]
  rw [List.length_map]
  by_cases hr : off ≤ i ∧ i < off + l'.length
  ·rw [if_pos hr]
   rw [if_pos hr] at hce
   have hj : i - off < l'.length := by omega
   have e1 : (l'.map av).getD (i - off) .undef = av l'[i - off] := by
    rw [List.getD_eq_getElem?_getD, List.getElem?_map, List.getElem?_eq_getElem hj]; rfl
   have e2 : l'.toArray[i - off]! = l'[i - off] := by simp [getElem!_pos, hj]
   rw [e1]
   exact ⟨hsc _, _, hce, by rw [e2]; exact hva _⟩
  ·rw [if_neg hr]
   rw [if_neg hr] at hce
   obtain ⟨r1, v, r2, r3⟩ := q5 i hi
   rw [Array.getElem?_eq_getElem hic] at r2
   exact ⟨r1, _, hce, by rw [Option.some.inj r2]; exact r3⟩
 have H1 := H.put hid hE hbr
 have X1 : Ex E E w (w.putObj b (.cells (putCells enc off l'.toArray c) ty fr)) := Ex.put hE h2 fun L hL => by cases hL
 have hbl : b < w.heap.size := (Array.getElem?_eq_some_iff.1 h2).1
 have hBel : Below (w.putObj b (.cells (putCells enc off l'.toArray c) ty fr)).heap.size (w.putObj b (.cells (putCells enc off l'.toArray c) ty fr)) (grow (putRow enc (Sort.ahead w k) b off l'.toArray) os) := by
  refine ⟨rfl, rfl, rfl, ?_, fun j hj => ?_⟩
  ·rw [World.putObj_size]; simp [grow, putRow, mapBlock, Sort.ahead]
  ·rw [World.putObj_size] at hj
   have e1 : (grow (putRow enc (Sort.ahead w k) b off l'.toArray) os).heap[j]? = (w.heap.modify b (onCells (putCells enc off l'.toArray)))[j]? := by
    show (w.heap.modify b (onCells (putCells enc off l'.toArray)) ++ os)[j]? = _
    rw [Array.getElem?_append_left (by simpa using hj)]
   rw [e1, Array.getElem?_modify]
   by_cases e : b = j
   ·subst e
    rw [if_pos rfl, h2, gZ _ hbl]; rfl
   ·rw [if_neg e, yG _ (fun q => e q.symm)]
 obtain ⟨r1, r2⟩ := H1.below hBel
 exact ⟨r1, X1.trans r2⟩
def RowAt (h : T Blk) (id0 : Pa) (a : AV) (l : List Int) : Prop :=
 a = encI l ∨ ∃ id off o op m t, id ≠ id0 ∧ a = .sl id off l.length o 1 ∧ T.get .no id h = .cells op m t ∧ off + l.length ≤ m ∧ yI t off l.length = l.map I
theorem RowAt.scal {h : T Blk} {id0 : Pa} {a : AV} {l : List Int} (R : RowAt h id0 a l) : scal a = true := by
 rcases R with rfl | ⟨_, _, _, _, _, _, _, rfl, _⟩ <;> rfl
theorem RowAt.set {h : T Blk} {id0 : Pa} {a : AV} {l : List Int} {b : Blk} (R : RowAt h id0 a l) : RowAt (T.set .no b id0 h) id0 a l := by
 rcases R with rfl | ⟨id, off, o, op, m, t, h1, h2, h3, h4, h5⟩
 ·exact .inl rfl
 ·exact .inr ⟨id, off, o, op, m, t, h1, h2, by rw [T.get_set_ne (h := h1)]; exact h3, h4, h5⟩
theorem RowAt.cells {P : Program} {B : Nat} {E : Env} {h : T Blk} {nx : Pa} {w : World} {id0 : Pa} {a : AV} {l : List Int} {v : Value} (H : HR P B E h nx w) (R : RowAt h id0 a l) (hv : VR E a v) :
  ∃ p c, v = .slice p l.length c ∧ (l.length = 0 ∨ ∃ b o, p = some ⟨b, o, none⟩ ∧ ∀ j, j < l.length → w.cell? ⟨b, o + j, none⟩ = some (.int .i64 l[j]!)) := by
 rcases R with rfl | ⟨id, off, o, op, m, t, h1, rfl, h3, h4, h5⟩
 ·obtain ⟨_, _, p, c, rfl, hh⟩ := hv.lst_inv
  refine ⟨p, c, rfl, ?_⟩
  rcases hh with h0 | ⟨b, off, rfl, _, hf⟩
  ·exact .inl h0
  ·refine .inr ⟨b, off, rfl, fun j hj => ?_⟩
   obtain ⟨v, hv1, hv2⟩ := VRF.get hf (i := j) (a := I l[j]) (by rw [List.getElem?_map, List.getElem?_eq_getElem hj]; rfl)
   simp only [VR] at hv2
   subst hv2
   obtain ⟨⟨c, ty, fr, q1, q2⟩, _⟩ := H.frz _ _ _ hv1
   rw [getElem!_pos l j hj]
   simp [World.cell?, q1, q2]
 ·obtain ⟨b, n, c, hE, rfl, hcap⟩ := hv.sl_inv
  refine ⟨_, c, rfl, .inr ⟨b, off, rfl, fun j hj => ?_⟩⟩
  obtain ⟨b', n', ob, q1, q2, q3⟩ := H.blk id (by rw [h3]; intro e; cases e)
  rw [hE] at q1; cases q1
  rw [h3] at q3
  obtain ⟨cs, ty, fr, rfl, g1, g2, g3, g4, hc⟩ := q3
  obtain ⟨_, v', k1, k2⟩ := hc (off + j) (by omega)
  have he : T.get .undef (.of (off + j)) t = I l[j] := by
   have e1 := yE t off l.length j (by omega)
   rw [h5, List.getElem?_map, List.getElem?_eq_getElem hj] at e1
   exact (Option.some.inj e1).symm
  rw [he] at k2
  simp only [VR] at k2
  subst k2
  rw [getElem!_pos l j hj]
  simp [World.cell?, q2, k1]
theorem inj_on_of_nodup_map {β γ : Type} {f : β → γ} : ∀ {l : List β}, (l.map f).Nodup → ∀ {a b : β}, a ∈ l → b ∈ l → f a = f b → a = b
 | [], _, _, _, h, _, _ => by cases h
 | x :: l, hn, a, b, ha, hb, e => by
  rw [List.map_cons, List.nodup_cons] at hn
  rcases List.mem_cons.1 ha with ea | ha'
  ·rcases List.mem_cons.1 hb with eb | hb'
   ·exact ea.trans eb.symm
   ·exact (hn.1 (List.mem_map.2 ⟨b, hb', (ea ▸ e).symm⟩)).elim
  ·rcases List.mem_cons.1 hb with eb | hb'
   ·exact (hn.1 (List.mem_map.2 ⟨a, ha', (eb ▸ e)⟩)).elim
   ·exact inj_on_of_nodup_map hn.2 ha' hb' e
theorem sort91_J {B : Nat} {h : T Blk} {id : Pa} {op : Bool} {m off n : Nat} {o : Option Nat} {t : T AV} {ps qs : List (AV × List Int)} (hb : T.get .no id h = .cells op m t) (hm : off + n ≤ m) (hn : n ≤ 1000000) (hp : yI t off n = ps.map (·.1))
  (hr : ∀ p ∈ ps, RowAt h id p.1 p.2 ∧ p.2.length ≤ 1000000) (hnd : (ps.map (·.2)).Nodup) (hq : qs.Perm ps) (hqs : qs.Pairwise fun a b => ordL a.2 b.2 ≤ 0) :
  JOk Tryz.prog B (fun f a h' => open Classical in if f = 91 ∧ a = [.sl id off n o 1, .fn 92 (.of 92) []] ∧ h' = h then some (.tup [], T.set .no (.cells op m (yY (qs.map (·.1)) t off)) id h) else none) := by
 intro E h' nx w f args vs v h2 H hv hj
 dsimp only at hj
 by_cases hc : f = 91 ∧ args = [AV.sl id off n o 1, .fn 92 (.of 92) []] ∧ h' = h
 case neg => rw [if_neg hc] at hj; cases hj
 rw [if_pos hc] at hj
 obtain ⟨rfl, rfl, rfl⟩ := hc
 simp only [Option.some.injEq, Prod.mk.injEq] at hj
 obtain ⟨rfl, rfl⟩ := hj
 refine ⟨_, Tryz.func91, by kernel_rfl, by kernel_rfl, fun nn => callsIn_wide.2 ?_⟩
 obtain ⟨l⟩ := vs
 simp only [VRL] at hv
 obtain ⟨u, _, rfl, hu, u2, _, rfl, hu2, rfl⟩ := hv
 simp only [VR, VRL] at hu2
 obtain ⟨_, vs2, rfl, hvs2⟩ := hu2
 obtain rfl : vs2 = #[] := by cases vs2; simpa using hvs2
 have hln : ps.length = n := by
  have := congrArg List.length hp
  simpa using this.symm
 obtain ⟨b, bn, c, hE, rfl, hcap⟩ := hu.sl_inv
 obtain ⟨b', n', ob, h1, h2, h3⟩ := H.blk id (by rw [hb]; intro e; cases e)
 rw [hE] at h1; cases h1
 have h3' := h3
 rw [hb] at h3
 obtain ⟨cs, ty, fr, rfl, g1, g2, g3, g4, hc⟩ := h3
 let α := {x : (AV × List Int) × Value // RowAt h' id x.1.1 x.1.2 ∧ x.1.2.length ≤ 1000000 ∧ VR E x.1.1 x.2}
 haveI : Inhabited α := ⟨⟨((encI [], []), .slice none 0 0), .inl rfl, by simp, by simp only [VR]; exact ⟨rfl, rfl, none, 0, rfl, .inl rfl⟩⟩⟩
 let enc : α → Value := fun x => x.1.2
 let av : α → AV := fun x => x.1.1.1
 let cf : α → α → Int := fun x y => ordL x.1.1.2 y.1.1.2
 have hva : ∀ x : α, VR E (av x) (enc x) := fun x => x.2.2.2
 have hsc : ∀ x : α, scal (av x) = true := fun x => x.2.1.scal
 have hone : OneCell enc := fun x => by
  obtain ⟨p, c, e, _⟩ := x.2.1.cells H x.2.2.2
  show (x.1.2).oneCell' = true
  rw [e]; rfl
 have hO : SWO (ltOf cf) := {
  irrefl := fun x => by show decide (ordL _ _ < 0) = false; rw [ordL_refl]; rfl
  trans := fun x y z p q => by
   have p := of_decide_eq_true p
   have q := of_decide_eq_true q
   exact decide_eq_true (ordL_lt_trans p q)
  ntrans := fun x y z p q => by
   have p := of_decide_eq_false p
   have q := of_decide_eq_false q
   exact decide_eq_false (Int.not_lt.2 (ordL_ge_trans (Int.not_lt.1 p) (Int.not_lt.1 q))) }
 have each : ∀ j, j < n → ∃ x : α, ps[j]? = some x.1.1 ∧ w.cell? ⟨b, off + j, none⟩ = some (enc x) ∧ w.frozen? ⟨b, off + j, none⟩ = false := by
  intro j hj
  have hjp : j < ps.length := by omega
  obtain ⟨_, v', k1, k2⟩ := hc (off + j) (by omega)
  have he : T.get .undef (.of (off + j)) t = ps[j].1 := by
   have e1 := yE t off n j hj
   rw [hp, List.getElem?_map, List.getElem?_eq_getElem hjp] at e1
   exact (Option.some.inj e1).symm
  rw [he] at k2
  obtain ⟨r1, r2⟩ := hr _ (List.getElem_mem hjp)
  refine ⟨⟨(ps[j], v'), r1, r2, k2⟩, List.getElem?_eq_getElem hjp, by simp [World.cell?, h2, k1, enc], ?_⟩
  have := g1 (off + j) (Array.getElem?_eq_some_iff.1 k1).1
  simp only [World.frozen?, h2]
  obtain ⟨lo, hi⟩ := fr
  simp only [Bool.and_eq_false_iff, decide_eq_false_iff_not]
  simp only at this
  omega
 obtain ⟨D, hD⟩ := Go.Deep.choose_lt each
 have hsz : ((List.range n).map D).toArray.size = n := by simp
 have hget : ∀ j, j < n → ((List.range n).map D).toArray[j]! = D j := fun j hj => by simp [getElem!_pos, hj]
 have hH : Holds enc w b off ((List.range n).map D).toArray := by
  intro j hj
  rw [hsz] at hj
  rw [hget j hj]
  exact (hD j hj).2
 have hcmp : CmpLays1 Tryz.prog 92 #[] enc cf b off ((List.range n).map D).toArray.size w := by
  intro k os dk hs x y
  rw [hsz] at hs
  obtain ⟨H', _⟩ := H.sortedG (k := k) (os := os) (l' := dk.toList) hva hsc hb hE (by rw [show dk.toList.length = n from Array.length_toList.trans hs]; exact hm)
  obtain ⟨p1, c1, e1, m1⟩ := (x.2.1.set (b := .cells op m (yY (dk.toList.map av) t off))).cells H' x.2.2.2
  obtain ⟨p2, c2, e2, m2⟩ := (y.2.1.set (b := .cells op m (yY (dk.toList.map av) t off))).cells H' y.2.2.2
  have := compare92W p1 p2 _ c1 _ c2 x.1.1.2 y.1.1.2 (sortWorld enc w b off k dk os) rfl rfl x.2.2.1 y.2.2.1 m1 m2
  show Go.Calls Tryz.prog 92 #[x.1.2, y.1.2] _ _
  rw [e1, e2]
  exact this.mono fun e w' ⟨he, q, hq⟩ => ⟨he, q, #[], by rw [hq, grow_empty]⟩
 have key := Any.slices_SortFunc Tryz.sortF enc hone cf hO 92 #[] b off c ((List.range n).map D).toArray w (enters_of Tryz.func92 (by kernel_rfl) rfl) hcmp hH (H.lt _ _ _ hE).2 (by rw [hsz]; omega)
 rw [hsz] at key
 refine key.mono ?_
 rintro e w' ⟨rfl, d', k, os, hP, hS, rfl⟩
 obtain ⟨hd1, _, hperm⟩ := hP
 rw [hsz] at hd1
 have e1 : d'.extract 0 n = d' := by rw [← hd1]; exact Array.extract_size
 have e2 : ((List.range n).map D).toArray.extract 0 n = ((List.range n).map D).toArray := by
  have := @Array.extract_size _ ((List.range n).map D).toArray
  rwa [hsz] at this
 rw [e1, e2] at hperm
 have hps : ((List.range n).map D).map (fun x : α => x.1.1) = ps := by
  refine List.ext_getElem? fun j => ?_
  rw [List.getElem?_map, List.getElem?_map]
  by_cases hj : j < n
  ·rw [List.getElem?_range hj, (hD j hj).1]; rfl
  ·rw [List.getElem?_eq_none (by simp; omega), List.getElem?_eq_none (by omega)]; rfl
 have hpm : (d'.toList.map fun x : α => x.1.1).Perm ps := by rw [← hps]; exact hperm.map _
 have hqe : (d'.toList.map fun x : α => x.1.1) = qs := by
  refine List.Perm.eq_of_pairwise (le := fun a b => ordL a.2 b.2 ≤ 0) ?_ ?_ hqs (hpm.trans hq.symm)
  ·intro a a' ha ha' p q
   have e : a.2 = a'.2 := ordL_eq (by have := gH a.2 a'.2; omega)
   have ma := hpm.mem_iff.1 ha
   have ma' := hq.mem_iff.1 ha'
   exact inj_on_of_nodup_map hnd ma ma' e
  ·rw [List.pairwise_map, List.pairwise_iff_getElem]
   intro i j hi hj hij
   have hi' : i < d'.size := by simpa using hi
   have hj' : j < d'.size := by simpa using hj
   have := hS i j (Nat.zero_le _) hij (by omega)
   rw [getElem!_pos d' j hj', getElem!_pos d' i hi'] at this
   have := of_decide_eq_false this
   have e : ordL d'[j].1.1.2 d'[i].1.1.2 = - ordL d'[i].1.1.2 d'[j].1.1.2 := gH _ _
   have f : ¬ ordL d'[j].1.1.2 d'[i].1.1.2 < 0 := this
   simp only [Array.getElem_toList]
   omega
 obtain ⟨r1, r2⟩ := H.sortedG (k := k) (os := os) (l' := d'.toList) hva hsc hb hE (by rw [show d'.toList.length = n from Array.length_toList.trans hd1]; exact hm)
 have e3 : d'.toList.map av = qs.map (·.1) := by rw [← hqe, List.map_map]; rfl
 rw [e3] at r1
 exact ⟨_, E, rfl, by simp only [VR, VRL]; exact ⟨_, rfl, rfl⟩, r1, r2⟩
end Go.Ev
namespace Go.Ev
open Go Go.Proofs
variable {B : Nat}
theorem Hp.neName {h0 h : T Blk} {nx : Pa} {L : List Ob} {j k : Nat} {x y : Ob} {a b : Pa} (H : Hp h0 h nx L) (hk : L[k]? = some x) (hj : L[j]? = some y) (hjk : j ≠ k) (ha : a ∈ x.names) (hb : b ∈ y.names) : b ≠ a := by
 have hnd := (H.front hk).nd
 rw [List.flatMap_cons] at hnd
 have hy : y ∈ L.take k ++ L.drop (k + 1) := by
  rcases Nat.lt_or_gt_of_ne hjk with c | c
  ·exact List.mem_append_left _ (List.mem_of_getElem? (i := j) (by rw [List.getElem?_take_of_lt c]; exact hj))
  ·exact List.mem_append_right _ (List.mem_of_getElem? (i := j - (k + 1)) (by rw [List.getElem?_drop, show k + 1 + (j - (k + 1)) = j by omega]; exact hj))
 rintro rfl
 exact (List.nodup_append.1 hnd).2.2 b ha b (List.mem_flatMap.2 ⟨y, hy, hb⟩) rfl
theorem Hp.rowAt {h0 h : T Blk} {nx : Pa} {L : List Ob} {j k n : Nat} {id rid : Pa} {z : List AV} {l : List Int} (H : Hp h0 h nx L) (hk : L[k]? = some (.gro (some id) 1 n z)) (hj : L[j]? = some (.arr rid (l.map I))) (hjk : j ≠ k) : RowAt h id (.sl rid 0 l.length (some l.length) 1) l := by
 obtain ⟨op, t, h1, h2⟩ := H.own _ (List.mem_of_getElem? hj)
 rw [List.length_map] at h1 h2
 exact .inr ⟨rid, 0, some l.length, op, l.length, t, H.neName hk hj hjk (by simp [Ob.names]) (by simp [Ob.names]), rfl, h1, by omega, h2⟩
theorem sort91_gro {h0 h : T Blk} {nx p id : Pa} {L : List Ob} {k n : Nat} {K : Kw Prop} {ps qs : List (AV × List Int)} (H : Hp h0 h nx L) (hk : L[k]? = some (.gro (some id) 1 n (ps.map (·.1)))) (hn : n ≤ 1000000)
  (hr : ∀ p ∈ ps, RowAt h id p.1 p.2 ∧ p.2.length ≤ 1000000) (hnd : (ps.map (·.2)).Nodup) (hq : qs.Perm ps) (hqs : qs.Pairwise fun a b => ordL a.2 b.2 ≤ 0)
  (hK : ∀ h', Hp h0 h' nx (L.set k (.gro (some id) 1 n (qs.map (·.1)))) → K (.tup []) h' nx = .ok True) : (CS Tryz.prog B).fn 91 p [rowV (some id) 1 n, .fn 92 (.of 92) []] h nx K = .ok True := by
 obtain ⟨t, h1, h2, h3⟩ := H.own _ (List.mem_of_getElem? hk)
 rw [Nat.mul_one] at h1 h2 h3
 have hql : (qs.map (·.1)).length = n := by rw [List.length_map, hq.length_eq, ← h2, List.length_map]
 refine CS_hook (sort91_J (off := 0) (o := none) h1 (by omega) hn h3 hr hnd hq hqs) (v := .tup []) (h2 := T.set .no (.cells true n (yY (qs.map (·.1)) t 0)) id h) (if_pos ⟨rfl, rfl, rfl⟩) (hK _ (H.upd hk (by simp [Ob.names]) rfl ⟨_, by rw [T.get_set_same, Nat.mul_one], by rw [Nat.mul_one]; exact hql, ?_⟩))
 have := rdList_wr t [] (qs.map (·.1)) 0 rfl
 rw [Nat.zero_add, List.nil_append, hql] at this
 rw [Nat.mul_one]; exact this
end Go.Ev
namespace Go.Ev
open Go Go.Proofs
variable {B : Nat}
abbrev cellS (n : Nat) (r : Pa) : AV := .sl r 0 n (some n) 1
abbrev pS (n : Nat) (s : Key × Pa) : AV × List Int := (cellS n s.2, zk s.1)
abbrev uI (n : Nat) (S : List (Key × Pa)) : List AV := (S.map (pS n)).map (·.1)
abbrev rowsS (S : List (Key × Pa)) : List Ob := S.map fun s => Ob.arr s.2 ((zk s.1).map I)
abbrev nS (G : List Key) (S : List (Key × Pa)) : List AV := S.map fun s => cntV G s.1
theorem cellsS_snoc (n : Nat) (S : List (Key × Pa)) (s : Key × Pa) : uI n (S ++ [s]) = uI n S ++ [cellS n s.2] := by simp [uI]
theorem F33.lists {N n : Nat} {K0 : Kw Prop} {K : Ks Prop} {h0 h : T Blk} {nx : Pa} {L : List Ob} {x0 x1 x2 x4 x5 x6 x7 x8 x10 x11 x12 x13 x14 x15 x16 x17 x18 x19 x21 x22 x23 x24 x25 x26 x27 x28 x29 x30 x31 x32 : AV} {it mid bx : Pa} {lines : List (List Int)} {ks G : List Key} {cells : Int} (hN : 1000001 < N) (hn : lines.length = n) (hm : n ≤ 128) (O : KsOk n ks G) (hkl : ks.length ≤ 900000) (hlt : ∀ y ∈ G, ∀ v ∈ y, v < 256)
  (H : Hp h0 h nx (.iter it mid (ks.map (entK (cntV G))).length [] (ks.map (entK (cntV G))).length :: .map mid (ks.map (entK (cntV G))) :: .arr bx [I cells, encT lines] :: L))
  (hK : ∀ w10 w11 w12 w21 w22 w23 w24 h' nx' o S, (S.map (·.1)).Perm ks → Hp h0 h' nx' (.gro o 1 S.length (uI n S) :: .map mid (ks.map (entK (cntV G))) :: .arr bx [I cells, encT lines] :: (rowsS S ++ L)) →
   K (F33.fr x0 x1 x2 (.ptr bx 0) x4 x5 x6 x7 x8 (rowV o 1 S.length) w10 w11 w12 x13 x14 x15 x16 x17 x18 x19 (.ptr it 0) w21 w22 w23 w24 x25 x26 x27 x28 x29 x30 x31 x32) h' nx' = .ok True) :
  IR.run F33.b3 (CS Tryz.prog B) N (fnO F33.res K0) K (F33.fr x0 x1 x2 (.ptr bx 0) x4 x5 x6 x7 x8 .nils x10 x11 x12 x13 x14 x15 x16 x17 x18 x19 (.ptr it 0) x21 x22 x23 x24 x25 x26 x27 x28 x29 x30 x31 x32) h nx = .ok True := by
 refine F33.L3 (fun m' x9 h' nx' => ∃ (seen : List Nat) (S : List (Key × Pa)) (o : Option Pa), x9 = rowV o 1 S.length ∧ (gA ks.length seen).length = m' ∧ seen.length + m' = ks.length ∧ seen.Nodup ∧ (∀ i ∈ seen, i < ks.length) ∧ S.map (·.1) = seen.reverse.map (fun i => ks.getD i []) ∧
  Hp h0 h' nx' (.gro o 1 S.length (uI n S) :: .iter it mid (ks.map (entK (cntV G))).length seen (ks.map (entK (cntV G))).length :: .map mid (ks.map (entK (cntV G))) :: .arr bx [I cells, encT lines] :: (rowsS S ++ L))) (m := ks.length) (by omega)
  ⟨[], [], none, rfl, by (have e : gA ks.length [] = List.range ks.length := List.filter_eq_self.2 (by simp)); rw [e]; simp, by simp, by simp, by simp, rfl, H.addGro 1⟩ ?_
 rintro m' z9 z10 z11 z12 z21 z22 z23 z24 h1 nx1 R ⟨seen, S, o, rfl, rfl, hsl, hnd, hse, hS, H1⟩ hR
 refine H1.next (k := 1) (j := 2) rfl rfl (fun hall => ?_) fun i a b h2 hi hns hab H2 => ?_
 ·simp (disch := omega) only [sAdd, sSub, sMul, sEql, sNeq, sLss, sLeq, sGtr, sGeq, zH, zG, zA, zB, zX, zO, zV, yB, zN, yC, zZ, yH, zR, zQ, zP, zF, zL, zI, zC, decide_true, decide_false, Bool.not_true, Bool.not_false, zS]
  have hsp := seen_perm hnd hse fun i hi => hall i (by simpa using hi)
  refine hK _ _ _ _ _ _ _ _ _ o S ?_ (H1.perm (List.Perm.swap _ _ _)).drop
  rw [hS]
  have : ks = (List.range ks.length).map fun i => ks.getD i [] := rowL_self ks []
  conv => rhs; rw [this]
  exact ((List.reverse_perm seen).trans hsp).map _
 ·have hi' : i < ks.length := by simpa using hi
  obtain ⟨y, hy⟩ : ∃ y, ks[i]? = some y := ⟨_, List.getElem?_eq_getElem hi'⟩
  have hym := List.mem_of_getElem? hy
  rw [List.getElem?_map, hy] at hab
  obtain ⟨rfl, rfl⟩ : encK y = a ∧ cntV G y = b := by simpa [entK] using hab
  have hgy : ks.getD i [] = y := by rw [List.getD_eq_getElem?_getD, hy]; rfl
  have hyl := O.klen y hym
  have hSl : S.length = seen.length := by have := congrArg List.length hS; simpa using this
  simp (disch := omega) only [sAdd, sSub, sMul, sEql, sNeq, sLss, sLeq, sGtr, sGeq, zH, zG, zA, zB, zX, zO, zV, yB, zN, yC, zZ, yH, zR, zQ, zP, zF, zL, zI, zC, decide_true, decide_false, Bool.not_true, Bool.not_false, zS]
  have hent : (ks.map (entK (cntV G)))[i]? = some (encK y, cntV G y) := by rw [List.getElem?_map, hy]; rfl
  rw [H2.entry (k := 1) (j := 2) rfl rfl hent]
  simp (disch := omega) only [sAdd, sSub, sMul, sEql, sNeq, sLss, sLeq, sGtr, sGeq, zH, zG, zA, zB, zX, zO, zV, yB, zN, yC, zZ, yH, zR, zQ, zP, zF, zL, zI, zC, decide_true, decide_false, Bool.not_true, Bool.not_false, zS]
  refine H2.alloc fun xb h3 nx3 H3 => ?_
  refine H3.storeN (k := 0) rfl rfl (yT (by omega)) fun h4 H4 => ?_
  rw [sFx, H4.load (k := 4) (i := 0 + 1) rfl rfl]
  simp only [zF]
  refine H4.mk1 n (by omega) (by omega) (by omega) (by decide) fun rid h5 nx5 H5 => ?_
  simp (disch := omega) only [sAdd, sSub, sMul, sEql, sNeq, sLss, sLeq, sGtr, sGeq, zH, zG, zA, zB, zX, zO, zV, yB, zN, yC, zZ, yH, zR, zQ, zP, zF, zL, zI, zC, decide_true, decide_false, Bool.not_true, Bool.not_false, zS]
  refine fill33 (n := n) (y := y) hyl hm (by omega) (hlt y ((O.mem y).1 hym)) H5 fun w12 w23 w24 h6 H6 => ?_
  rw [F33.k15]
  refine H6.bslice (l := [cellS n rid]) rfl fun tb h7 nx7 H7 => ?_
  refine H7.appN (k := 3) (o := o) (c := 1) (new := [cellS n rid]) rfl (HasArr.rd (l := [cellS n rid]) (n := 1) (H7.own _ (List.mem_cons_self ..)) rfl) rfl rfl (by decide) (by decide) (by omega) fun o' h8 nx8 _ H8 => ?_
  have hst := leftA_step hi' hns
  refine hR _ _ _ _ _ _ _ _ _ _ _ (by omega) ⟨i :: seen, S ++ [(y, rid)], o', by rw [List.length_append]; rfl, rfl, by simp; omega, List.nodup_cons.2 ⟨hns, hnd⟩, fun j hj => ?_, ?_, ?_⟩
  ·rcases List.mem_cons.1 hj with rfl | q
   ·exact hi'
   ·exact hse j q
  ·rw [List.map_append, hS, List.reverse_cons, List.map_append]
   simp [hy]
  ·rw [cellsS_snoc, List.length_append, rowsS, List.map_append, List.append_assoc]
   have H9 : Hp h0 h8 nx8 (.arr rid ((zk y).map I) :: (([.arr xb (yM y), .gro o' 1 (S.length + 1) (uI n S ++ [cellS n rid]), .iter it mid (ks.map (entK (cntV G))).length (i :: seen) (ks.map (entK (cntV G))).length, .map mid (ks.map (entK (cntV G))), .arr bx [I cells, encT lines]] ++ rowsS S) ++ L)) := H8.drop
   exact (H9.perm List.perm_middle.symm).drop
theorem F33.counts {N n : Nat} {K0 : Kw Prop} {K : Ks Prop} {h0 h : T Blk} {nx : Pa} {L : List Ob} {x0 x1 x2 x3 x4 x5 x6 x7 x9 x10 x11 x12 x14 x15 x16 x17 x18 x19 x20 x21 x22 x23 x24 x28 x29 x30 x31 x32 : AV} {mid : Pa} {o1 : Option Pa} {ks G : List Key} {S : List (Key × Pa)} (hN : 1000001 < N) (hm : n ≤ 128) (O : KsOk n ks G) (hSl : S.length ≤ 900000) (hSm : ∀ s ∈ S, s.1 ∈ ks) (hlt : ∀ y ∈ G, ∀ v ∈ y, v < 256)
  (H : Hp h0 h nx (.gro o1 1 S.length (uI n S) :: .map mid (ks.map (entK (cntV G))) :: (rowsS S ++ L)))
  (hK : ∀ w14 w15 w16 w17 w28 w29 w30 w31 w32 h' nx' o2, Hp h0 h' nx' (.gro o2 1 S.length (nS G S) :: .gro o1 1 S.length (uI n S) :: (rowsS S ++ (.map mid (ks.map (entK (cntV G))) :: L))) →
   K (F33.fr x0 x1 x2 x3 x4 x5 x6 x7 (.map mid) x9 x10 x11 x12 (rowV o2 1 S.length) w14 w15 w16 w17 x18 x19 x20 x21 x22 x23 x24 (rowV o1 1 S.length) (I S.length) (I S.length) w28 w29 w30 w31 w32) h' nx' = .ok True) :
  IR.run F33.b17 (CS Tryz.prog B) N (fnO F33.res K0) K (F33.fr x0 x1 x2 x3 x4 x5 x6 x7 (.map mid) x9 x10 x11 x12 .nils x14 x15 x16 x17 x18 x19 x20 x21 x22 x23 x24 (rowV o1 1 S.length) (I S.length) (I 0) x28 x29 x30 x31 x32) h nx = .ok True := by
 refine F33.L17 (fun m' x13 x27 h' nx' => ∃ (i : Nat) (o2 : Option Pa), x27 = I i ∧ x13 = rowV o2 1 i ∧ S.length - i = m' ∧ i ≤ S.length ∧
  Hp h0 h' nx' (.gro o2 1 i (nS G (S.take i)) :: .gro o1 1 S.length (uI n S) :: .map mid (ks.map (entK (cntV G))) :: (rowsS S ++ L))) (m := S.length) (by omega)
  ⟨0, none, rfl, rfl, by omega, by omega, H.addGro 1⟩ ?_
 rintro m' z13 z14 z15 z16 z17 z27 z28 z29 z30 z31 z32 h1 nx1 R ⟨i, o2, rfl, rfl, rfl, hi, H1⟩ hR
 simp only [sLss]
 by_cases hlt' : i < S.length
 case neg =>
  simp only [show ¬ (i : Int) < (S.length : Int) by omega, decide_false, zB]
  obtain rfl : i = S.length := by omega
  rw [List.take_of_length_le (by omega)] at H1
  exact hK _ _ _ _ _ _ _ _ _ _ _ o2 (H1.perm ((List.perm_middle (l₁ := rowsS S)).symm.cons _ |>.cons _))
 simp only [show (i : Int) < (S.length : Int) by omega, decide_true, zA]
 obtain ⟨⟨y, rid⟩, hs⟩ : ∃ s, S[i]? = some s := ⟨_, List.getElem?_eq_getElem hlt'⟩
 have hym : y ∈ ks := hSm _ (List.mem_of_getElem? hs)
 have hyl := O.klen y hym
 have hc : (uI n S)[i]? = some (cellS n rid) := by rw [List.getElem?_map, List.getElem?_map, hs]; rfl
 obtain ⟨id, q1, q2⟩ := H1.groIx (k := 1) rfl hc
 rw [q1, q2]
 refine H1.alloc fun xb h2 nx2 H2 => ?_
 have hrow : (rowsS S ++ L)[i]? = some (.arr rid ((zk y).map I)) := by
  rw [List.getElem?_append_left (by simpa using hlt'), List.getElem?_map, hs]; rfl
 simp (disch := omega) only [sAdd, sSub, sMul, sEql, sNeq, sLss, sLeq, sGtr, sGeq, zH, zG, zA, zB, zX, zO, zV, yB, zN, yC, zZ, yH, zR, zQ, zP, zF, zL, zI, zC, decide_true, decide_false, Bool.not_true, Bool.not_false, zS]
 have H3 : Hp h0 h2 nx2 (.arr xb (yM (List.replicate n 0)) :: .gro o2 1 i (nS G (S.take i)) :: .gro o1 1 S.length (uI n S) :: .map mid (ks.map (entK (cntV G))) :: (rowsS S ++ L)) := H2.cast (by rw [cellsK_zero hm]; rfl)
 refine key33 (n := n) (y := y) (k := i + 3) hyl hm (by omega) (hlt y ((O.mem y).1 hym)) hrow H3 fun w16 w17 w31 w32 h4 H4 => ?_
 rw [F33.k30]
 rw [H4.loadN (k := 0) rfl (yT (by omega))]
 have hlk := fun op => sLook_map (op := op) hm H4 (k := 3) (id := mid) rfl O hyl
 refine Eq.trans (b := sLook (.agg 128) (I 0) false (.map mid) (encK y) h4 _) rfl ?_
 rw [hlk]
 have e : nS G (S.take (i + 1)) = nS G (S.take i) ++ [cntV G y] := by
  rw [nS, List.take_add_one, hs, List.map_append]; rfl
 refine H4.bslice (l := [cntV G y]) rfl fun tb h5 nx5 H5 => ?_
 refine H5.appN (k := 2) (o := o2) (c := 1) (new := [cntV G y]) rfl (HasArr.rd (l := [cntV G y]) (n := 1) (H5.own _ (List.mem_cons_self ..)) rfl) rfl rfl (by decide) (by decide) (by omega) fun o2' h6 nx6 _ H6 => ?_
 rw [F33.k31, sAdd (by omega)]
 refine hR _ _ _ _ _ _ _ _ _ _ _ _ _ _ (by omega) ⟨i + 1, o2', rfl, rfl, rfl, by omega, ?_⟩
 rw [e]
 exact H6.drop.drop
end Go.Ev
namespace Go.Ev
open Go Go.Proofs
variable {B : Nat}
theorem keys_le {n : Nat} {ks G : List Key} (O : KsOk n ks G) : ks.length ≤ G.length := by
 have h1 := (perm_self ks G O.nd O.mem).length_eq
 rw [← h1, List.length_flatMap]
 have : ∀ l : List Key, (∀ y ∈ l, y ∈ G) → l.length ≤ (l.map fun x => (List.replicate (G.count x) x).length).sum := by
  intro l
  induction l with
  | nil => simp
  | cons a l ih =>
   intro h
   have h2 := ih fun y hy => h y (by simp [hy])
   have h3 : 1 ≤ G.count a := List.count_pos_iff.2 (h a (by simp))
   simp only [List.map_cons, List.sum_cons, List.length_cons, List.length_replicate] at h2 ⊢
   omega
 exact this ks fun y hy => (O.mem y).1 hy
theorem halves33 {cells cut most : Nat} {lines : List (List Int)} (hs : yO cells lines = 0) (hw : ∀ q ∈ lines, q.length ≤ 1000) (hcl : cells ≤ 16) (hmost : most ≤ 9) (hcut : cut ≤ cells) (hpow : ¬ 100000 < (most + 1) ^ cut) :
  Pure Tryz.prog B 33 [.agg [I cells, encT lines], I cut, I most] (· = .tup [.lst 1 (jS lines most cut []).length (kA (jS lines most cut [])), .lst 1 (jS lines most cut []).length (nA (jS lines most cut [])), I 0]) := by
 obtain ⟨k, hk, g1, g2, hm, hasc⟩ := sys_ok hs
 obtain rfl : cells = k := by omega
 have he : halfErr cells lines cut most = 0 := by
  rw [halfErr, hs, if_neg (by omega), if_neg (by omega)]; rfl
 refine uA fun h nx K H0 hK => yQ yW dreg 1000000000 fun hf => ?_
 refine halves33_chk (fun q hq => Nat.le_trans (hw q hq) (by omega)) H0 (fun q => absurd he q) fun _ bx h1 nx1 L H1 => ?_
 rw [F33.k1]
 refine many88 (by omega) hmost _ _ _ _ ?_
 rintro _ rfl _
 rw [decide_eq_false hpow, zB]
 have H1 : Hp h h1 nx1 (.arr bx [I cells, encT lines] :: L) := H1.perm List.perm_append_comm
 rw [H1.loadN (k := 0) (n := 2) rfl rfl]
 refine tally89 (fr := 0) (cells := cells) hm hw (fun l hl => (hasc l hl).2.2) (by omega) (by omega) hcut (by omega) (by rw [Nat.sub_zero]; omega) H1 fun h2 nx2 mid ks G O hp H2 => ?_
 rw [Nat.sub_zero] at hp
 refine H2.range (k := 0) rfl fun it h3 nx3 H3 => ?_
 have hGl : G.length = (most + 1) ^ cut := by rw [hp.length_eq, gV]
 have hkl := keys_le O
 have hlt : ∀ y ∈ G, ∀ v ∈ y, v < 256 := fun y hy => tallyT_lt _ _ _ _ y (hp.mem_iff.1 hy)
 refine F33.lists (n := lines.length) (by decide) rfl hm O (by omega) hlt H3 fun w10 w11 w12 w21 w22 w23 w24 h4 nx4 o S hS H4 => ?_
 have hSl : S.length = ks.length := by have := hS.length_eq; simpa using this
 have hSpos : 0 < S.length := by
  have h1 : 0 < G.length := by rw [hGl]; exact Nat.pow_pos (by omega)
  obtain ⟨y, hy⟩ := List.exists_mem_of_length_pos h1
  have := List.length_pos_of_mem ((O.mem y).2 hy)
  omega
 have hSm : ∀ s ∈ S, s.1 ∈ ks := fun s hs => hS.mem_iff.1 (List.mem_map_of_mem hs)
 have hSlen : ∀ s ∈ S, (zk s.1).length = lines.length := fun s hs => by rw [List.length_map]; exact O.klen _ (hSm s hs)
 have hnd : (S.map (fun s => zk s.1)).Nodup := by
  have := nodup_zk (hS.nodup_iff.2 O.nd)
  rwa [List.map_map] at this
 rw [F33.k16]
 obtain ⟨id, rfl⟩ : ∃ id, o = some id := by
  cases o with
  | none => obtain ⟨_, q⟩ := H4.own (.gro none 1 S.length (uI lines.length S)) (by simp); omega
  | some id => exact ⟨id, rfl⟩
 obtain ⟨S', hSp, hSs⟩ : ∃ S' : List (Key × Pa), S'.Perm S ∧ S'.Pairwise fun a b => ordL (zk a.1) (zk b.1) ≤ 0 := ⟨srtS S, srtS_perm S, srtS_srt S⟩
 refine sort91_gro (ps := S.map (pS lines.length)) (qs := S'.map (pS lines.length)) H4 (k := 0) rfl (by omega) (fun p hp => ?_) (by rw [List.map_map]; exact hnd) (hSp.map _) (by rw [List.pairwise_map]; exact hSs) fun h5 H5 => ?_
 ·obtain ⟨s, hs, rfl⟩ := List.mem_map.1 hp
  obtain ⟨j, hj⟩ := List.mem_iff_getElem?.1 hs
  have hjl := (List.getElem?_eq_some_iff.1 hj).1
  have hrow : (rowsS S ++ L)[j]? = some (.arr s.2 ((zk s.1).map I)) := by
   rw [List.getElem?_append_left (by simpa using hjl), List.getElem?_map, hj]; rfl
  have := H4.rowAt (k := 0) (j := j + 3) rfl hrow (by omega)
  rw [hSlen s hs] at this
  refine ⟨this, ?_⟩
  show (zk s.1).length ≤ _
  rw [hSlen s hs]; omega
 have hlen : S.length = S'.length := hSp.length_eq.symm
 have H6 : Hp h h5 nx4 (.gro (some id) 1 S'.length (uI lines.length S') :: .map mid (ks.map (entK (cntV G))) :: (rowsS S' ++ (.arr bx [I cells, encT lines] :: L))) := by
  have H7 : Hp h h5 nx4 (.gro (some id) 1 S.length (uI lines.length S') :: .map mid (ks.map (entK (cntV G))) :: .arr bx [I cells, encT lines] :: (rowsS S ++ L)) := H5
  rw [hlen] at H7
  exact H7.perm ((((List.perm_middle (l₁ := rowsS S)).symm.trans ((hSp.symm.map _).append_right _)).cons _).cons _)
 simp only [rowV, zL]
 show IR.run F33.b17 _ _ _ _ (F33.fr _ _ _ _ _ _ _ _ _ _ _ _ _ _ _ _ _ _ _ _ _ _ _ _ _ (rowV (some id) 1 S.length) (I S.length) _ _ _ _ _ _) _ _ = _
 rw [hlen]
 refine F33.counts (n := lines.length) (G := G) (by decide) hm O (by omega) (fun s hs => hSm s (hSp.mem_iff.1 hs)) hlt H6 fun w14 w15 w16 w17 w28 w29 w30 w31 w32 h8 nx8 o2 H8 => ?_
 rw [F33.k32]
 have hA : (S'.map (pS lines.length)).map (fun p => (p.2, (G.map zk).count p.2)) = jS lines most cut [] := by
  refine sorted_tab (by rw [List.pairwise_map]; exact hSs) (by rw [List.map_map]; exact (hSp.map (fun s => zk s.1)).nodup_iff.2 hnd) (fun l => ?_) (refHL_tab lines most cut []) ((hp.map zk).trans (.of_eq (tally_all hasc hcl hmost)))
  rw [List.map_map, List.mem_map, List.mem_map]
  constructor
  ·rintro ⟨s, hs, rfl⟩
   exact ⟨s.1, (O.mem _).1 (hSm s (hSp.mem_iff.1 hs)), rfl⟩
  ·rintro ⟨y, hy, rfl⟩
   have := hS.mem_iff.2 ((O.mem y).2 hy)
   obtain ⟨s, hs, rfl⟩ := List.mem_map.1 this
   exact ⟨s, hSp.mem_iff.2 hs, rfl⟩
 have hAl : (jS lines most cut []).length = S'.length := by rw [← hA]; simp
 have hAk : kA (jS lines most cut []) = S'.map fun s => encI (zk s.1) := by rw [← hA, kA, List.map_map, List.map_map]; rfl
 have hAn : nA (jS lines most cut []) = nS G S' := by
  rw [← hA, nA, List.map_map, List.map_map]
  refine List.map_congr_left fun s _ => ?_
  show I (((G.map zk).count (zk s.1) : Nat) : Int) = _
  rw [count_zk]; rfl
 rw [hAl, hAk, hAn] at hK
 refine hK _ _ _ _ _ H8 (frz_tup3 (frzGroC H8 (k := 1) rfl (by simp) (List.all_eq_true.2 fun v hv => ?_) fun i v v' h1 h2 => ?_) (H8.frzGro (k := 0) rfl fun v hv => ?_) (jD rfl)) rfl
 ·obtain ⟨s, _, rfl⟩ := List.mem_map.1 hv; rfl
 ·rw [List.getElem?_map] at h2
  rw [List.getElem?_map, List.getElem?_map] at h1
  cases hs : S'[i]? with
  | none => rw [hs] at h2; cases h2
  | some s =>
   rw [hs] at h1 h2
   cases h1; cases h2
   have hil := (List.getElem?_eq_some_iff.1 hs).1
   have hrow : (rowsS S' ++ (.map mid (ks.map (entK (cntV G))) :: .arr bx [I cells, encT lines] :: L))[i]? = some (.arr s.2 ((zk s.1).map I)) := by
    rw [List.getElem?_append_left (by simpa using hil), List.getElem?_map, hs]; rfl
   have hl := hSlen s (hSp.mem_iff.1 (List.mem_of_getElem? hs))
   have := H8.frzArr (k := i + 2) (n := lines.length) (e := 1) (cap := some lines.length) hrow (Nat.le_refl _) (by rw [List.length_map, hl]; omega) (fun v hv => by obtain ⟨x, _, rfl⟩ := List.mem_map.1 hv; rfl)
   show FrzN _ _ _ (AV.lst 1 _ _)
   rw [hl]; exact this
 ·obtain ⟨s, _, rfl⟩ := List.mem_map.1 hv; rfl
end Go.Ev
namespace Go.Ev
open Go Go.Proofs
variable {B : Nat}
def fitZ (p q : List Int) (s : Int) (z : Nat) : Bool := (List.range z).all fun t => decide (p.getD t 0 + q.getD t 0 = s)
theorem fitZ_succ (p q : List Int) (s : Int) (z : Nat) : fitZ p q s (z + 1) = (fitZ p q s z && decide (p.getD z 0 + q.getD z 0 = s)) := by
 rw [fitZ, List.range_succ, List.all_append]; simp [fitZ]
theorem fitZ_false {p q : List Int} {s : Int} {z : Nat} (h : fitZ p q s z = false) : ∀ n, z ≤ n → fitZ p q s n = false := by
 intro n hn
 induction n with
 | zero =>
  obtain rfl : z = 0 := by omega
  exact h
 | succ n ih =>
  by_cases c : z = n + 1
  ·rw [← c]; exact h
  ·rw [fitZ_succ, ih (by omega)]; rfl
abbrev tP (A : List (List Int × Nat)) : List (List Int) := A.map (·.1)
abbrev tN (A : List (List Int × Nat)) : List Int := A.map fun p => (p.2 : Int)
def tmZ (s : Int) (n : Nat) (p q : List Int × Nat) : Nat := if fitZ p.1 q.1 s n = true then p.2 * q.2 else 0
def OkT (A : List (List Int × Nat)) (n : Nat) : Prop := ∀ p ∈ A, p.1.length = n ∧ (∀ v ∈ p.1, 0 ≤ v ∧ v ≤ 1000000) ∧ p.2 ≤ 100000
theorem tP_get {A : List (List Int × Nat)} {i : Nat} {p : List Int × Nat} (h : A[i]? = some p) : (tP A)[i]? = some p.1 := by rw [List.getElem?_map, h]; rfl
theorem tN_get {A : List (List Int × Nat)} {i : Nat} {p : List Int × Nat} (h : A[i]? = some p) : (tN A)[i]? = some (p.2 : Int) := by rw [List.getElem?_map, h]; rfl
theorem getDI {l : List Int} {i : Nat} (h : i < l.length) : l[i]? = some (l.getD i 0) := by
 rw [List.getD_eq_getElem?_getD, List.getElem?_eq_getElem h]; rfl
theorem tmZ_le {s : Int} {n : Nat} {A C : List (List Int × Nat)} (hA : OkT A n) (hC : OkT C n) {p q : List Int × Nat} (hp : p ∈ A) (hq : q ∈ C) : tmZ s n p q ≤ 10000000000 := by
 unfold tmZ
 split
 ·exact Nat.mul_le_mul (hA p hp).2.2 (hC q hq).2.2
 ·omega
theorem sumLe {α : Type} {F : α → Nat} {M : Nat} : ∀ (l : List α), (∀ x ∈ l, F x ≤ M) → (l.map F).sum ≤ l.length * M
 | [], _ => by simp
 | a :: l, h => by
  have h1 := h a (by simp)
  have h2 := sumLe l fun x hx => h x (by simp [hx])
  rw [List.map_cons, List.sum_cons, List.length_cons, Nat.add_mul]; omega
theorem F9.fit {N : Nat} {K0 : Kw Prop} {E2 E3 E4 E5 K : Ks Prop} {h0 h : T Blk} {nx : Pa} {L : List Ob} {x0 x1 x2 x4 x6 x7 x8 x9 x10 x11 x12 x14 x15 x16 x17 x19 x20 x21 x26 x27 x28 x29 x30 x31 x32 x33 x34 : AV} {bx : Pa} {cells s : Int} {lines : List (List Int)} {A C : List (List Int × Nat)} {p q : List Int × Nat} {i j k : Nat}
  (hN : 1000 < N) (hm : lines.length ≤ 300) (H : Hp h0 h nx L) (hk : L[k]? = some (.arr bx [I cells, encT lines])) (hA : OkT A lines.length) (hC : OkT C lines.length) (hi : A[i]? = some p) (hj : C[j]? = some q)
  (hK : ∀ x25 x33, K (F9.fr x0 x1 x2 (.ptr bx 0) x4 (I s) x6 x7 x8 x9 x10 x11 x12 (encT (tP A)) x14 x15 x16 x17 (encT (tP C)) x19 x20 x21 (I i) (I j) (.bool (fitZ p.1 q.1 s lines.length)) x25 x26 x27 x28 x29 x30 x31 x32 x33 x34) h nx = .ok True) :
  IR.run F9.b25 (CS Tryz.prog B) N (((((fnO F9.res K0).blk 2 E2).blk 3 E3).blk 4 E4).blk 5 E5) K (F9.fr x0 x1 x2 (.ptr bx 0) x4 (I s) x6 x7 x8 x9 x10 x11 x12 (encT (tP A)) x14 x15 x16 x17 (encT (tP C)) x19 x20 x21 (I i) (I j) (.bool true) (I 0) x26 x27 x28 x29 x30 x31 x32 x33 x34) h nx = .ok True := by
 have hil : i < (tP A).length := by rw [List.length_map]; exact (List.getElem?_eq_some_iff.1 hi).1
 have hjl : j < (tP C).length := by rw [List.length_map]; exact (List.getElem?_eq_some_iff.1 hj).1
 obtain ⟨p1, p2, _⟩ := hA p (List.mem_of_getElem? hi)
 obtain ⟨q1, q2, _⟩ := hC q (List.mem_of_getElem? hj)
 refine F9.L25 (fun m x24 x25 h' nx' => ∃ z : Nat, x25 = I z ∧ x24 = .bool (fitZ p.1 q.1 s z) ∧ lines.length - z = m ∧ z ≤ lines.length ∧ h' = h ∧ nx' = nx) (m := lines.length) (by omega) ⟨0, rfl, rfl, rfl, by omega, rfl, rfl⟩ ?_
 rintro m z24 z25 z33 h nx R ⟨z, rfl, rfl, rfl, hz, rfl, rfl⟩ hR
 cases hb : fitZ p.1 q.1 s z with
 | false =>
  simp only [yB, zG, zB]
  rw [fitZ_false hb _ hz] at hK
  exact hK _ _
 | true =>
  simp only [zX, sFx]
  rw [H.load (k := k) (i := 0 + 1) hk rfl]
  simp only [zF, sLss, zH]
  by_cases hlt : z < lines.length
  case neg =>
   simp only [show ¬ (z : Int) < (lines.length : Int) by omega, decide_false, zB]
   obtain rfl : z = lines.length := by omega
   rw [hb] at hK
   exact hK _ _
  simp only [show (z : Int) < (lines.length : Int) by omega, decide_true, zA]
  have g1 := getDI (l := p.1) (i := z) (by omega)
  have g2 := getDI (l := q.1) (i := z) (by omega)
  have b1 := p2 _ (List.mem_of_getElem? g1)
  have b2 := q2 _ (List.mem_of_getElem? g2)
  rw [F9.k28, sIxL rfl hil, ldL (getT (tP_get hi)), sIxL rfl (show z < p.1.length by omega), ldL (getI g1), sIxL rfl hjl, ldL (getT (tP_get hj)), sIxL rfl (show z < q.1.length by omega), ldL (getI g2), sAdd (by omega)]
  simp only [sEql]
  rw [sAdd (by omega)]
  refine hR _ _ _ _ _ _ (by omega) ⟨z + 1, rfl, by rw [fitZ_succ, hb, Bool.true_and], rfl, by omega, rfl, rfl⟩
theorem F9.cols {N : Nat} {K0 : Kw Prop} {E2 E3 K : Ks Prop} {h0 h : T Blk} {nx : Pa} {L : List Ob} {x0 x1 x2 x4 x6 x7 x8 x9 x10 x11 x12 x15 x16 x17 x20 x24 x25 x26 x27 x28 x29 x30 x31 x32 x33 x34 : AV} {bx : Pa} {cells s : Int} {lines : List (List Int)} {A C : List (List Int × Nat)} {p : List Int × Nat} {i k t0 : Nat}
  (hN : 1000 < N) (hm : lines.length ≤ 300) (H : Hp h0 h nx L) (hk : L[k]? = some (.arr bx [I cells, encT lines])) (hA : OkT A lines.length) (hC : OkT C lines.length) (hi : A[i]? = some p) (hCl : C.length ≤ 300) (ht : t0 ≤ 1000000000000000)
  (hK : ∀ x23 x24 x25 x32 x33 x34, K (F9.fr x0 x1 x2 (.ptr bx 0) x4 (I s) x6 x7 x8 x9 x10 x11 x12 (encT (tP A)) (encI (tN A)) x15 x16 x17 (encT (tP C)) (encI (tN C)) x20 (I ((t0 + (C.map (tmZ s lines.length p)).sum : Nat) : Int)) (I i) x23 x24 x25 x26 x27 x28 x29 x30 x31 x32 x33 x34) h nx = .ok True) :
  IR.run F9.b19 (CS Tryz.prog B) N (((fnO F9.res K0).blk 2 E2).blk 3 E3) K (F9.fr x0 x1 x2 (.ptr bx 0) x4 (I s) x6 x7 x8 x9 x10 x11 x12 (encT (tP A)) (encI (tN A)) x15 x16 x17 (encT (tP C)) (encI (tN C)) x20 (I (t0 : Int)) (I i) (I 0) x24 x25 x26 x27 x28 x29 x30 x31 x32 x33 x34) h nx = .ok True := by
 have hil : i < (tP A).length := by rw [List.length_map]; exact (List.getElem?_eq_some_iff.1 hi).1
 have hil2 : i < (tN A).length := by rw [List.length_map]; exact (List.getElem?_eq_some_iff.1 hi).1
 have hpm := List.mem_of_getElem? hi
 obtain ⟨p1, p2, p3⟩ := hA p hpm
 refine F9.L19 (fun m x21 x23 h' nx' => ∃ j : Nat, x23 = I j ∧ x21 = I ((t0 + ((C.take j).map (tmZ s lines.length p)).sum : Nat) : Int) ∧ C.length - j = m ∧ j ≤ C.length ∧ h' = h ∧ nx' = nx) (m := C.length) (by omega) ⟨0, rfl, rfl, rfl, by omega, rfl, rfl⟩ ?_
 rintro m z21 z23 z24 z25 z32 z33 z34 h nx R ⟨j, rfl, rfl, rfl, hj, rfl, rfl⟩ hR
 simp only [zF, sLss, List.length_map]
 by_cases hlt : j < C.length
 case neg =>
  simp only [show ¬ (j : Int) < (C.length : Int) by omega, decide_false, zB]
  rw [List.take_of_length_le (by omega)]
  exact hK _ _ _ _ _ _
 simp only [show (j : Int) < (C.length : Int) by omega, decide_true, zA]
 obtain ⟨q, hq⟩ : ∃ q, C[j]? = some q := ⟨_, List.getElem?_eq_getElem hlt⟩
 have hqm := List.mem_of_getElem? hq
 obtain ⟨q1, q2, q3⟩ := hC q hqm
 have hjl : j < (tP C).length := by rw [List.length_map]; exact hlt
 have hjl2 : j < (tN C).length := by rw [List.length_map]; exact hlt
 have hstep : ((C.take (j + 1)).map (tmZ s lines.length p)).sum = ((C.take j).map (tmZ s lines.length p)).sum + tmZ s lines.length p q := by
  rw [List.take_add_one, hq, List.map_append, List.sum_append]; simp
 have hb1 := sumLe (F := tmZ s lines.length p) (C.take j) fun x hx => tmZ_le hA hC hpm (List.mem_of_mem_take hx)
 have hb2 : (C.take j).length * 10000000000 ≤ 300 * 10000000000 := Nat.mul_le_mul_right _ (by rw [List.length_take]; omega)
 rw [sIxL rfl hil, ldL (getT (tP_get hi))]
 simp only [zF, sFx]
 rw [H.load (k := k) (i := 0 + 1) hk rfl]
 simp only [zF, sEql, p1, decide_true, zX]
 rw [sIxL rfl hjl, ldL (getT (tP_get hq))]
 simp only [zF, sFx]
 rw [H.load (k := k) (i := 0 + 1) hk rfl]
 simp only [zF, sEql, q1, decide_true, zH]
 refine F9.fit (s := s) hN hm H hk hA hC hi hq fun x25 x33 => ?_
 rw [F9.k32]
 cases hf : fitZ p.1 q.1 s lines.length with
 | false =>
  have e : tmZ s lines.length p q = 0 := by rw [tmZ, hf, if_neg (by simp)]
  rw [zB, F9.k33, sAdd (by omega)]
  refine hR _ _ _ _ _ _ _ _ _ _ (by omega) ⟨j + 1, rfl, by rw [hstep, e]; rfl, rfl, by omega, rfl, rfl⟩
 | true =>
  have e : tmZ s lines.length p q = p.2 * q.2 := by rw [tmZ, hf, if_pos rfl]
  have hle := tmZ_le (s := s) hA hC hpm hqm
  have hcm : ((p.2 : Int) * (q.2 : Int)) = ((tmZ s lines.length p q : Nat) : Int) := by rw [e, Int.natCast_mul]
  rw [zA, sIxL rfl hil2, ldL (getI (tN_get hi)), sIxL rfl hjl2, ldL (getI (tN_get hq)), sMul (by omega), hcm, sAdd (by omega), F9.k33, sAdd (by omega)]
  refine hR _ _ _ _ _ _ _ _ _ _ (by omega) ⟨j + 1, rfl, by rw [hstep]; congr 1; omega, rfl, by omega, rfl, rfl⟩
theorem F9.rows {N : Nat} {K0 : Kw Prop} {K : Ks Prop} {h0 h : T Blk} {nx : Pa} {L : List Ob} {x0 x1 x2 x4 x6 x7 x8 x9 x10 x11 x12 x15 x16 x17 x20 x23 x24 x25 x26 x27 x28 x29 x30 x31 x32 x33 x34 : AV} {bx : Pa} {cells s : Int} {lines : List (List Int)} {A C : List (List Int × Nat)} {k : Nat}
  (hN : 1000 < N) (hm : lines.length ≤ 300) (H : Hp h0 h nx L) (hk : L[k]? = some (.arr bx [I cells, encT lines])) (hA : OkT A lines.length) (hC : OkT C lines.length) (hAl : A.length ≤ 100) (hCl : C.length ≤ 300)
  (hK : ∀ x22 x23 x24 x25 x31 x32 x33 x34, K (F9.fr x0 x1 x2 (.ptr bx 0) x4 (I s) x6 x7 x8 x9 x10 x11 x12 (encT (tP A)) (encI (tN A)) x15 x16 x17 (encT (tP C)) (encI (tN C)) x20 (I (((A.map fun p => (C.map (tmZ s lines.length p)).sum).sum : Nat) : Int)) x22 x23 x24 x25 x26 x27 x28 x29 x30 x31 x32 x33 x34) h nx = .ok True) :
  IR.run F9.b13 (CS Tryz.prog B) N (fnO F9.res K0) K (F9.fr x0 x1 x2 (.ptr bx 0) x4 (I s) x6 x7 x8 x9 x10 x11 x12 (encT (tP A)) (encI (tN A)) x15 x16 x17 (encT (tP C)) (encI (tN C)) x20 (I 0) (I 0) x23 x24 x25 x26 x27 x28 x29 x30 x31 x32 x33 x34) h nx = .ok True := by
 refine F9.L13 (fun m x21 x22 h' nx' => ∃ i : Nat, x22 = I i ∧ x21 = I ((((A.take i).map fun p => (C.map (tmZ s lines.length p)).sum).sum : Nat) : Int) ∧ A.length - i = m ∧ i ≤ A.length ∧ h' = h ∧ nx' = nx) (m := A.length) (by omega) ⟨0, rfl, rfl, rfl, by omega, rfl, rfl⟩ ?_
 rintro m z21 z22 z23 z24 z25 z31 z32 z33 z34 h nx R ⟨i, rfl, rfl, rfl, hi, rfl, rfl⟩ hR
 simp only [zF, sLss, List.length_map]
 by_cases hlt : i < A.length
 case neg =>
  simp only [show ¬ (i : Int) < (A.length : Int) by omega, decide_false, zB]
  rw [List.take_of_length_le (by omega)]
  exact hK _ _ _ _ _ _ _ _
 simp only [show (i : Int) < (A.length : Int) by omega, decide_true, zA]
 obtain ⟨p, hp⟩ : ∃ q, A[i]? = some q := ⟨_, List.getElem?_eq_getElem hlt⟩
 have hcol : ∀ p ∈ A, (C.map (tmZ s lines.length p)).sum ≤ 300 * 10000000000 := fun p hp =>
  Nat.le_trans (sumLe C fun x hx => tmZ_le hA hC hp hx) (Nat.mul_le_mul_right _ hCl)
 have hb1 := sumLe (F := fun p => (C.map (tmZ s lines.length p)).sum) (A.take i) fun x hx => hcol x (List.mem_of_mem_take hx)
 have hb2 : (A.take i).length * (300 * 10000000000) ≤ 100 * (300 * 10000000000) := Nat.mul_le_mul_right _ (by rw [List.length_take]; omega)
 refine F9.cols (p := p) (s := s) hN hm H hk hA hC hp hCl (by omega) fun x23 x24 x25 x32 x33 x34 => ?_
 rw [F9.k34, sAdd (by omega)]
 refine hR _ _ _ _ _ _ _ _ _ _ _ _ (by omega) ⟨i + 1, rfl, ?_, rfl, by omega, rfl, rfl⟩
 rw [List.take_add_one, hp, List.map_append, List.sum_append]; simp
theorem tab_sum {A : List (List Int × Nat)} {M : List (List Int)} (T : Tab A M) (F : List Int → Nat) : (A.map fun p => p.2 * F p.1).sum = (M.map F).sum := by
 rw [← psum F T.flat, sum_flatMap]
 refine jO fun p _ => ?_
 rw [List.map_replicate, List.sum_replicate_nat]
theorem shr_getD {lines : List (List Int)} {f : List Nat} {z : Nat} (h : z < lines.length) : (shr lines f).getD z 0 = ((con 0 f (lines.getD z []) : Nat) : Int) := by
 rw [shr, List.getD_eq_getElem?_getD, List.getElem?_map, List.getElem?_eq_getElem h, List.getD_eq_getElem?_getD, List.getElem?_eq_getElem h]; rfl
theorem fit_shr {n : Nat} {lines : List (List Int)} {to : List Int} {f g : List Nat} {s : Nat} : fitZ (shr lines f) (shr (lines.map (zY n to)) g) s lines.length = lines.all fun l => decide (con 0 f l + con 0 g (zY n to l) = s) := by
 rw [fitZ, Bool.eq_iff_iff, List.all_eq_true, List.all_eq_true]
 constructor
 ·intro h l hm
  obtain ⟨z, hz⟩ := List.mem_iff_getElem?.1 hm
  have hzl := (List.getElem?_eq_some_iff.1 hz).1
  have := h z (List.mem_range.2 hzl)
  rw [shr_getD hzl, shr_getD (by simpa using hzl)] at this
  rw [List.getD_eq_getElem?_getD, hz, List.getD_eq_getElem?_getD, List.getElem?_map, hz] at this
  have := of_decide_eq_true this
  refine decide_eq_true ?_
  have e : ((con 0 f l : Nat) : Int) + ((con 0 g (zY n to l) : Nat) : Int) = (s : Int) := this
  omega
 ·intro h z hz
  have hzl := List.mem_range.1 hz
  have hg : lines[z]? = some lines[z] := List.getElem?_eq_getElem hzl
  have := of_decide_eq_true (h _ (List.getElem_mem hzl))
  rw [shr_getD hzl, shr_getD (by simpa using hzl)]
  rw [List.getD_eq_getElem?_getD, hg, List.getD_eq_getElem?_getD, List.getElem?_map, hg]
  refine decide_eq_true ?_
  show ((con 0 f lines[z] : Nat) : Int) + ((con 0 g (zY n to lines[z]) : Nat) : Int) = (s : Int)
  omega
theorem meets_tab {n cut most : Nat} {lines : List (List Int)} {s : Nat} (hl : ∀ l ∈ lines, AscL n l) (hc : cut ≤ n) :
  ((jS lines most cut []).map fun p => ((jS (lines.map (zY n (jN n))) most (n - cut) []).map (tmZ s lines.length p)).sum).sum = refB lines most (s : Int) n [] := by
 rw [← meets_fill hl hc]
 have e1 : ∀ p : List Int × Nat, ((jS (lines.map (zY n (jN n))) most (n - cut) []).map (tmZ s lines.length p)).sum = p.2 * ((fill most (n - cut)).map fun g => if fitZ p.1 (shr (lines.map (zY n (jN n))) g) s lines.length = true then 1 else 0).sum := by
  intro p
  have h1 := tab_sum (refHL_tab (lines.map (zY n (jN n))) most (n - cut) []) fun y => if fitZ p.1 y s lines.length = true then 1 else 0
  rw [allH, List.map_map] at h1
  have h2 : ((fill most (n - cut)).map fun g => if fitZ p.1 (shr (lines.map (zY n (jN n))) g) s lines.length = true then 1 else 0).sum = ((jS (lines.map (zY n (jN n))) most (n - cut) []).map fun q => q.2 * if fitZ p.1 q.1 s lines.length = true then 1 else 0).sum := h1.symm
  rw [h2]
  have h3 : ∀ l : List (List Int × Nat), (l.map (tmZ s lines.length p)).sum = p.2 * (l.map fun q => q.2 * if fitZ p.1 q.1 s lines.length = true then 1 else 0).sum := by
   intro l
   induction l with
   | nil => simp
   | cons q l ih =>
    rw [List.map_cons, List.sum_cons, List.map_cons, List.sum_cons, ih, Nat.mul_add]
    congr 1
    unfold tmZ
    split <;> simp
  exact h3 _
 rw [jO fun p _ => e1 p]
 have h1 := tab_sum (refHL_tab lines most cut []) fun y => ((fill most (n - cut)).map fun g => if fitZ y (shr (lines.map (zY n (jN n))) g) s lines.length = true then 1 else 0).sum
 rw [allH, List.map_map] at h1
 refine h1.trans (jO fun f _ => jO fun g _ => ?_)
 simp only [List.nil_append, fit_shr]
end Go.Ev
namespace Go.Ev
open Go Go.Proofs
variable {B : Nat}
end Go.Ev
namespace Go.Ev
open Go Go.Proofs
variable {B : Nat}
theorem gW_tf (op : KW3 → OP) (h : T Blk) (nx : Pa) (k : KW3) : sGW (.bool true) false op h nx k = k .undef h nx := nr rfl
theorem gW_ff (op : KW3 → OP) (h : T Blk) (nx : Pa) (k : KW3) : sGW (.bool false) false op h nx k = op k := nr rfl
theorem gW_tt (op : KW3 → OP) (h : T Blk) (nx : Pa) (k : KW3) : sGW (.bool true) true op h nx k = op k := nr rfl
theorem gW_ft (op : KW3 → OP) (h : T Blk) (nx : Pa) (k : KW3) : sGW (.bool false) true op h nx k = k .undef h nx := nr rfl
theorem few44 {cells a b : Int} {lines : List (List Int)} (ha : a ≤ 1000) (hb : b ≤ 1000000) : Pure Tryz.prog B 44 [.agg [I cells, encT lines], I a, I b] (· = .bool (decide (((lines.length : Int) ≤ b ∧ ∀ l ∈ lines, (l.length : Int) ≤ a) ∧ yO cells lines = 0 ∧ cells ≤ a))) := by
 refine uA fun h nx K H0 hK => yQ yW dreg 1000 fun hf => ?_
 rw [F44.go]
 refine H0.box (l := [I cells, encT lines]) rfl fun bx h1 nx1 H1 => ?_
 rw [H1.loadN (k := 0) (n := 2) rfl rfl]
 refine short25 hb _ _ _ _ ?_
 rintro _ rfl _
 have ret : ∀ b', b' = decide (((lines.length : Int) ≤ b ∧ ∀ l ∈ lines, (l.length : Int) ≤ a) ∧ yO cells lines = 0 ∧ cells ≤ a) → K (.bool b') h1 nx1 = .ok True := fun b' hb' => hK _ _ _ _ _ H1 (jD rfl) (by rw [hb'])
 by_cases hsh : (lines.length : Int) ≤ b ∧ ∀ l ∈ lines, (l.length : Int) ≤ a
 case neg =>
  rw [decide_eq_false hsh]
  simp only [yB, gW_ft, zG]
  exact ret _ (by simp [hsh])
 rw [decide_eq_true hsh]
 have hw : ∀ q ∈ lines, q.length ≤ 1000000 := fun q hq => by have := hsh.2 q hq; omega
 simp only [zX, gW_tt]
 rw [H1.loadN (k := 0) (n := 2) rfl rfl]
 refine sysErr27 hw _ _ _ _ ?_
 rintro _ rfl _
 simp only [sEql, zH]
 by_cases hs : yO cells lines = 0
 case neg =>
  simp only [hs, decide_false, yB, zG]
  exact ret _ (by simp [hs])
 simp only [hs, decide_true, zX, sFx]
 rw [H1.load (k := 0) (i := 0) rfl rfl]
 simp only [sLeq, zH]
 exact ret _ (decide_eq_decide.2 ⟨fun q => ⟨hsh, hs, q⟩, fun q => q.2.2⟩)
def PermL (l : List Int) : Prop := l.Nodup ∧ ∀ x ∈ l, 0 ≤ x ∧ x < (l.length : Int)
def hadL (n : Nat) (l : List Int) : List Bool := l.foldl (fun s x => s.set x.toNat true) (List.replicate n false)
theorem had_fold : ∀ (l : List Int) (s : List Bool) (k : Nat), (∀ x ∈ l, 0 ≤ x) → k < s.length → (l.foldl (fun s x => s.set x.toNat true) s)[k]? = some (s.getD k false || decide ((k : Int) ∈ l))
 | [], s, k, _, h => by
  rw [List.foldl_nil, List.getElem?_eq_getElem h, List.getD_eq_getElem?_getD, List.getElem?_eq_getElem h]; simp
 | x :: l, s, k, hl, h => by
  rw [List.foldl_cons, had_fold l _ k (fun y hy => hl y (List.mem_cons_of_mem _ hy)) (by simpa using h)]
  have h0 := hl x (List.mem_cons_self ..)
  congr 1
  rw [List.getD_eq_getElem?_getD, List.getD_eq_getElem?_getD, List.getElem?_set]
  by_cases e : x.toNat = k
  ·have : (k : Int) = x := by omega
   rw [if_pos e, if_pos (by omega)]
   simp [this]
  ·have : ¬ (k : Int) = x := by omega
   rw [if_neg e]
   simp [this]
theorem hadL_length (n : Nat) (l : List Int) : (hadL n l).length = n := by
 have : ∀ (l : List Int) (s : List Bool), (l.foldl (fun s x => s.set x.toNat true) s).length = s.length := by
  intro l
  induction l with
  | nil => intro s; rfl
  | cons x l ih => intro s; rw [List.foldl_cons, ih]; simp
 rw [hadL, this]; simp
theorem hadL_get {n : Nat} {l : List Int} {k : Nat} (hl : ∀ x ∈ l, 0 ≤ x) (hk : k < n) : (hadL n l)[k]? = some (decide ((k : Int) ∈ l)) := by
 rw [hadL, had_fold l _ k hl (by simpa using hk)]
 congr 1
 rw [List.getD_eq_getElem?_getD, List.getElem?_replicate, if_pos hk]; simp
theorem hadL_snoc (n : Nat) (l : List Int) (x : Int) : hadL n (l ++ [x]) = (hadL n l).set x.toNat true := by simp [hadL]
theorem perm45 {l : List Int} (hl : l.length ≤ 100000) : Pure Tryz.prog B 45 [encI l] (fun v => ∃ e, v = I e ∧ (e = 0 → PermL l)) := by
 refine uA fun h nx K H0 hK => yQ yW dreg 1000000 fun hf => ?_
 rw [F45.go]
 simp only [zF, sGtr]
 by_cases c : (256 : Int) < (l.length : Int)
 ·simp only [c, decide_true, zA]
  exact hK _ _ _ _ _ H0 (jD rfl) ⟨5, rfl, by omega⟩
 simp only [c, decide_false, zB]
 refine H0.mk1 l.length rfl rfl (by omega) (by decide) fun tb h1 nx1 H1 => ?_
 have e0 : List.replicate l.length (AV.bool false) = (hadL l.length []).map AV.bool := by simp [hadL]
 rw [e0] at H1
 refine F45.L2 (fun m x3 h' nx' => ∃ i : Nat, x3 = I i ∧ m = l.length - i ∧ i ≤ l.length ∧ (l.take i).Nodup ∧ (∀ x ∈ l.take i, 0 ≤ x ∧ x < (l.length : Int)) ∧ Hp h h' nx' [.arr tb ((hadL l.length (l.take i)).map AV.bool)]) (m := l.length) (by omega)
  ⟨0, rfl, by omega, by omega, by simp, by simp, by simpa using H1⟩ ?_
 rintro m x1 x3 x5 x6 h2 nx2 R ⟨i, rfl, rfl, hi, hnd, hrg, H2⟩ hR
 simp only [zF, sLss]
 by_cases hlt : i < l.length
 case neg =>
  simp only [show ¬ (i : Int) < (l.length : Int) by omega, decide_false, zB]
  rw [F45.k10]
  rw [List.take_of_length_le (by omega)] at hnd hrg
  exact hK _ _ _ _ _ H2 (jD rfl) ⟨0, rfl, fun _ => ⟨hnd, hrg⟩⟩
 simp only [show (i : Int) < (l.length : Int) by omega, decide_true, zA]
 have hx : l[i]? = some l[i] := List.getElem?_eq_getElem hlt
 have bad : K (I 14) h2 nx2 = .ok True := hK _ _ _ _ _ H2 (jD rfl) ⟨14, rfl, by omega⟩
 rw [sIxL rfl hlt, ldL (getI hx)]
 by_cases c1 : l[i] < 0
 ·simp only [sLss, c1, decide_true, zV, zH, zA]
  exact bad
 simp only [sLss, c1, decide_false, zO]
 rw [sIxL rfl hlt, ldL (getI hx)]
 simp only [zF, sGeq, zG]
 by_cases c2 : (l.length : Int) ≤ l[i]
 ·simp only [c2, decide_true, zV, zH, zA]
  exact bad
 simp only [c2, decide_false, zO]
 have hk : (l[i]).toNat < l.length := by omega
 have hg := hadL_get (n := l.length) (fun x hx => (hrg x hx).1) hk
 rw [show (((l[i]).toNat : Nat) : Int) = l[i] by omega] at hg
 have hgv : ((hadL l.length (l.take i)).map AV.bool)[(l[i]).toNat]? = some (.bool (decide (l[i] ∈ l.take i))) := by rw [List.getElem?_map, hg]; rfl
 rw [sIxL rfl hlt, ldL (getI hx), sIx (i := (l[i]).toNat) (by omega) hk, H2.load (k := 0) rfl hgv]
 simp only [zG]
 by_cases c3 : l[i] ∈ l.take i
 ·simp only [c3, decide_true, zA]
  exact bad
 simp only [c3, decide_false, zB]
 rw [F45.k8, sIxL rfl hlt, ldL (getI hx), sIx (i := (l[i]).toNat) (by omega) hk]
 refine H2.store (k := 0) rfl (by rw [List.length_map, hadL_length]; exact hk) rfl fun h3 H3 => ?_
 rw [F45.k9, sAdd (by omega)]
 have htk : l.take (i + 1) = l.take i ++ [l[i]] := by rw [List.take_add_one, hx]; rfl
 refine hR _ _ _ _ _ _ _ (by omega) ⟨i + 1, rfl, rfl, by omega, ?_, ?_, H3.cast ?_⟩
 ·rw [htk]
  exact List.nodup_append.2 ⟨hnd, by simp, fun a ha b hb => by simp at hb; subst hb; rintro rfl; exact c3 ha⟩
 ·intro x hm
  rw [htk] at hm
  rcases List.mem_append.1 hm with q | q
  ·exact hrg x q
  ·simp at q; subst q; omega
 ·rw [htk, hadL_snoc]
  simp [List.map_set]
end Go.Ev
namespace Go.Ev
open Go Go.Proofs
variable {B : Nat}
theorem bounded31_all {lines : List (List Int)} {cells most : Nat} {s : Int} (hs : yO cells lines = 0) (hcl : cells ≤ 16) (hmost : most ≤ 9) (hw : ∀ q ∈ lines, q.length ≤ 1000) (hpow : ¬ 100000 < (most + 1) ^ (cells - cells / 2)) :
  Pure Tryz.prog B 31 [.agg [I cells, encT lines], I most, I s] (· = .tup [I (refB lines most s cells [] : Nat), I 0]) := by
 obtain ⟨n, hn, h1, h2, h3, h4⟩ := sys_ok hs
 obtain rfl : cells = n := by omega
 have e : (if 0 < lines.length ∧ (s < 0 ∨ 255 < s) then (0 : Int) else ((bsum lines most s.toNat (cells / 2) cells : Nat) : Int)) = ((refB lines most s cells [] : Nat) : Int) := by
  by_cases hz : 0 < lines.length ∧ (s < 0 ∨ 255 < s)
  ·rw [if_pos hz, none_fill h4 hcl hmost hz.1 hz.2]; rfl
  ·rw [if_neg hz]
   congr 1
   have := meet_fill (half := cells / 2) (sum := s.toNat) h4 hcl hmost (by omega)
   have e2 : bsum lines most s.toNat (cells / 2) cells = refB lines most (s.toNat : Int) cells [] := this
   rw [e2]
   by_cases h0 : 0 < lines.length
   ·rw [show ((s.toNat : Nat) : Int) = s by omega]
   ·obtain rfl : lines = [] := List.eq_nil_of_length_eq_zero (by omega)
    exact refB_nolines _ _
 rw [← e]
 refine bounded31 h3 hw (fun l hl => (h4 l hl).2.2) hcl hmost (by omega) ?_ ?_
 ·have : bndErr cells lines most = 0 := by
   rw [bndErr, hs, if_neg (by omega), if_neg (by omega)]; rfl
  rw [← this]
  exact check87 fun q hq => Nat.le_trans (hw q hq) (by omega)
 ·rw [← decide_eq_false hpow]
  exact many88 (by omega) hmost
end Go.Ev
namespace Go.Ev
open Go Go.Proofs
variable {B : Nat}
theorem Hp.killA {h0 h : T Blk} {nx : Pa} {L : List Ob} {id : Pa} {l : List AV} (H : Hp h0 h nx (.arr id l :: L)) : Hp h0 (T.set .no .no id h) nx L := by
 have hid : T.get .no id h0 = .no := H.off id (by simp [Ob.names])
 have H3 := H.drop
 have nd := H.nd
 simp only [List.flatMap_cons, Ob.names] at nd
 have hni : id ∉ L.flatMap Ob.names := fun hi => (List.nodup_append.1 nd).2.2 id (by simp) id hi rfl
 have other : ∀ j, j ≠ id → T.get .no j (T.set .no .no id h) = T.get .no j h := fun j hj => T.get_set_ne _ _ _ _ _ hj
 refine ⟨fun j hj => ?_, fun y hy => ?_, H3.off, H3.nd, fun j hj => ?_⟩
 ·rw [other j (by rintro rfl; exact hj hid)]; exact H.keep j hj
 ·exact (H3.own y hy).congr fun m hm => other m (by rintro rfl; exact hni (List.mem_flatMap.2 ⟨y, hy, hm⟩))
 ·by_cases e : j = id
  ·subst e; exact T.get_set_same _ _ _ _
  ·rw [other j e]; exact H.fr j hj
theorem Hp.letArr {h0 h : T Blk} {nx : Pa} {L : List Ob} {id : Pa} {l : List Int} {n : Nat} (H : Hp h0 h nx (.arr id (l.map I) :: L)) (hn : l.length = n) : ∃ h', Keeps h' h ∧ Hp h0 h' nx L ∧ FrzN h' h (.sl id 0 n (some n) 1) (encI l) := by
 subst hn
 exact ⟨_, keeps_kill, H.killA, HasArr.frz (H.own _ (List.mem_cons_self ..)) (T.get_set_same _ _ _ _) (Nat.le_refl _) (by simp) fun v hv => by obtain ⟨x, _, rfl⟩ := List.mem_map.1 hv; rfl⟩
theorem sRem8 {a : Nat} {K : AV → OP} (h : a < 256) : sBin .rem .int (I (a : Int)) (I 8) K = K (I ((a % 8 : Nat) : Int)) := by
 have e : sBin .rem .int (I (a : Int)) (I 8) K = (bif ieq (8 : Int) 0 then Out.no 5 else intK ((a : Int).tmod 8) fun z => K (.int .i64 z)) := rfl
 rw [e, show ieq (8 : Int) 0 = false from rfl, cond_false, intK_eq, show (a : Int).tmod 8 = ((a % 8 : Nat) : Int) from rfl]
theorem ok_ref {lines : List (List Int)} {most r : Nat} (hl : ∀ l ∈ lines, l.length ≤ 1000) (hm : most ≤ 9) (hp : (most + 1) ^ r ≤ 100000) : OkT (jS lines most r []) lines.length := by
 intro p hp'
 have h1 := (refHL_tab lines most r []).is.cnt p hp'
 have h2 : p.1 ∈ allH lines most r [] := List.count_pos_iff.1 (by omega)
 have h3 := (refHL_tab lines most r []).cnt_le hp'
 rw [allH_length] at h3
 obtain ⟨g, hg, e⟩ := List.mem_map.1 h2
 refine ⟨by rw [← e, shr_len], fun v hv => ?_, by omega⟩
 rw [← e] at hv
 obtain ⟨l, hm', rfl⟩ := List.mem_map.1 hv
 have := con_le (fr := 0) (fill_len g hg).2 l
 have h4 := hl l hm'
 have h5 : l.length * most ≤ 1000 * 9 := Nat.mul_le_mul h4 hm
 rw [List.nil_append]
 omega
theorem encA {A : List (List Int × Nat)} : AV.lst 1 A.length (kA A) = encT (tP A) := by simp [encT, kA, List.map_map, Function.comp_def]
theorem encN {A : List (List Int × Nat)} : AV.lst 1 A.length (nA A) = encI (tN A) := by simp [encI, nA, List.map_map, Function.comp_def]
theorem law9 {cells u : Int} {lines : List (List Int)} {to : List Int} (hu : 0 ≤ u ∧ u < 256) (haw : ∀ {B}, Pure Tryz.prog B 18 [] (· = .bool true)) : Pure Tryz.prog B 9 [.agg [I cells, encT lines], encI to, .int .u8 u] (· = .bool true) := by
 refine uA fun h nx K H0 hK => yQ yW dreg 10000 fun hf => ?_
 rw [F9.go]
 refine H0.box (l := [I cells, encT lines]) rfl fun bx h1 nx1 H1 => ?_
 have ret : ∀ h' nx' L, Hp h h' nx' L → K (.bool true) h' nx' = .ok True := fun _ _ _ H => hK _ _ _ _ _ H (jD rfl) rfl
 have awk : ∀ (h' : T Blk) (nx' : Pa) (Z : Kw Prop), Z (.bool true) h' nx' = .ok True → (CS Tryz.prog B).fn 18 (.of 18) [] h' nx' Z = .ok True := fun _ _ Z hZ => haw _ _ _ _ fun v hv _ => by rw [hv]; exact hZ
 rw [H1.loadN (k := 0) (n := 2) rfl rfl]
 refine few44 (by omega) (by omega) _ _ _ _ ?_
 rintro _ rfl _
 by_cases hfew : ((lines.length : Int) ≤ 12 ∧ ∀ l ∈ lines, (l.length : Int) ≤ 10) ∧ yO cells lines = 0 ∧ cells ≤ 10
 case neg =>
  rw [decide_eq_false hfew]
  simp only [zN, Bool.not_false, zV, gW_tf, zH, zA]
  exact awk _ _ _ (ret _ _ _ H1)
 rw [decide_eq_true hfew]
 obtain ⟨⟨s1, s2⟩, hs, s3⟩ := hfew
 obtain ⟨n, rfl, g1, g2, g3, g4⟩ := sys_ok hs
 have hw10 : ∀ q ∈ lines, q.length ≤ 10 := fun q hq => by have := s2 q hq; omega
 simp only [zN, Bool.not_true, zO, zF, sFx]
 rw [H1.load (k := 0) (i := 0) rfl rfl]
 simp only [sNeq, zG]
 by_cases htn : (to.length : Int) = (n : Int)
 case neg =>
  simp only [htn, decide_false, Bool.not_false, zV, gW_tf, zH, zA]
  exact awk _ _ _ (ret _ _ _ H1)
 have htn' : to.length = n := by omega
 simp only [htn, decide_true, Bool.not_true, zO, gW_ff]
 refine perm45 (by omega) _ _ _ _ ?_
 rintro _ ⟨e, rfl, he⟩ _
 simp only [sNeq, zG]
 by_cases he0 : e = 0
 case neg =>
  simp only [he0, decide_false, Bool.not_false, zA]
  exact awk _ _ _ (ret _ _ _ H1)
 have hpt : PermN n to := ⟨htn', (he he0).1, fun x hx => by have := (he he0).2 x hx; omega⟩
 simp only [he0, decide_true, Bool.not_true, zB]
 obtain ⟨m, rfl⟩ : ∃ m : Nat, u = m := ⟨u.toNat, by omega⟩
 have hw : ∀ q ∈ lines, q.length ≤ 1000 := fun q hq => by have := hw10 q hq; omega
 have hpow : ∀ a, a ≤ 2 → ∀ r, r ≤ 10 → ¬ 100000 < (a + 1) ^ r := fun a ha r hr q => by
  have h1 : (a + 1) ^ r ≤ 3 ^ r := Nat.pow_le_pow_left (by omega) r
  have h2 : 3 ^ r ≤ 3 ^ 10 := Nat.pow_le_pow_right (by omega) hr
  have h3 : 3 ^ 10 = 59049 := by decide
  omega
 have asc2 : ∀ {to : List Int}, PermN n to → ∀ l ∈ lines.map (zY n to), AscL n l := fun hp l hm => by
  obtain ⟨x, hx, rfl⟩ := List.mem_map.1 hm
  exact turnL_ok hp (g4 x hx)
 have wid2 : ∀ {to : List Int}, PermN n to → ∀ l ∈ lines.map (zY n to), l.length ≤ 10 := fun hp l hm => by
  obtain ⟨x, hx, rfl⟩ := List.mem_map.1 hm
  rw [(turnL_perm hp (g4 x hx)).length_eq, List.length_map]; exact hw10 x hx
 rw [F9.k1, sConv_i64 (by omega), sRem8 (by omega), H1.loadN (k := 0) (n := 2) rfl rfl]
 have b2 : Pure Tryz.prog B 31 [.agg [I n, encT lines], I 2, I ((m % 8 : Nat) : Int)] (· = .tup [I (refB lines 2 ((m % 8 : Nat) : Int) n [] : Nat), I 0]) := bounded31_all (most := 2) hs (by omega) (by omega) hw (hpow 2 (by omega) (n - n / 2) (by omega))
 have b1 : Pure Tryz.prog B 31 [.agg [I n, encT lines], I 1, I ((m % 8 : Nat) : Int)] (· = .tup [I (refB lines 1 ((m % 8 : Nat) : Int) n [] : Nat), I 0]) := bounded31_all (most := 1) hs (by omega) (by omega) hw (hpow 1 (by omega) (n - n / 2) (by omega))
 have b3 : Pure Tryz.prog B 31 [.agg [I n, encT (lines.map (zY n to))], I 2, I ((m % 8 : Nat) : Int)] (· = .tup [I (refB (lines.map (zY n to)) 2 ((m % 8 : Nat) : Int) n [] : Nat), I 0]) := bounded31_all (most := 2) (turn_sys hpt hs) (by omega) (by omega) (fun l hl => by have := wid2 hpt l hl; omega) (hpow 2 (by omega) (n - n / 2) (by omega))
 rw [refB_turn hpt g4] at b3
 have hmono := refB_mono (s := ((m % 8 : Nat) : Int)) (show 1 ≤ 2 by omega) g4
 refine b2 _ _ _ _ ?_
 rintro _ rfl _
 simp only [yC, zZ]
 rw [H1.loadN (k := 0) (n := 2) rfl rfl]
 refine turned46 hpt (by omega) (by omega) (fun l hl => ⟨g4 l hl, by have := hw10 l hl; omega⟩) _ _ _ _ ?_
 rintro _ rfl _
 refine b3 _ _ _ _ ?_
 rintro _ rfl _
 simp only [yC, zZ]
 rw [H1.loadN (k := 0) (n := 2) rfl rfl]
 refine b1 _ _ _ _ ?_
 rintro _ rfl _
 simp only [yC, zZ]
 rw [sAdd (by omega), sAdd (by omega)]
 simp only [sNeq, show ((0 : Int) + 0 + 0 = 0) from rfl, decide_true, Bool.not_true, zO, zG, sGtr, sLss]
 simp only [show ¬ ((refB lines 2 ((m % 8 : Nat) : Int) n [] : Nat) : Int) < ((refB lines 1 ((m % 8 : Nat) : Int) n [] : Nat) : Int) by omega, show ¬ ((refB lines 2 ((m % 8 : Nat) : Int) n [] : Nat) : Int) < 0 by omega, show ¬ ((refB lines 1 ((m % 8 : Nat) : Int) n [] : Nat) : Int) < 0 by omega, sLss, sGtr, decide_false, zO, zG, zB]
 rw [F9.k2, sFx, H1.load (k := 0) (i := 0) rfl rfl, sQuo2 (by omega), H1.loadN (k := 0) (n := 2) rfl rfl]
 have v1 : Pure Tryz.prog B 33 [.agg [I n, encT lines], I ((n / 2 : Nat) : Int), I 2] (· = .tup [.lst 1 (jS lines 2 (n / 2) []).length (kA (jS lines 2 (n / 2) [])), .lst 1 (jS lines 2 (n / 2) []).length (nA (jS lines 2 (n / 2) [])), I 0]) := halves33 (most := 2) hs hw (by omega) (by omega) (by omega) (hpow 2 (by omega) (n / 2) (by omega))
 rw [encA, encN] at v1
 refine v1 _ _ _ _ ?_
 rintro _ rfl _
 simp only [yC, zZ, yH, sNeq, decide_true, Bool.not_true, zO, zF, List.length_map, zG, zB]
 rw [F9.k3, sFx, H1.load (k := 0) (i := 0) rfl rfl]
 refine H1.mk1 n rfl rfl (by omega) (by decide) fun bk h2 nx2 H2 => ?_
 have hbl : (jN n).length = n := by simp [jN]
 refine F9.L4 (fun mm x17 h' nx' => ∃ i : Nat, x17 = I i ∧ n - i = mm ∧ i ≤ n ∧ nx' = nx2 ∧ Hp h h' nx2 [.arr bk (((jN n).take i ++ List.replicate (n - i) 0).map I), .arr bx [I n, encT lines]]) (m := n) (by omega) ⟨0, rfl, rfl, by omega, rfl, H2.cast (by simp)⟩ ?_
 rintro mm z17 z29 h3 nx3 R ⟨i, rfl, rfl, hi, rfl, H3⟩ hR
 rw [sFx, H3.load (k := 1) (i := 0) rfl rfl]
 simp only [sLss]
 by_cases hlt : i < n
 ·simp only [show (i : Int) < (n : Int) by omega, decide_true, zA]
  rw [sFx, H3.load (k := 1) (i := 0) rfl rfl, sSub (by omega), sSub (by omega), sIx (i := i) rfl hlt]
  refine H3.store (k := 0) rfl (by simp; omega) rfl fun h4 H4 => ?_
  rw [sAdd (by omega)]
  refine hR _ _ _ _ _ (by omega) ⟨i + 1, rfl, rfl, by omega, rfl, H4.cast ?_⟩
  have hg : (jN n)[i]? = some ((n : Int) - 1 - (i : Int)) := by rw [jN, List.getElem?_map, List.getElem?_range hlt]; rfl
  have hlj : ((jN n).take i).length = i := by rw [List.length_take]; omega
  have e : ((jN n).take i ++ List.replicate (n - i) 0).set i ((n : Int) - 1 - (i : Int)) = (jN n).take (i + 1) ++ List.replicate (n - (i + 1)) 0 := by
   rw [List.set_append_right _ _ (by omega), hlj, Nat.sub_self, show n - i = n - (i + 1) + 1 by omega, List.replicate_succ, List.set_cons_zero, List.take_add_one, hg, List.append_assoc]; rfl
  rw [← e, List.map_set]; rfl
 simp only [show ¬ (i : Int) < (n : Int) by omega, decide_false, zB]
 obtain rfl : i = n := by omega
 rw [List.take_of_length_le (by omega), Nat.sub_self, List.replicate_zero, List.append_nil] at H3
 rw [F9.k11, H3.loadN (k := 1) (n := 2) rfl rfl, sFx, H3.load (k := 1) (i := 0) rfl rfl, sSub (by omega), show (i : Int) - ((i / 2 : Nat) : Int) = ((i - i / 2 : Nat) : Int) by omega]
 obtain ⟨h4, hkeep, H4, hFz⟩ := H3.letArr hbl
 refine CS_let hkeep (.cons (frz_agg fixd_sys) (.cons hFz .nil)) ?_
 have hpb := backL_perm i
 refine turned46 hpb (by omega) (by omega) (fun l hl => ⟨g4 l hl, by have := hw10 l hl; omega⟩) _ _ _ _ ?_
 rintro _ rfl _
 rw [sSub (by omega), show (i : Int) - ((i / 2 : Nat) : Int) = ((i - i / 2 : Nat) : Int) by omega]
 simp only [zC, sFx]
 rw [H4.load (k := 0) (i := 0) rfl rfl]
 simp only [zC]
 have v2 : Pure Tryz.prog B 33 [.agg [I i, encT (lines.map (zY i (jN i)))], I ((i - i / 2 : Nat) : Int), I 2] (· = .tup [.lst 1 (jS (lines.map (zY i (jN i))) 2 (i - i / 2) []).length (kA (jS (lines.map (zY i (jN i))) 2 (i - i / 2) [])), .lst 1 (jS (lines.map (zY i (jN i))) 2 (i - i / 2) []).length (nA (jS (lines.map (zY i (jN i))) 2 (i - i / 2) [])), I 0]) := halves33 (most := 2) (turn_sys hpb hs) (fun l hl => by have := wid2 hpb l hl; omega) (by omega) (by omega) (by omega) (hpow 2 (by omega) (i - i / 2) (by omega))
 rw [encA, encN] at v2
 refine v2 _ _ _ _ ?_
 rintro _ rfl _
 have okA := ok_ref (lines := lines) (most := 2) (r := i / 2) hw (by omega) (by have := hpow 2 (by omega) (i / 2) (by omega); omega)
 have okC := ok_ref (lines := lines.map (zY i (jN i))) (most := 2) (r := i - i / 2) (fun l hl => by have := wid2 hpb l hl; omega) (by omega) (by have := hpow 2 (by omega) (i - i / 2) (by omega); omega)
 rw [List.length_map] at okC
 have hmt := meets_tab (cut := i / 2) (most := 2) (s := m % 8) g4 (by omega)
 generalize jS lines 2 (i / 2) [] = A at okA hmt ⊢
 generalize jS (lines.map (zY i (jN i))) 2 (i - i / 2) [] = C at okC hmt ⊢
 simp only [yC, zZ, yH, sNeq, decide_true, Bool.not_true, zO, zF, List.length_map, zG, sGtr]
 have far : (CS Tryz.prog B).fn 18 (.of 18) [] h4 nx3 (fun v36 h37 n38 => yV (.bool true) v36 (.bool false) fun v39 => K v39 h37 n38) = .ok True :=
  awk _ _ _ (by rw [zH]; exact ret _ _ _ H4)
 by_cases cA : (100 : Int) < (A.length : Int)
 ·simp only [cA, decide_true, zV, zH, zA, sEql, zX, zF, List.length_map]
  rw [gW_tt]
  exact far
 simp only [cA, decide_false, zO, zG, zF, List.length_map, sGtr]
 by_cases cC : (300 : Int) < (C.length : Int)
 ·simp only [cC, decide_true, zG, zA, sEql, zX, zH, zF, List.length_map]
  rw [gW_tt]
  exact far
 simp only [cC, decide_false, zG, zB]
 rw [F9.k12]
 refine F9.rows (s := ((m % 8 : Nat) : Int)) (by omega) (by omega) H4 (k := 0) rfl okA okC (by omega) (by omega) fun x22 x23 x24 x25 x31 x32 x33 x34 => ?_
 rw [hmt, F9.k35]
 simp only [sEql, decide_true]
 rw [gW_tt]
 exact awk _ _ _ (by rw [zH]; exact ret _ _ _ H4)
end Go.Ev
