import Derived.Test.YtepfaegpjddehaaGreatDoorEvD
import Derived.Deep.Matrix
import Derived.Lib.SmallJoins
import Derived.Deep.SlicePairs
import Derived.Test.YtepfaegpjddehaaGreatDoorCode
import GoSem.Core.Next
import Derived.Test.YtepfaegpjddehaaGreatDoorLaws
import Derived.Lib.Small
import Derived.Lib.Walk
import Derived.Deep.Draws
import Derived.Lib.Agree
import Derived.Shelf.SlLaysF
import Derived.Shelf.RegionOpenPlain
import Derived.WalkKit
import Derived.Deep.LoopGhost
import Derived.Test.YtepfaegpjddehaaGreatDoorProg
set_option linter.unusedSimpArgs false
set_option linter.unusedVariables false
namespace Go.Ev
open Go Go.RowKit Go.ChangeShapes Go.WideShapes Go.Deep Go.Joins
variable {H : Type} {enc : TypeId × Value → H} {P : Program}
theorem cellOf_of_cell {w : World} {a : Addr} {i : Nat} {v : Value} (h : w.cell? (a.add i) = some v) : a = ⟨a.block, a.off, a.spot⟩ ∧ (i = 0 → a.spot = none) ∧ cellOf w a.block (a.off + i) = some v := by
 unfold Addr.add at h
 by_cases hi : i = 0
 ·subst hi
  rw [if_pos rfl] at h
  unfold World.cell? at h
  split at h
  ·rename_i c ty fr hb
   split at h
   ·cases h
   ·rename_i hs
    refine ⟨rfl, fun _ => by cases e : a.spot <;> simp_all, ?_⟩
    simp [cellOf, hb, h]
  ·cases h
 ·rw [if_neg hi] at h
  unfold World.cell? at h
  split at h
  ·rename_i c ty fr hb
   refine ⟨rfl, fun q => absurd q hi, ?_⟩
   simp at h hb
   simp [cellOf, hb, h]
  ·cases h
theorem VRF_mk {E : Env} {b : Nat} : ∀ {l : List AV} {off : Nat}, (∀ i a, l[i]? = some a → ∃ v, E.fz b (off + i) = some v ∧ VR E a v) → VRF E l b off
 | [], _, _ => by simp only [VRF]
 | a :: l, off, h => by
  simp only [VRF]
  obtain ⟨v, h1, h2⟩ := h 0 a rfl
  refine ⟨v, h1, h2, VRF_mk fun i x hx => ?_⟩
  obtain ⟨v', h3, h4⟩ := h (i + 1) x (by simpa using hx)
  exact ⟨v', by rw [Nat.add_assoc, Nat.add_comm 1 i]; exact h3, h4⟩
theorem scalI2 (l : List Int) : (l.map I).all scal = true := by
 rw [List.all_eq_true]; intro v hv
 obtain ⟨x, _, rfl⟩ := List.mem_map.1 hv; rfl
theorem scalT2 (l : List (List Int)) : (l.map encI).all scal = true := by
 rw [List.all_eq_true]; intro v hv
 obtain ⟨x, _, rfl⟩ := List.mem_map.1 hv; rfl
theorem vr_row {w : World} {p : Option Addr} {L C : Nat} {Z : List Int} (hL : L ≤ C) (hZ : Z.length = C) (h0 : p = none → C = 0) (hc : ∀ a, p = some a → ∀ c, c < C → w.cell? (a.add c) = some (.int .i64 (Z.getD c 0))) :
  VR (allE w) (encI (Z.take L)) (.slice p L C) := by
 have hlen : (Z.take L).length = L := by rw [List.length_take]; omega
 simp only [VR]
 refine ⟨scalI2 _, by simp, p, C, by rw [hlen], ?_⟩
 rw [hlen]
 cases p with
 | none => exact .inl ⟨by have := h0 rfl; omega, fun _ => h0 rfl⟩
 | some a =>
  by_cases hL0 : L = 0
  ·exact .inl ⟨hL0, by intro q; cases q⟩
  ·obtain ⟨_, hs, _⟩ := cellOf_of_cell (hc a rfl 0 (by omega))
   obtain ⟨b, off, sp⟩ := a
   have : sp = none := hs rfl
   subst this
   refine .inr ⟨b, off, rfl, hL, VRF_mk fun i x hx => ?_⟩
   rw [List.getElem?_map] at hx
   have hi : i < L := by
    cases e : (Z.take L)[i]? with
    | none => rw [e] at hx; cases hx
    | some y => have := (List.getElem?_eq_some_iff.1 e).1; omega
   obtain ⟨_, _, h3⟩ := cellOf_of_cell (hc _ rfl i (by omega))
   refine ⟨_, h3, ?_⟩
   rw [List.getElem?_take, if_pos hi] at hx
   cases e : Z[i]? with
   | none => rw [e] at hx; cases hx
   | some y =>
    rw [e] at hx
    have hx := Option.some.inj hx
    subst hx
    rw [List.getD_eq_getElem?_getD, e]
    simp only [VR, Option.getD_some]
theorem open_listI {t e : TypeId} {w : World} {base : Nat} {held : Bool} {fuel : Nat} {cs : List Value} {x : DataW H × List MemPlace} (ht : P.underlying t = some (.slice e)) (he : P.underlying e = some (.int .i64)) (hc : P.cellsOf e = 1)
  (h : DataW.trod enc P w base (fun _ => true) held fuel t cs = some x) : ∃ (l : List Int) (v : Value), cs = [v] ∧ VR (allE w) (encI l) v ∧ l.length ≤ maxLen ∧ ∀ n ∈ l, (Lit.int .i64 n).wf = true := by
 rcases open_ints ht he hc h with ⟨rfl, _⟩ | ⟨a, len, cap, zs, rfl, hb, hl, hm, hz, _, hcell, hwz⟩
 ·exact ⟨[], _, rfl, by simp only [VR]; exact ⟨rfl, rfl, none, 0, rfl, .inl ⟨rfl, fun _ => rfl⟩⟩, by simp, by simp⟩
 ·simp only [if_true] at hz
  refine ⟨zs.take len, _, rfl, vr_row hl hz (fun q => by cases q) (fun a' q c hc => by cases q; exact hcell c (by rw [hz]; exact hc)), by rw [List.length_take]; omega, fun n hn => hwz n (List.mem_of_mem_take hn)⟩
theorem open_listT {t e q : TypeId} {w : World} {base : Nat} {held : Bool} {fuel : Nat} {cs : List Value} {x : DataW H × List MemPlace} (ht : P.underlying t = some (.slice e)) (he : P.underlying e = some (.slice q)) (hq : P.underlying q = some (.int .i64))
  (ce : P.cellsOf e = 1) (cq : P.cellsOf q = 1) (h : DataW.trod enc P w base (fun _ => true) held fuel t cs = some x) :
  ∃ (ll : List (List Int)) (v : Value), cs = [v] ∧ VR (allE w) (encT ll) v ∧ ll.length ≤ maxLen ∧ ∀ l ∈ ll, l.length ≤ maxLen ∧ ∀ n ∈ l, (Lit.int .i64 n).wf = true := by
 rcases open_int_rows ht he hq ce cq h with ⟨rfl, _⟩ | ⟨a, len, cap, A, L, C, Z, rfl, hb, hl, hm, _, hr⟩
 ·exact ⟨[], _, rfl, by simp only [VR]; exact ⟨rfl, rfl, none, 0, rfl, .inl ⟨rfl, fun _ => rfl⟩⟩, by simp, by simp⟩
 ·refine ⟨(List.range len).map fun r => (Z r).take (L r), _, rfl, ?_, by simp; omega, fun l hm' => ?_⟩
  ·simp only [VR]
   refine ⟨scalT2 _, by simp, some a, cap, by simp, ?_⟩
   by_cases h0 : len = 0
   ·exact .inl ⟨by simp [h0], by intro q; cases q⟩
   ·obtain ⟨_, hs, _⟩ := cellOf_of_cell (hr 0 (by omega)).1
    obtain ⟨b, off, sp⟩ := a
    have : sp = none := hs rfl
    subst this
    refine .inr ⟨b, off, rfl, by simpa using hl, VRF_mk fun i x hx => ?_⟩
    rw [List.map_map, List.getElem?_map] at hx
    have hi : i < len := by
     cases e : (List.range len)[i]? with
     | none => rw [e] at hx; cases hx
     | some y => have := (List.getElem?_eq_some_iff.1 e).1; simpa using this
    rw [List.getElem?_range hi] at hx
    have hx := Option.some.inj hx
    subst hx
    obtain ⟨g1, g2, g3, g4, _, g6, g7⟩ := hr i (by omega)
    obtain ⟨_, _, h3⟩ := cellOf_of_cell g1
    exact ⟨_, h3, vr_row g2 g4 g6 fun a' q c hc => (g7 a' q).2 c hc⟩
  ·obtain ⟨r, hr', rfl⟩ := List.mem_map.1 hm'
   obtain ⟨_, g2, g3, g4, g5, _⟩ := hr r (by have := List.mem_range.1 hr'; omega)
   exact ⟨by rw [List.length_take]; omega, fun n hn => g5 n (List.mem_of_mem_take hn)⟩
end Go.Ev
namespace Go.Ev
open Go Go.RowKit Go.ChangeShapes Go.WideShapes Go.Deep Go.Joins
variable {H : Type} {enc : TypeId × Value → H} {P : Program}
abbrev SymS := List Int × Bool
def flatS (G : List SymS) : List AV := G.flatMap fun g => [encI g.1, .bool g.2]
theorem flatS_len : ∀ q : List SymS, (flatS q).length = q.length * 2
 | [] => rfl
 | p :: q => by
  show (encI p.1 :: .bool p.2 :: flatS q).length = _
  rw [List.length_cons, List.length_cons, flatS_len q, List.length_cons]; omega
theorem flatS_get : ∀ (q : List SymS) (i : Nat), (flatS q)[i]? = (q[i / 2]?).map fun p => if i % 2 = 0 then encI p.1 else .bool p.2
 | [], i => by simp [flatS]
 | p :: q, 0 => rfl
 | p :: q, 1 => rfl
 | p :: q, i + 2 => by
  show (encI p.1 :: .bool p.2 :: flatS q)[i + 2]? = _
  rw [List.getElem?_cons_succ, List.getElem?_cons_succ, flatS_get q i, show (i + 2) / 2 = i / 2 + 1 by omega, show (i + 2) % 2 = i % 2 by omega, List.getElem?_cons_succ]
theorem scal_flatS (q : List SymS) : (flatS q).all scal = true := by
 rw [List.all_eq_true]; intro v hv
 obtain ⟨x, _, h⟩ := List.mem_flatMap.1 hv
 simp only [List.mem_cons, List.not_mem_nil, or_false] at h
 rcases h with rfl | rfl <;> rfl
theorem open_group {r : Reach} {b0 base : Nat} {held : Bool} {w : World} {t e ti tl tb : TypeId} {f0 f1 : Field} {v : Value} {d : DataW H} {p : List MemPlace} (ht : P.underlying t = some (.slice e)) (he : P.underlying e = some (.struct #[f0, f1]))
  (ce : P.cellsOf e = 2) (o0 : f0.offset = 0) (o1 : f1.offset = 1) (c0 : P.cellsOf f0.type = 1) (c1 : P.cellsOf f1.type = 1)
  (e0 : f0.type = tl) (e1 : f1.type = tb) (u0 : P.underlying tl = some (.slice ti)) (u1 : P.underlying ti = some (.int .i64)) (u2 : P.underlying tb = some .bool) (ci : P.cellsOf ti = 1)
  (hv : Value.okWide P w r b0 t v) (h : DataW.Trod enc P w base (fun _ => true) held t v d p) :
  ∃ G : List SymS, VR (allE w) (.lst 2 G.length (flatS G)) v ∧ G.length ≤ maxLen ∧ ∀ g ∈ G, g.1.length ≤ maxLen ∧ ∀ n ∈ g.1, (Lit.int .i64 n).wf = true := by
 obtain ⟨fuel, hf⟩ := h
 obtain ⟨a, len, cap, rfl⟩ := okWide_slice ht hv
 rcases open_slice_pairs ht he ce o0 o1 c0 c1 hf with ⟨hc, _⟩ | ⟨a, len, cap, m, n, V0, V1, D0, D1, P0, P1, hc, hb, hl, hm, hmm, _, hx⟩
 ·simp only [Value.cells, List.cons.injEq, and_true] at hc
  rw [hc]
  exact ⟨[], by simp only [VR]; exact ⟨rfl, rfl, none, 0, rfl, .inl ⟨rfl, fun _ => rfl⟩⟩, by simp, by simp⟩
 ·simp only [Value.cells, List.cons.injEq, and_true] at hc
  rw [hc]
  have each : ∀ i, i < len → ∃ g : SymS, w.cell? (a.add (i * 2)) = some (V0 i) ∧ VR (allE w) (encI g.1) (V0 i) ∧ w.cell? (a.add (i * 2 + 1)) = some (.bool g.2) ∧ g.1.length ≤ maxLen ∧ ∀ n ∈ g.1, (Lit.int .i64 n).wf = true := by
   intro i hi
   obtain ⟨h1, h2, h3, h4⟩ := hx i (by rw [hmm, if_pos rfl]; omega)
   rw [e0] at h3
   rw [e1] at h4
   obtain ⟨l, v', hv', g1, g2, g3⟩ := open_listI u0 u1 ci h3
   obtain ⟨b, hb', _⟩ := DataW.trod_bool u2 h4
   simp only [List.cons.injEq, and_true] at hv' hb'
   subst hv'
   rw [hb'] at h2
   exact ⟨(l, b), h1, g1, h2, g2, g3⟩
  obtain ⟨Q, hQ⟩ := choose_lt each
  refine ⟨(List.range len).map Q, ?_, by simp; omega, fun g hg => ?_⟩
  ·simp only [VR]
   refine ⟨scal_flatS _, flatS_len _, some a, cap, by simp, ?_⟩
   by_cases h0 : len = 0
   ·exact .inl ⟨by simp [h0], by intro q; cases q⟩
   ·obtain ⟨_, hs, _⟩ := cellOf_of_cell (hQ 0 (by omega)).1
    obtain ⟨b, off, sp⟩ := a
    have : sp = none := hs (by omega)
    subst this
    refine .inr ⟨b, off, rfl, by simpa using hl, VRF_mk fun i x hx => ?_⟩
    rw [flatS_get] at hx
    have hi : i / 2 < len := by
     cases e : ((List.range len).map Q)[i / 2]? with
     | none => rw [e] at hx; cases hx
     | some y => have := (List.getElem?_eq_some_iff.1 e).1; simpa using this
    rw [List.getElem?_map, List.getElem?_range hi] at hx
    have hx := Option.some.inj hx
    obtain ⟨g0, g1, g2, _⟩ := hQ (i / 2) hi
    by_cases c : i % 2 = 0
    ·simp only [if_pos c] at hx
     obtain ⟨_, _, h3⟩ := cellOf_of_cell g0
     subst hx
     exact ⟨_, (show off + i = off + i / 2 * 2 by omega) ▸ h3, g1⟩
    ·simp only [if_neg c] at hx
     obtain ⟨_, _, h3⟩ := cellOf_of_cell g2
     subst hx
     exact ⟨_, (show off + i = off + (i / 2 * 2 + 1) by omega) ▸ h3, by simp only [VR]⟩
  ·obtain ⟨i, hi, rfl⟩ := List.mem_map.1 hg
   obtain ⟨_, _, _, g3, g4⟩ := hQ i (List.mem_range.1 hi)
   exact ⟨g3, g4⟩
theorem open_lists {r : Reach} {b0 base : Nat} {held : Bool} {w : World} {t e q : TypeId} {v : Value} {d : DataW H} {p : List MemPlace} (ht : P.underlying t = some (.slice e)) (he : P.underlying e = some (.slice q)) (hq : P.underlying q = some (.int .i64))
  (ce : P.cellsOf e = 1) (cq : P.cellsOf q = 1) (hv : Value.okWide P w r b0 t v) (h : DataW.Trod enc P w base (fun _ => true) held t v d p) :
  ∃ ll : List (List Int), VR (allE w) (encT ll) v ∧ ll.length ≤ maxLen ∧ ∀ l ∈ ll, l.length ≤ maxLen ∧ ∀ n ∈ l, (Lit.int .i64 n).wf = true := by
 obtain ⟨fuel, hf⟩ := h
 obtain ⟨a, len, cap, rfl⟩ := okWide_slice ht hv
 obtain ⟨ll, v', hv', g1, g2, g3⟩ := open_listT ht he hq ce cq hf
 simp only [Value.cells, List.cons.injEq, and_true] at hv'
 subst hv'
 exact ⟨ll, g1, g2, g3⟩
end Go.Ev
namespace Go.Ev
open Go Go.Proofs
theorem dreg {B : Nat} : DregAll Tryz.prog B Prop := dreg_all mixed
variable {B : Nat}
theorem sameInts35 {a b : List Int} (ha : a.length ≤ 1000000000) : Pure Tryz.prog B 35 [encI a, encI b] (· = .bool (decide (a = b))) := by
 intro p h nx K hK
 refine by_body tbl_ok dreg (a.length + 2) fun hf => ?_
 rw [F35.go]
 simp (disch := omega) only [sAdd, sSub, sMul, sEql, sNeq, sLss, sLeq, sGtr, sGeq, sPick_t, sPick_f, sCond_t, sCond_f, sG_tt, sG_ff, sG_tf, sG_ft, sNot_b, sExt0, sExt1, sExt2, sPart0, sPart1, sPart2, sLen_lst, sLen_sl, sLen_nils, sSame_refl, decide_true, decide_false, Bool.not_true, Bool.not_false, sChk_t]
 by_cases hl : a.length = b.length
 ·simp only [hl, decide_true, Bool.not_true, sCond_f]
  refine F35.L2 (fun m z3 h' nx' => ∃ i : Nat, z3 = I i ∧ m = a.length - i ∧ i ≤ a.length ∧ h' = h ∧ nx' = nx ∧ a.take i = b.take i) (m := a.length) (by omega) ⟨0, rfl, by simp, by omega, rfl, rfl, by simp⟩ ?_
  rintro m z2 z3 z5 z6 _ _ R ⟨i, rfl, rfl, hi, rfl, rfl, htk⟩ hR
  simp (disch := omega) only [sAdd, sSub, sMul, sEql, sNeq, sLss, sLeq, sGtr, sGeq, sPick_t, sPick_f, sCond_t, sCond_f, sG_tt, sG_ff, sG_tf, sG_ft, sNot_b, sExt0, sExt1, sExt2, sPart0, sPart1, sPart2, sLen_lst, sLen_sl, sLen_nils, sSame_refl, decide_true, decide_false, Bool.not_true, Bool.not_false, sChk_t]
  by_cases hlt : i < a.length
  ·have h1 : (i : Int) < a.length := by omega
   have hb : i < b.length := by omega
   simp only [h1, decide_true, sCond_t]
   rw [sIxL rfl hlt, ldL (getI (List.getElem?_eq_getElem hlt)), sIxL rfl hb, ldL (getI (List.getElem?_eq_getElem hb))]
   simp (disch := omega) only [sAdd, sSub, sMul, sEql, sNeq, sLss, sLeq, sGtr, sGeq, sPick_t, sPick_f, sCond_t, sCond_f, sG_tt, sG_ff, sG_tf, sG_ft, sNot_b, sExt0, sExt1, sExt2, sPart0, sPart1, sPart2, sLen_lst, sLen_sl, sLen_nils, sSame_refl, decide_true, decide_false, Bool.not_true, Bool.not_false, sChk_t]
   by_cases he : a[i] = b[i]
   ·simp only [he, decide_true, Bool.not_true, sCond_f]
    refine hR (a.length - (i + 1)) _ _ _ _ _ _ (by omega) ⟨i + 1, rfl, rfl, by omega, rfl, rfl, ?_⟩
    rw [List.take_add_one, List.take_add_one, htk, List.getElem?_eq_getElem hlt, List.getElem?_eq_getElem hb, he]
   ·simp only [he, decide_false, Bool.not_false, sCond_t]
    refine hK _ ?_ hf
    rw [decide_eq_false]
    rintro rfl
    exact he rfl
  ·have h1 : ¬ (i : Int) < a.length := by omega
   simp only [h1, decide_false, sCond_f]
   rw [F35.k9]
   refine hK _ ?_ hf
   rw [List.take_of_length_le (by omega), List.take_of_length_le (by omega)] at htk
   rw [decide_eq_true htk]
 ·have h1 : ¬ (a.length : Int) = b.length := by omega
  simp only [h1, decide_false, Bool.not_false, sCond_t]
  refine hK _ ?_ hf
  rw [decide_eq_false]
  rintro rfl; exact hl rfl
end Go.Ev
namespace Go.Ev
def addAt (y : List Nat) (i k : Nat) : List Nat := y.set i ((y.getD i 0 + k) % 256)
def addL (y : List Nat) (idx : List Nat) (k : Nat) : List Nat := idx.foldl (fun y i => addAt y i k) y
@[simp] theorem addAt_length (y : List Nat) (i k : Nat) : (addAt y i k).length = y.length := by simp [addAt]
@[simp] theorem addL_length (idx : List Nat) (k : Nat) : ∀ y : List Nat, (addL y idx k).length = y.length := by
 induction idx with
 | nil => intro y; rfl
 | cons i l ih => intro y; show (addL (addAt y i k) l k).length = _; rw [ih]; simp
theorem addL_snoc (y : List Nat) (l : List Nat) (i k : Nat) : addL y (l ++ [i]) k = addAt (addL y l k) i k := by simp [addL]
def onP (lines : List (List Int)) (i c : Nat) : List Nat := (List.range i).flatMap fun j => ((lines.getD j []).filter (· = (c : Int))).map fun _ => j
abbrev onC (lines : List (List Int)) (c : Nat) : List Nat := onP lines lines.length c
theorem onP_succ (lines : List (List Int)) (i c : Nat) : onP lines (i + 1) c = onP lines i c ++ ((lines.getD i []).filter (· = (c : Int))).map fun _ => i := by
 simp [onP, List.range_succ, List.flatMap_append]
theorem onP_lt {lines : List (List Int)} {i c x : Nat} (h : x ∈ onP lines i c) : x < i := by
 simp only [onP, List.mem_flatMap, List.mem_range, List.mem_map] at h
 obtain ⟨j, h1, y, _, rfl⟩ := h
 exact h1
def tallyT (lines : List (List Int)) (most fr : Nat) : Nat → List (List Nat)
 | 0 => [List.replicate lines.length 0]
 | n + 1 => (tallyT lines most fr n).flatMap fun x => (List.range (most + 1)).map fun k => addL x (onC lines (fr + n)) k
theorem tallyT_length (lines : List (List Int)) (most fr : Nat) : ∀ n, (tallyT lines most fr n).length = (most + 1) ^ n
 | 0 => rfl
 | n + 1 => by
  simp only [tallyT, List.length_flatMap, List.length_map, List.length_range, List.map_const', List.sum_replicate_nat]
  rw [tallyT_length lines most fr n, Nat.pow_succ]
def blk (x : List Nat) (idx : List Nat) (n : Nat) : Nat → List (List Nat)
 | 0 => []
 | j + 1 => List.replicate n (addL x idx j) ++ blk x idx n j
theorem blk_length (x idx : List Nat) (n : Nat) : ∀ j, (blk x idx n j).length = j * n
 | 0 => by simp [blk]
 | j + 1 => by simp [blk, blk_length x idx n j, Nat.add_mul]; omega
theorem perm_self (ks G : List (List Nat)) (nd : ks.Nodup) (hm : ∀ y, y ∈ ks ↔ y ∈ G) : (ks.flatMap fun x => List.replicate (G.count x) x).Perm G := by
 rw [List.perm_iff_count]
 intro y
 have key : ∀ (l : List (List Nat)), l.Nodup → (l.flatMap fun x => List.replicate (G.count x) x).count y = if y ∈ l then G.count y else 0 := by
  intro l
  induction l with
  | nil => intro _; rfl
  | cons a l ih =>
   intro nd
   rw [List.flatMap_cons, List.count_append, ih (List.nodup_cons.1 nd).2, List.count_replicate]
   by_cases e : y = a
   ·subst e
    have : y ∉ l := (List.nodup_cons.1 nd).1
    simp [this]
   ·have : ¬ (a == y) = true := by simpa using fun q => e q.symm
    simp [this, e]
 rw [key ks nd]
 by_cases e : y ∈ ks
 ·rw [if_pos e]
 ·rw [if_neg e, List.count_eq_zero.2 fun q => e ((hm y).2 q)]
theorem blk_perm (x idx : List Nat) (n : Nat) : ∀ j, (blk x idx n j).Perm ((List.replicate n x).flatMap fun x => (List.range j).map fun k => addL x idx k)
 | 0 => by
  have : ((List.replicate n x).flatMap fun x => (List.range 0).map fun k => addL x idx k) = [] := by simp
  rw [this]; exact .refl _
 | j + 1 => by
  refine (List.Perm.append_left _ (blk_perm x idx n j)).trans ?_
  clear blk_perm
  induction n with
  | zero => simp
  | succ n ih =>
   rw [List.replicate_succ, List.replicate_succ, List.flatMap_cons, List.flatMap_cons, List.range_succ, List.map_append, List.map_singleton]
   rw [List.range_succ] at ih
   generalize addL x idx j = a at *
   generalize (List.range j).map (fun k => addL x idx k) = r at *
   have : (a :: List.replicate n a ++ (r ++ (List.replicate n x).flatMap fun x => (List.range j).map fun k => addL x idx k)).Perm (r ++ [a] ++ (List.replicate n a ++ (List.replicate n x).flatMap fun x => (List.range j).map fun k => addL x idx k)) := by
    rw [List.perm_iff_count]; intro y; simp only [List.count_append, List.count_cons, List.cons_append, List.nil_append, List.count_nil]; omega
   refine this.trans ?_
   exact List.Perm.append_left _ ih
theorem next_perm (ks G : List (List Nat)) (idx : List Nat) (j : Nat) (nd : ks.Nodup) (hm : ∀ y, y ∈ ks ↔ y ∈ G) : (ks.flatMap fun x => blk x idx (G.count x) j).Perm (G.flatMap fun x => (List.range j).map fun k => addL x idx k) := by
 refine List.Perm.trans ?_ ((perm_self ks G nd hm).flatMap_right _)
 rw [List.flatMap_assoc]
 clear hm nd
 induction ks with
 | nil => exact .refl _
 | cons a l ih =>
  rw [List.flatMap_cons, List.flatMap_cons]
  exact (blk_perm a idx _ j).append ih
theorem seen_perm {n : Nat} {seen : List Nat} (nd : seen.Nodup) (h1 : ∀ i ∈ seen, i < n) (h2 : ∀ i, i < n → i ∈ seen) : seen.Perm (List.range n) := by
 rw [List.perm_iff_count]
 intro a
 rw [nd.count, List.nodup_range.count]
 by_cases e : a < n
 ·rw [if_pos (h2 a e), if_pos (by simpa using e)]
 ·rw [if_neg fun q => e (h1 a q), if_neg (by simpa using e)]
end Go.Ev
namespace Go.Ev
open Go Go.Proofs
variable {B : Nat}
abbrev nI (x : Nat) : AV := I (x : Int)
noncomputable abbrev Lt (on bx : Pa) (cells : Nat) (lines : List (List Int)) (o : Nat → Option Pa) (D : Nat → List Nat) (L : List Ob) : List Ob :=
 .arr on (rowL cells fun c => rowV (o c) 1 (D c).length) :: .arr bx [I cells, encT lines] :: (rowL cells (fun c => Ob.gro (o c) 1 (D c).length ((D c).map nI)) ++ L)
theorem Lt_get {on bx : Pa} {cells c : Nat} {lines : List (List Int)} {o : Nat → Option Pa} {D : Nat → List Nat} {L : List Ob} (hc : c < cells) : (Lt on bx cells lines o D L)[c + 2]? = some (.gro (o c) 1 (D c).length ((D c).map nI)) := by
 show (rowL cells _ ++ L)[c]? = _
 rw [List.getElem?_append_left (by simpa using hc), rowL_get hc]
theorem F89.on {N : Nat} {K0 : Kw Prop} {K : Ks Prop} {h0 h : T Blk} {nx : Pa} {L : List Ob} {x0 x1 x2 x3 x5 x7 x8 x9 x10 x11 x12 x13 x14 x15 x16 x17 x21 x22 x23 x24 x25 x26 x27 x28 x29 x30 x31 x32 x33 : AV} {on bx : Pa} {cells : Nat} {lines : List (List Int)} (hN : 100000000 < N) (hm : lines.length ≤ 128) (hw : ∀ l ∈ lines, l.length ≤ 1000) (hl : ∀ l ∈ lines, ∀ c ∈ l, 0 ≤ c ∧ c < (cells : Int))
  (H : Hp h0 h nx (.arr on (List.replicate cells .nils) :: .arr bx [I cells, encT lines] :: L))
  (hK : ∀ x7 x8 x9 x20 x21 x22 x23 x24 x25 h' nx' o, Hp h0 h' nx' (Lt on bx cells lines o (onC lines) L) → K (F89.fr x0 x1 x2 x3 (.ptr bx 0) x5 (.sl on 0 cells (some cells) 1) x7 x8 x9 x10 x11 x12 x13 x14 x15 x16 x17 (encT lines) (I lines.length) x20 x21 x22 x23 x24 x25 x26 x27 x28 x29 x30 x31 x32 x33) h' nx' = .ok True) :
  IR.run F89.b1 (CS Tryz.prog B) N (fnO F89.res K0) K (F89.fr x0 x1 x2 x3 (.ptr bx 0) x5 (.sl on 0 cells (some cells) 1) x7 x8 x9 x10 x11 x12 x13 x14 x15 x16 x17 (encT lines) (I lines.length) (I 0) x21 x22 x23 x24 x25 x26 x27 x28 x29 x30 x31 x32 x33) h nx = .ok True := by
 refine F89.L1 (fun m x20 h' nx' => ∃ (i : Nat) (o : Nat → Option Pa), x20 = I i ∧ lines.length - i = m ∧ i ≤ lines.length ∧ Hp h0 h' nx' (Lt on bx cells lines o (onP lines i) L)) (m := lines.length) (by omega) ⟨0, fun _ => none, rfl, rfl, by omega, ?_⟩ ?_
 ·have H2 := (H.addE (E := rowL cells fun _ => Ob.gro none 1 0 []) fun x hx => by
   obtain ⟨j, _, rfl⟩ := rowL_mem hx
   exact ⟨rfl, fun _ => ⟨rfl, rfl⟩⟩).perm (List.perm_append_comm (l₂ := .arr on (List.replicate cells .nils) :: .arr bx [I cells, encT lines] :: L))
  refine (H2.perm (L' := .arr on (List.replicate cells .nils) :: .arr bx [I cells, encT lines] :: (rowL cells (fun _ => Ob.gro none 1 0 []) ++ L)) ?_).cast ?_
  ·exact (List.perm_append_comm.cons _).cons _
  ·rw [rowL_const]; rfl
 rintro m z7 z8 z9 z20 z21 z22 z23 z24 z25 h1 nx1 R ⟨i, o, rfl, rfl, hi, H1⟩ hR
 simp (disch := omega) only [sAdd, sSub, sMul, sEql, sNeq, sLss, sLeq, sGtr, sGeq, sPick_t, sPick_f, sCond_t, sCond_f, sG_tt, sG_ff, sG_tf, sG_ft, sNot_b, sExt0, sExt1, sExt2, sPart0, sPart1, sPart2, sLen_lst, sLen_sl, sLen_nils, sSame_refl, decide_true, decide_false, Bool.not_true, Bool.not_false, sChk_t]
 by_cases hlt : i < lines.length
 case neg =>
  simp only [show ¬ (i : Int) < (lines.length : Int) by omega, decide_false, sCond_f]
  obtain rfl : i = lines.length := by omega
  exact hK _ _ _ _ _ _ _ _ _ _ _ _ H1
 simp only [show (i : Int) < (lines.length : Int) by omega, decide_true, sCond_t]
 obtain ⟨line, hline⟩ : ∃ l, lines[i]? = some l := ⟨_, List.getElem?_eq_getElem hlt⟩
 have hmem := List.mem_of_getElem? hline
 have hgd : lines.getD i [] = line := by rw [List.getD_eq_getElem?_getD, hline]; rfl
 rw [sIxL rfl hlt, ldL (getT hline)]
 simp (disch := omega) only [sAdd, sSub, sMul, sEql, sNeq, sLss, sLeq, sGtr, sGeq, sPick_t, sPick_f, sCond_t, sCond_f, sG_tt, sG_ff, sG_tf, sG_ft, sNot_b, sExt0, sExt1, sExt2, sPart0, sPart1, sPart2, sLen_lst, sLen_sl, sLen_nils, sSame_refl, decide_true, decide_false, Bool.not_true, Bool.not_false, sChk_t]
 have hlw := hw _ hmem
 refine F89.L7 (fun m x24 h' nx' => ∃ (j : Nat) (o : Nat → Option Pa), x24 = I j ∧ line.length - j = m ∧ j ≤ line.length ∧ Hp h0 h' nx' (Lt on bx cells lines o (fun c => onP lines i c ++ ((line.take j).filter (· = (c : Int))).map fun _ => i) L)) (m := line.length) (by omega) ⟨0, o, rfl, rfl, by omega, H1.cast (by simp [Lt])⟩ ?_
 rintro m z9 z24 z25 h2 nx2 R2 ⟨j, o2, rfl, rfl, hj, H2⟩ hR2
 simp (disch := omega) only [sAdd, sSub, sMul, sEql, sNeq, sLss, sLeq, sGtr, sGeq, sPick_t, sPick_f, sCond_t, sCond_f, sG_tt, sG_ff, sG_tf, sG_ft, sNot_b, sExt0, sExt1, sExt2, sPart0, sPart1, sPart2, sLen_lst, sLen_sl, sLen_nils, sSame_refl, decide_true, decide_false, Bool.not_true, Bool.not_false, sChk_t]
 by_cases hjt : j < line.length
 case neg =>
  simp only [show ¬ (j : Int) < (line.length : Int) by omega, decide_false, sCond_f]
  rw [F89.k14]
  simp (disch := omega) only [sAdd, sSub, sMul, sEql, sNeq, sLss, sLeq, sGtr, sGeq, sPick_t, sPick_f, sCond_t, sCond_f, sG_tt, sG_ff, sG_tf, sG_ft, sNot_b, sExt0, sExt1, sExt2, sPart0, sPart1, sPart2, sLen_lst, sLen_sl, sLen_nils, sSame_refl, decide_true, decide_false, Bool.not_true, Bool.not_false, sChk_t]
  refine hR (lines.length - (i + 1)) _ _ _ _ _ _ _ _ _ _ _ (by omega) ⟨i + 1, o2, rfl, rfl, by omega, H2.cast ?_⟩
  have : ∀ c, onP lines (i + 1) c = onP lines i c ++ ((line.take j).filter (· = (c : Int))).map fun _ => i := fun c => by
   rw [onP_succ, hgd, List.take_of_length_le (by omega)]
  simp only [Lt, this]
 simp only [show (j : Int) < (line.length : Int) by omega, decide_true, sCond_t]
 obtain ⟨cz, hcz⟩ : ∃ c, line[j]? = some c := ⟨_, List.getElem?_eq_getElem hjt⟩
 have hcr := hl _ hmem cz (List.mem_of_getElem? hcz)
 obtain ⟨c, rfl⟩ : ∃ c : Nat, cz = c := ⟨cz.toNat, by omega⟩
 have hc : c < cells := by omega
 rw [sIxL rfl hjt, ldL (getI hcz), sIx (i := c) rfl hc, H2.load (k := 0) rfl (rowL_get hc)]
 refine H2.bslice (l := [I i]) rfl fun t h3 nx3 H3 => ?_
 refine H3.appN (k := c + 3) (o := o2 c) (c := 1) (new := [I i]) (by exact Lt_get (on := on) (bx := bx) (lines := lines) hc) (HasArr.rd (l := [I i]) (n := 1) (H3.own _ (List.mem_cons_self ..)) rfl) rfl rfl (by decide) (by decide) ?_ fun o' h4 nx4 _ H4 => ?_
 ·have h1 : (onP lines i c).length ≤ 128000 := by
   have : ∀ i, i ≤ lines.length → (onP lines i c).length ≤ i * 1000 := by
    intro i
    induction i with
    | zero => intro _; simp [onP]
    | succ i ih =>
     intro hi
     rw [onP_succ, List.length_append, List.length_map]
     have h2 := ih (by omega)
     have h3 : ((lines.getD i []).filter (· = (c : Int))).length ≤ 1000 := by
      refine Nat.le_trans (List.length_filter_le _ _) ?_
      rw [List.getD_eq_getElem?_getD, List.getElem?_eq_getElem (by omega)]
      exact hw _ (List.getElem_mem _)
     omega
   have h9 := this i hi
   clear this
   omega
  have h2 : (((line.take j).filter (· = (c : Int))).map fun _ => i).length ≤ 1000 := by
   rw [List.length_map]
   refine Nat.le_trans (List.length_filter_le _ _) ?_
   rw [List.length_take]; omega
  rw [List.length_append]; omega
 rw [sIx (i := c) rfl hc]
 refine H4.store (k := 1) rfl (by simpa using hc) (rowV_cells _ _ _) fun h5 H5 => ?_
 refine hR2 (line.length - (j + 1)) _ _ _ _ _ (by omega) ⟨j + 1, fun p => if p = c then o' else o2 p, rfl, rfl, by omega, H5.drop.cast ?_⟩
 have hD : ∀ p : Nat, (onP lines i p ++ ((line.take (j + 1)).filter (· = (p : Int))).map fun _ => i) = if p = c then (onP lines i c ++ ((line.take j).filter (· = (c : Int))).map fun _ => i) ++ [i] else onP lines i p ++ ((line.take j).filter (· = (p : Int))).map fun _ => i := fun p => by
  rw [List.take_add_one, hcz]
  by_cases e : p = c
  ·subst e; simp
  ·have : ¬ (c : Int) = (p : Int) := by omega
   simp [e, this]
 simp only [hD]
 simp only [Lt, List.set_cons_succ, List.set_cons_zero, List.tail_cons]
 have e1 : ∀ x : Ob, (rowL cells (fun p => Ob.gro (o2 p) 1 (onP lines i p ++ ((line.take j).filter (· = (p : Int))).map fun _ => i).length ((onP lines i p ++ ((line.take j).filter (· = (p : Int))).map fun _ => i).map nI)) ++ L).set c x = rowL cells (fun p => if p = c then x else Ob.gro (o2 p) 1 (onP lines i p ++ ((line.take j).filter (· = (p : Int))).map fun _ => i).length ((onP lines i p ++ ((line.take j).filter (· = (p : Int))).map fun _ => i).map nI)) ++ L := fun x => by
  rw [List.set_append_left _ _ (by simpa using hc), rowL_set]
 rw [e1, rowL_set]
 congr 1
 ·congr 1
  refine rowL_congr fun p _ => ?_
  by_cases e : p = c
  ·subst e; simp [Nat.add_assoc]
  ·simp [e]
 ·congr 2
  refine rowL_congr fun p _ => ?_
  by_cases e : p = c
  ·subst e; simp [Nat.add_assoc]
  ·simp [e]
theorem sConv_u8 {k : IntKind} {x : Nat} {K : AV → OP} : sConv .u8 (.int k (x : Int)) K = K (u8 (x % 256)) := by
 show intK (wrapF .u8 (x : Int)) (fun z => K (.int .u8 z)) = _
 rw [intK_eq, wrapF_eq, IntKind.wrap_u8]
 have : u8 (x % 256) = .int .u8 ((x : Int) % 256) := by unfold u8; congr 1
 rw [this]
theorem sAdd_u8 {x y : Nat} {K : AV → OP} : sBin .add .int (u8 x) (u8 y) K = K (u8 ((x + y) % 256)) := by
 rw [sAddW, IntKind.wrap_u8]
 have : u8 ((x + y) % 256) = .int .u8 (((x : Int) + (y : Int)) % 256) := by unfold u8; congr 1
 rw [this]
theorem F89.add {N : Nat} {K0 : Kw Prop} {E4 E5 E6 E7 E8 E9 K : Ks Prop} {h0 h : T Blk} {nx : Pa} {L : List Ob} {x0 x1 x2 x3 x4 x5 x6 x7 x8 x9 x10 x11 x12 x13 x14 x17 x18 x19 x20 x21 x22 x23 x24 x25 x26 x27 x28 x29 x33 : AV} {yb : Pa} {y : Key} {idx : List Nat} {o : Option Pa} {k c : Nat} (hN : 100000000 < N) (hy : y.length ≤ 128) (hi : ∀ x ∈ idx, x < y.length) (hn : idx.length ≤ 1000000)
  (H : Hp h0 h nx (.arr yb (cellsK y) :: L)) (hc : L[c]? = some (.gro o 1 idx.length (idx.map nI)))
  (hK : ∀ x17 x32 x33 h' nx', Hp h0 h' nx' (.arr yb (cellsK (addL y idx k)) :: L) → K (F89.fr x0 x1 x2 x3 x4 x5 x6 x7 x8 x9 x10 x11 x12 x13 x14 (I k) (.ptr yb 0) x17 x18 x19 x20 x21 x22 x23 x24 x25 x26 x27 x28 x29 (rowV o 1 idx.length) (I idx.length) x32 x33) h' nx' = .ok True) :
  IR.run F89.b33 (CS Tryz.prog B) N (((((((fnO F89.res K0).blk 4 E4).blk 5 E5).blk 6 E6).blk 7 E7).blk 8 E8).blk 9 E9) K (F89.fr x0 x1 x2 x3 x4 x5 x6 x7 x8 x9 x10 x11 x12 x13 x14 (I k) (.ptr yb 0) x17 x18 x19 x20 x21 x22 x23 x24 x25 x26 x27 x28 x29 (rowV o 1 idx.length) (I idx.length) (I 0) x33) h nx = .ok True := by
 refine F89.L33 (fun m x32 h' nx' => ∃ j : Nat, x32 = I j ∧ idx.length - j = m ∧ j ≤ idx.length ∧ Hp h0 h' nx' (.arr yb (cellsK (addL y (idx.take j) k)) :: L)) (m := idx.length) (by omega) ⟨0, rfl, rfl, by omega, H⟩ ?_
 rintro m z17 z32 z33 h1 nx1 R ⟨j, rfl, rfl, hj, H1⟩ hR
 simp (disch := omega) only [sAdd, sSub, sMul, sEql, sNeq, sLss, sLeq, sGtr, sGeq, sPick_t, sPick_f, sCond_t, sCond_f, sG_tt, sG_ff, sG_tf, sG_ft, sNot_b, sExt0, sExt1, sExt2, sPart0, sPart1, sPart2, sLen_lst, sLen_sl, sLen_nils, sSame_refl, decide_true, decide_false, Bool.not_true, Bool.not_false, sChk_t]
 by_cases hlt : j < idx.length
 case neg =>
  simp only [show ¬ (j : Int) < (idx.length : Int) by omega, decide_false, sCond_f]
  rw [List.take_of_length_le (by omega)] at H1
  exact hK _ _ _ _ _ H1
 simp only [show (j : Int) < (idx.length : Int) by omega, decide_true, sCond_t]
 obtain ⟨x, hx⟩ : ∃ x, idx[j]? = some x := ⟨_, List.getElem?_eq_getElem hlt⟩
 have hxl := hi x (List.mem_of_getElem? hx)
 obtain ⟨id, q1, q2⟩ := H1.groIx (k := c + 1) (by exact hc) (v := I x) (by rw [List.getElem?_map, hx]; rfl)
 have hyl : x < (addL y (idx.take j) k).length := by simpa using hxl
 rw [q1, q2, sAx (i := x) rfl (by omega), H1.load (k := 0) rfl (cellsK_get (List.getElem?_eq_getElem hyl)), sConv_u8, sAdd_u8, sAx (i := x) rfl (by omega)]
 refine H1.store (k := 0) rfl (by rw [cellsK_length (by simpa using hy)]; omega) rfl fun h2 H2 => ?_
 refine hR (idx.length - (j + 1)) _ _ _ _ _ (by omega) ⟨j + 1, rfl, rfl, by omega, H2.cast ?_⟩
 rw [List.set_cons_zero, cellsK_set hyl, List.take_add_one, hx]
 show _ = .arr yb (cellsK (addL y (idx.take j ++ [x]) k)) :: L
 rw [addL_snoc, addAt]
 congr 3
 congr 1
 rw [List.getD_eq_getElem?_getD, List.getElem?_eq_getElem hyl]
 simp
theorem Hp.dropL {h0 h : T Blk} {nx : Pa} : ∀ {A L : List Ob}, Hp h0 h nx (A ++ L) → Hp h0 h nx L
 | [], _, H => H
 | _ :: _, _, H => Hp.dropL H.drop
theorem Hp.dropMid {h0 h : T Blk} {nx : Pa} {A L : List Ob} {x : Ob} (H : Hp h0 h nx (x :: (A ++ L))) : Hp h0 h nx (x :: L) :=
 Hp.dropL (H.perm List.perm_middle.symm)
theorem F89.ks {N : Nat} {K0 : Kw Prop} {E4 E5 E6 E7 K : Ks Prop} {h0 h : T Blk} {nx : Pa} {Lr : List Ob} {x0 x1 x2 x4 x5 x7 x8 x9 x10 x16 x17 x18 x19 x20 x21 x22 x23 x24 x25 x26 x27 x28 x29 x30 x31 x32 x33 : AV} {xb nid on : Pa} {hdr : List AV} {x : Key} {idx : List Nat} {o : Option Pa} {ks G : List Key} {m most n p q r c cells : Nat} (hN : 100000000 < N) (hm : m ≤ 128) (hx : x.length = m) (hi : ∀ z ∈ idx, z < m) (hidx : idx.length ≤ 1000000) (hmost : most ≤ 1000) (hn : 1 ≤ n) (hG : G.length + (most + 2) * n ≤ 4000000000000000000)
  (H : Hp h0 h nx (.arr xb (cellsK x) :: Lr)) (hp : Lr[p]? = some (.map nid (ks.map (entK (cntV G))))) (O : KsOk m ks G) (hq : Lr[q]? = some (.arr on hdr)) (hqp : p ≠ q) (hh : hdr[c]? = some (rowV o 1 idx.length)) (hr : Lr[r]? = some (.gro o 1 idx.length (idx.map nI))) (hrp : p ≠ r) (hc : c < cells)
  (hK : ∀ x15 x16 x17 x29 x30 x31 x32 x33 h' nx' ks', KsOk m ks' (blk x idx n (most + 1) ++ G) → Hp h0 h' nx' (.arr xb (cellsK x) :: Lr.set p (.map nid (ks'.map (entK (cntV (blk x idx n (most + 1) ++ G)))))) → K (F89.fr x0 x1 x2 (I most) x4 x5 (.sl on 0 cells (some cells) 1) x7 x8 x9 x10 (I c) (.map nid) (.ptr xb 0) (I n) x15 x16 x17 x18 x19 x20 x21 x22 x23 x24 x25 x26 x27 x28 x29 x30 x31 x32 x33) h' nx' = .ok True) :
  IR.run F89.b27 (CS Tryz.prog B) N (((((fnO F89.res K0).blk 4 E4).blk 5 E5).blk 6 E6).blk 7 E7) K (F89.fr x0 x1 x2 (I most) x4 x5 (.sl on 0 cells (some cells) 1) x7 x8 x9 x10 (I c) (.map nid) (.ptr xb 0) (I n) (I 0) x16 x17 x18 x19 x20 x21 x22 x23 x24 x25 x26 x27 x28 x29 x30 x31 x32 x33) h nx = .ok True := by
 refine F89.L27 (fun m' x15 h' nx' => ∃ (k : Nat) (ks' : List Key), x15 = I k ∧ most + 1 - k = m' ∧ k ≤ most + 1 ∧ KsOk m ks' (blk x idx n k ++ G) ∧ Hp h0 h' nx' (.arr xb (cellsK x) :: Lr.set p (.map nid (ks'.map (entK (cntV (blk x idx n k ++ G))))))) (m := most + 1) (by omega) ⟨0, ks, rfl, rfl, by omega, O, H.cast ?_⟩ ?_
 ·have e : Lr.set p (.map nid (ks.map (entK (cntV G)))) = Lr := by rw [(getSplit hp).2]; exact (getSplit hp).1.symm
  exact congrArg _ e.symm
 rintro m' z15 z16 z17 z29 z30 z31 z32 z33 h1 nx1 R ⟨k, ks1, rfl, rfl, hk, O1, H1⟩ hR
 simp (disch := omega) only [sAdd, sSub, sMul, sEql, sNeq, sLss, sLeq, sGtr, sGeq, sPick_t, sPick_f, sCond_t, sCond_f, sG_tt, sG_ff, sG_tf, sG_ft, sNot_b, sExt0, sExt1, sExt2, sPart0, sPart1, sPart2, sLen_lst, sLen_sl, sLen_nils, sSame_refl, decide_true, decide_false, Bool.not_true, Bool.not_false, sChk_t]
 by_cases hlt : k ≤ most
 case neg =>
  simp only [show ¬ (k : Int) ≤ (most : Int) by omega, decide_false, sCond_f]
  obtain rfl : k = most + 1 := by omega
  exact hK _ _ _ _ _ _ _ _ _ _ _ O1 H1
 simp only [show (k : Int) ≤ (most : Int) by omega, decide_true, sCond_t]
 have hpl := (List.getElem?_eq_some_iff.1 hp).1
 rw [H1.loadN (k := 0) rfl (cellsK_length (by omega))]
 refine H1.alloc fun yb h2 nx2 H2 => ?_
 refine H2.storeN (k := 0) rfl rfl (cellsK_length (by omega)) fun h3 H3 => ?_
 have H3 : Hp h0 h3 nx2 (.arr yb (cellsK x) :: .arr xb (cellsK x) :: Lr.set p (.map nid (ks1.map (entK (cntV (blk x idx n k ++ G)))))) := H3
 have hq3 : (Lr.set p (.map nid (ks1.map (entK (cntV (blk x idx n k ++ G))))))[q]? = some (.arr on hdr) := by rw [List.getElem?_set_ne hqp]; exact hq
 have hr3 : (Lr.set p (.map nid (ks1.map (entK (cntV (blk x idx n k ++ G))))))[r]? = some (.gro o 1 idx.length (idx.map nI)) := by rw [List.getElem?_set_ne hrp]; exact hr
 rw [sIx (i := c) rfl hc, H3.load (k := q + 2) hq3 hh, H3.groLen (k := r + 2) hr3]
 refine F89.add (k := k) hN (by omega) (fun z hz => by rw [hx]; exact hi z hz) hidx H3 (c := r + 1) hr3 fun y17 y32 y33 h4 nx4 H4 => ?_
 rw [F89.k40]
 rw [H4.loadN (k := 0) rfl (cellsK_length (by rw [addL_length]; omega))]
 have hlen : (blk x idx n k ++ G).length + n ≤ 4000000000000000000 := by
  rw [List.length_append, blk_length]
  have : k * n + n ≤ (most + 2) * n := by
   have := Nat.mul_le_mul_right n (show k + 1 ≤ most + 2 by omega)
   rw [Nat.add_mul] at this; omega
  omega
 refine H4.mapAdd (k := p + 2) (nn := n) (y := addL x idx k) hm (by exact List.getElem?_set_self hpl) O1 (by rw [addL_length]; exact hx) hn (by omega) (K := fun h9 n10 => IR.run F89.b41 (CS Tryz.prog B) N ((((((fnO F89.res K0).blk 4 E4).blk 5 E5).blk 6 E6).blk 7 E7).blk 8 K) R _ h9 n10) fun h5 ks2 O2 H5 => ?_
 rw [F89.k41, sAdd (by omega)]
 refine hR (most + 1 - (k + 1)) _ _ _ _ _ _ _ _ _ _ (by omega) ⟨k + 1, ks2, rfl, rfl, by omega, O2.perm (by simp [blk]), H5.drop.cast ?_⟩
 simp only [List.set_cons_succ, List.tail_cons, List.set_set]
 rw [blk, List.append_assoc]
abbrev blkAt (ks G : List Key) (idx : List Nat) (most : Nat) (i : Nat) : List Key := blk (ks.getD i []) idx (G.count (ks.getD i [])) (most + 1)
theorem flatMap_len {α : Type} {f : α → List Key} {M : Nat} : ∀ (l : List α), (∀ i ∈ l, (f i).length ≤ M) → (l.flatMap f).length ≤ l.length * M
 | [], _ => by simp
 | a :: l, h => by
  have h1 := h a (by simp)
  have h2 := flatMap_len l fun i hi => h i (by simp [hi])
  rw [List.flatMap_cons, List.length_append, List.length_cons, Nat.add_mul]; omega
theorem F89.ents {N : Nat} {K0 : Kw Prop} {E4 E5 K : Ks Prop} {h0 h : T Blk} {nx : Pa} {L : List Ob} {x0 x1 x2 x4 x5 x7 x8 x9 x10 x13 x14 x15 x16 x17 x18 x19 x20 x21 x22 x23 x24 x25 x26 x28 x29 x30 x31 x32 x33 : AV} {it mid nid on bx : Pa} {o : Nat → Option Pa} {lines : List (List Int)} {ksM GM : List Key} {most c cells : Nat} (hN : 100000000 < N) (hm : lines.length ≤ 128) (hD : ∀ c, (onC lines c).length ≤ 1000000) (hmost : most ≤ 1000) (hGM : GM.length ≤ 1000000) (O : KsOk lines.length ksM GM) (hkl : ksM.length ≤ 1000000) (hc : c < cells)
  (H : Hp h0 h nx (.iter it mid (ksM.map (entK (cntV GM))).length [] (ksM.map (entK (cntV GM))).length :: .map nid [] :: .map mid (ksM.map (entK (cntV GM))) :: Lt on bx cells lines o (onC lines) L))
  (hK : ∀ x13 x14 x15 x16 x17 x28 x29 x30 x31 x32 x33 h' nx' ks' G', KsOk lines.length ks' G' → G'.Perm (GM.flatMap fun x => (List.range (most + 1)).map fun k => addL x (onC lines c) k) → Hp h0 h' nx' (.map nid (ks'.map (entK (cntV G'))) :: .map mid (ksM.map (entK (cntV GM))) :: Lt on bx cells lines o (onC lines) L) → K (F89.fr x0 x1 x2 (I most) x4 x5 (.sl on 0 cells (some cells) 1) x7 x8 x9 x10 (I c) (.map nid) x13 x14 x15 x16 x17 x18 x19 x20 x21 x22 x23 x24 x25 x26 (.ptr it 0) x28 x29 x30 x31 x32 x33) h' nx' = .ok True) :
  IR.run F89.b22 (CS Tryz.prog B) N (((fnO F89.res K0).blk 4 E4).blk 5 E5) K (F89.fr x0 x1 x2 (I most) x4 x5 (.sl on 0 cells (some cells) 1) x7 x8 x9 x10 (I c) (.map nid) x13 x14 x15 x16 x17 x18 x19 x20 x21 x22 x23 x24 x25 x26 (.ptr it 0) x28 x29 x30 x31 x32 x33) h nx = .ok True := by
 refine F89.L22 (fun m' h' nx' => ∃ (seen : List Nat) (ks' : List Key), (leftA ksM.length seen).length = m' ∧ seen.length + m' = ksM.length ∧ seen.Nodup ∧ (∀ i ∈ seen, i < ksM.length) ∧ KsOk lines.length ks' (seen.flatMap (blkAt ksM GM (onC lines c) most)) ∧
  Hp h0 h' nx' (.iter it mid (ksM.map (entK (cntV GM))).length seen (ksM.map (entK (cntV GM))).length :: .map nid (ks'.map (entK (cntV (seen.flatMap (blkAt ksM GM (onC lines c) most))))) :: .map mid (ksM.map (entK (cntV GM))) :: Lt on bx cells lines o (onC lines) L)) (m := ksM.length) (by omega) ⟨[], [], by (have e : leftA ksM.length [] = List.range ksM.length := List.filter_eq_self.2 (by simp)); rw [e]; simp, by simp, by simp, by simp, KsOk.nil _, H⟩ ?_
 rintro m' z13 z14 z15 z16 z17 z28 z29 z30 z31 z32 z33 h1 nx1 R ⟨seen, ks1, rfl, hsl, hnd, hlt, O1, H1⟩ hR
 refine H1.next (k := 0) (j := 2) rfl rfl (fun hall => ?_) fun i a b h2 hi hns hab H2 => ?_
 ·simp (disch := omega) only [sAdd, sSub, sMul, sEql, sNeq, sLss, sLeq, sGtr, sGeq, sPick_t, sPick_f, sCond_t, sCond_f, sG_tt, sG_ff, sG_tf, sG_ft, sNot_b, sExt0, sExt1, sExt2, sPart0, sPart1, sPart2, sLen_lst, sLen_sl, sLen_nils, sSame_refl, decide_true, decide_false, Bool.not_true, Bool.not_false, sChk_t]
  refine hK _ _ _ _ _ _ _ _ _ _ _ _ _ ks1 _ O1 ?_ H1.drop
  have hsp := seen_perm hnd hlt fun i hi => hall i (by simpa using hi)
  refine (hsp.flatMap_right _).trans ?_
  have e : (List.range ksM.length).flatMap (blkAt ksM GM (onC lines c) most) = ksM.flatMap fun x => blk x (onC lines c) (GM.count x) (most + 1) := by
   have : ksM = (List.range ksM.length).map fun i => ksM.getD i [] := by
    have := rowL_self ksM []
    exact this
   conv => rhs; rw [this]
   rw [List.flatMap_map]
  rw [e]
  exact next_perm ksM GM (onC lines c) (most + 1) O.nd O.mem
 ·have hi' : i < ksM.length := by simpa using hi
  obtain ⟨x, hx⟩ : ∃ x, ksM[i]? = some x := ⟨_, List.getElem?_eq_getElem hi'⟩
  have hxm := List.mem_of_getElem? hx
  rw [List.getElem?_map, hx] at hab
  obtain ⟨rfl, rfl⟩ : encK x = a ∧ cntV GM x = b := by simpa [entK] using hab
  have hgx : ksM.getD i [] = x := by rw [List.getD_eq_getElem?_getD, hx]; rfl
  have hxl := O.klen x hxm
  have hcx : 1 ≤ GM.count x := List.count_pos_iff.2 ((O.mem x).1 hxm)
  have hcx2 : GM.count x ≤ GM.length := List.count_le_length
  simp (disch := omega) only [sAdd, sSub, sMul, sEql, sNeq, sLss, sLeq, sGtr, sGeq, sPick_t, sPick_f, sCond_t, sCond_f, sG_tt, sG_ff, sG_tf, sG_ft, sNot_b, sExt0, sExt1, sExt2, sPart0, sPart1, sPart2, sLen_lst, sLen_sl, sLen_nils, sSame_refl, decide_true, decide_false, Bool.not_true, Bool.not_false, sChk_t]
  have hent : (ksM.map (entK (cntV GM)))[i]? = some (encK x, cntV GM x) := by rw [List.getElem?_map, hx]; rfl
  rw [H2.entry (k := 0) (j := 2) rfl rfl hent]
  simp (disch := omega) only [sAdd, sSub, sMul, sEql, sNeq, sLss, sLeq, sGtr, sGeq, sPick_t, sPick_f, sCond_t, sCond_f, sG_tt, sG_ff, sG_tf, sG_ft, sNot_b, sExt0, sExt1, sExt2, sPart0, sPart1, sPart2, sLen_lst, sLen_sl, sLen_nils, sSame_refl, decide_true, decide_false, Bool.not_true, Bool.not_false, sChk_t]
  refine H2.alloc fun xb h3 nx3 H3 => ?_
  refine H3.storeN (k := 0) rfl rfl (cellsK_length (by omega)) fun h4 H4 => ?_
  have hb : ∀ j ∈ seen, (blkAt ksM GM (onC lines c) most j).length ≤ 1001 * 1000000 := fun j _ => by
   rw [blk_length]
   exact Nat.mul_le_mul (by omega) (Nat.le_trans List.count_le_length hGM)
  have hfl : (seen.flatMap (blkAt ksM GM (onC lines c) most)).length ≤ seen.length * (1001 * 1000000) := flatMap_len seen hb
  have hsl2 : seen.length * (1001 * 1000000) ≤ 1000000 * (1001 * 1000000) := Nat.mul_le_mul_right _ (by omega)
  have hmn : (most + 2) * GM.count x ≤ 1002 * 1000000 := Nat.mul_le_mul (by omega) (by omega)
  refine F89.ks (most := most) (n := GM.count x) (p := 1) (q := 3) (r := c + 5) (idx := onC lines c) (o := o c) hN hm hxl (fun z hz => onP_lt hz) (hD c) hmost hcx (by omega) H4 rfl O1 rfl (by decide) (rowL_get hc) (by exact Lt_get (on := on) (bx := bx) (lines := lines) hc) (by omega) hc fun y15 y16 y17 y29 y30 y31 y32 y33 h5 nx5 ks2 O2 H5 => ?_
  have hst := leftA_step hi' hns
  have e : (i :: seen).flatMap (blkAt ksM GM (onC lines c) most) = blk x (onC lines c) (GM.count x) (most + 1) ++ seen.flatMap (blkAt ksM GM (onC lines c) most) := by
   rw [List.flatMap_cons, blkAt, hgx]
  refine hR _ _ _ _ _ _ _ _ _ _ _ _ _ _ (by omega) ⟨i :: seen, ks2, rfl, by simp; omega, List.nodup_cons.2 ⟨hns, hnd⟩, fun j hj => ?_, by rw [e]; exact O2, by rw [e]; exact H5.drop⟩
  rcases List.mem_cons.1 hj with rfl | q
  ·exact hi'
  ·exact hlt j q
theorem Hp.swap {h0 h : T Blk} {nx : Pa} {a b : Ob} {L : List Ob} (H : Hp h0 h nx (a :: b :: L)) : Hp h0 h nx (b :: a :: L) := H.perm (.swap _ _ _)
theorem F89.cells {N : Nat} {K0 : Kw Prop} {K : Ks Prop} {h0 h : T Blk} {nx : Pa} {L : List Ob} {x0 x1 x4 x5 x7 x8 x9 x12 x13 x14 x15 x16 x17 x18 x19 x20 x21 x22 x23 x24 x25 x26 x27 x28 x29 x30 x31 x32 x33 : AV} {mid on bx : Pa} {o : Nat → Option Pa} {lines : List (List Int)} {most fr to cells : Nat} (hN : 100000000 < N) (hm : lines.length ≤ 128) (hD : ∀ c, (onC lines c).length ≤ 1000000) (hmost : most ≤ 1000) (hfr : fr ≤ to) (hto : to ≤ cells) (hcl : cells ≤ 1000000) (hpow : (most + 1) ^ (to - fr) ≤ 1000000)
  (H : Hp h0 h nx (.map mid ([List.replicate lines.length 0].map (entK (cntV [List.replicate lines.length 0]))) :: Lt on bx cells lines o (onC lines) L))
  (hK : ∀ x12 x13 x14 x15 x16 x17 x26 x27 x28 x29 x30 x31 x32 x33 h' nx' id ks G, KsOk lines.length ks G → G.Perm (tallyT lines most fr (to - fr)) → Hp h0 h' nx' (.map id (ks.map (entK (cntV G))) :: Lt on bx cells lines o (onC lines) L) → K (F89.fr x0 x1 (I to) (I most) x4 x5 (.sl on 0 cells (some cells) 1) x7 x8 x9 (.map id) (I to) x12 x13 x14 x15 x16 x17 x18 x19 x20 x21 x22 x23 x24 x25 x26 x27 x28 x29 x30 x31 x32 x33) h' nx' = .ok True) :
  IR.run F89.b16 (CS Tryz.prog B) N (fnO F89.res K0) K (F89.fr x0 x1 (I to) (I most) x4 x5 (.sl on 0 cells (some cells) 1) x7 x8 x9 (.map mid) (I fr) x12 x13 x14 x15 x16 x17 x18 x19 x20 x21 x22 x23 x24 x25 x26 x27 x28 x29 x30 x31 x32 x33) h nx = .ok True := by
 refine F89.L16 (fun m' x10 x11 h' nx' => ∃ (c : Nat) (mid : Pa) (ks G : List Key), x10 = .map mid ∧ x11 = I c ∧ to - c = m' ∧ fr ≤ c ∧ c ≤ to ∧ KsOk lines.length ks G ∧ G.Perm (tallyT lines most fr (c - fr)) ∧ Hp h0 h' nx' (.map mid (ks.map (entK (cntV G))) :: Lt on bx cells lines o (onC lines) L)) (m := to - fr) (by omega)
  ⟨fr, mid, [List.replicate lines.length 0], [List.replicate lines.length 0], rfl, rfl, rfl, Nat.le_refl _, hfr, ⟨by simp, by simp, by simp⟩, by rw [Nat.sub_self]; exact .refl _, H⟩ ?_
 rintro m' z10 z11 z12 z13 z14 z15 z16 z17 z26 z27 z28 z29 z30 z31 z32 z33 h1 nx1 R ⟨c, mid1, ks1, G1, rfl, rfl, rfl, hc1, hc2, O1, hp1, H1⟩ hR
 simp (disch := omega) only [sAdd, sSub, sMul, sEql, sNeq, sLss, sLeq, sGtr, sGeq, sPick_t, sPick_f, sCond_t, sCond_f, sG_tt, sG_ff, sG_tf, sG_ft, sNot_b, sExt0, sExt1, sExt2, sPart0, sPart1, sPart2, sLen_lst, sLen_sl, sLen_nils, sSame_refl, decide_true, decide_false, Bool.not_true, Bool.not_false, sChk_t]
 by_cases hlt : c < to
 case neg =>
  simp only [show ¬ (c : Int) < (to : Int) by omega, decide_false, sCond_f]
  obtain rfl : c = to := by omega
  exact hK _ _ _ _ _ _ _ _ _ _ _ _ _ _ _ _ _ _ _ O1 hp1 H1
 simp only [show (c : Int) < (to : Int) by omega, decide_true, sCond_t]
 refine H1.mkmap fun nid h2 nx2 H2 => ?_
 refine H2.range (k := 1) rfl fun it h3 nx3 H3 => ?_
 have hlen : G1.length ≤ 1000000 := by
  rw [hp1.length_eq, tallyT_length]
  exact Nat.le_trans (Nat.pow_le_pow_right (by omega) (by omega)) hpow
 have hkl : ks1.length ≤ G1.length := by
  have h1 := (perm_self ks1 G1 O1.nd O1.mem).length_eq
  rw [← h1, List.length_flatMap]
  have : ∀ l : List Key, (∀ y ∈ l, y ∈ G1) → l.length ≤ (l.map fun x => (List.replicate (G1.count x) x).length).sum := by
   intro l
   induction l with
   | nil => simp
   | cons a l ih =>
    intro h
    have h2 := ih fun y hy => h y (by simp [hy])
    have h3 : 1 ≤ G1.count a := List.count_pos_iff.2 (h a (by simp))
    simp only [List.map_cons, List.sum_cons, List.length_cons, List.length_replicate] at h2 ⊢
    omega
  exact this ks1 fun y hy => (O1.mem y).1 hy
 refine F89.ents (c := c) (o := o) (bx := bx) (L := L) hN hm hD hmost hlen O1 (by omega) (by omega) H3 fun y13 y14 y15 y16 y17 y28 y29 y30 y31 y32 y33 h4 nx4 ks2 G2 O2 hp2 H4 => ?_
 rw [F89.k42, F89.k43, sAdd (by omega)]
 refine hR (to - (c + 1)) _ _ _ _ _ _ _ _ _ _ _ _ _ _ _ _ _ _ (by omega) ⟨c + 1, nid, ks2, G2, rfl, rfl, rfl, by omega, by omega, O2, ?_, H4.swap.drop⟩
 rw [show c + 1 - fr = (c - fr) + 1 by omega, tallyT, show fr + (c - fr) = c by omega]
 exact hp2.trans (hp1.flatMap_right _)
theorem tally89 {h0 h : T Blk} {nx : Pa} {L : List Ob} {lines : List (List Int)} {most fr to cells : Nat} {p : Pa} {K : Kw Prop} (hm : lines.length ≤ 128) (hw : ∀ l ∈ lines, l.length ≤ 1000) (hl : ∀ l ∈ lines, ∀ c ∈ l, 0 ≤ c ∧ c < (cells : Int)) (hmost : most ≤ 1000) (hfr : fr ≤ to) (hto : to ≤ cells) (hcl : cells ≤ 1000000) (hpow : (most + 1) ^ (to - fr) ≤ 1000000) (H : Hp h0 h nx L)
  (hK : ∀ h' nx' id ks G, KsOk lines.length ks G → G.Perm (tallyT lines most fr (to - fr)) → Hp h0 h' nx' (.map id (ks.map (entK (cntV G))) :: L) → K (.map id) h' nx' = .ok True) :
  (CS Tryz.prog B).fn 89 p [.agg [I cells, encT lines], I fr, I to, I most] h nx K = .ok True := by
 have hD : ∀ c, (onC lines c).length ≤ 1000000 := fun c => by
  have : ∀ i, i ≤ lines.length → (onP lines i c).length ≤ i * 1000 := by
   intro i
   induction i with
   | zero => intro _; simp [onP]
   | succ i ih =>
    intro hi
    rw [onP_succ, List.length_append, List.length_map]
    have h2 := ih (by omega)
    have h3 : ((lines.getD i []).filter (· = (c : Int))).length ≤ 1000 := by
     refine Nat.le_trans (List.length_filter_le _ _) ?_
     rw [List.getD_eq_getElem?_getD, List.getElem?_eq_getElem (by omega)]
     exact hw _ (List.getElem_mem _)
    omega
  have h9 := this _ (Nat.le_refl _)
  clear this
  show (onP lines lines.length c).length ≤ _
  omega
 refine CS_fn_mono (p := .of 89) (K := K) (by_body tbl_ok dreg 1000000000 fun hf => ?_) fun _ _ _ _ q => q
 rw [F89.go]
 refine H.box (l := [I cells, encT lines]) rfl fun bx h1 nx1 H1 => ?_
 rw [sFx, H1.load (k := 0) (i := 0) rfl rfl]
 refine H1.mk1 cells rfl rfl hcl (by decide) fun on h2 nx2 H2 => ?_
 rw [sFx, H2.load (k := 1) (i := 0 + 1) rfl rfl]
 simp (disch := omega) only [sAdd, sSub, sMul, sEql, sNeq, sLss, sLeq, sGtr, sGeq, sPick_t, sPick_f, sCond_t, sCond_f, sG_tt, sG_ff, sG_tf, sG_ft, sNot_b, sExt0, sExt1, sExt2, sPart0, sPart1, sPart2, sLen_lst, sLen_sl, sLen_nils, sSame_refl, decide_true, decide_false, Bool.not_true, Bool.not_false, sChk_t]
 refine F89.on (by decide) hm hw hl H2 fun y7 y8 y9 y20 y21 y22 y23 y24 y25 h3 nx3 o H3 => ?_
 rw [F89.k15]
 refine H3.mkmap fun mid h4 nx4 H4 => ?_
 have hz : encK (List.replicate lines.length 0) = .agg (List.replicate 128 (u8 0)) := by rw [encK, cellsK_zero hm]
 have hb : ∀ (z : List AV) (op : AV → OP), sBuild z [] op = op (.agg z) := fun z op => rfl
 rw [hb]
 have hz2 : AV.agg (List.replicate 128 (u8 0)) = encK (List.replicate lines.length 0) := hz.symm
 refine Eq.trans (b := sMapup (.agg 128) (.map mid) (AV.agg (List.replicate 128 (u8 0))) (I 1) h4 nx4 _) rfl ?_
 rw [hz2]
 refine H4.mapFirst (m := lines.length) hm (by simp) (k := 0) rfl fun h5 H5 => ?_
 refine F89.cells (o := o) (by decide) hm hD hmost hfr hto hcl hpow H5 fun y12 y13 y14 y15 y16 y17 y26 y27 y28 y29 y30 y31 y32 y33 h6 nx6 id ks G O6 hp6 H6 => ?_
 rw [F89.k44]
 exact hK _ _ _ _ _ O6 hp6 (Hp.dropMid (A := .arr on _ :: .arr bx _ :: rowL cells _) H6)
end Go.Ev
namespace Go.Ev
open Go Go.Proofs
variable {B : Nat}
theorem tallyT_lt (lines : List (List Int)) (most fr : Nat) : ∀ n, ∀ y ∈ tallyT lines most fr n, ∀ v ∈ y, v < 256
 | 0, y, h, v, hv => by
  rw [List.mem_singleton.1 h] at hv
  rw [(List.mem_replicate.1 hv).2]; decide
 | n + 1, y, h, v, hv => by
  simp only [tallyT, List.mem_flatMap, List.mem_map] at h
  obtain ⟨x, hx, k, _, rfl⟩ := h
  have ih := tallyT_lt lines most fr n x hx
  have : ∀ (idx : List Nat) (y : List Nat), (∀ v ∈ y, v < 256) → ∀ v ∈ addL y idx k, v < 256 := by
   intro idx
   induction idx with
   | nil => exact fun y h => h
   | cons i l ih2 =>
    intro y h
    refine ih2 _ fun v hv => ?_
    rcases List.mem_or_eq_of_mem_set hv with q | rfl
    ·exact h v q
    ·omega
  exact this _ _ ih v hv
def fB (sum : Nat) (G : List Key) (x : Key) : Nat := if x.all (fun v => decide (v ≤ sum)) then G.count (x.map fun v => sum - v) else 0
def bsum (lines : List (List Int)) (most sum half cells : Nat) : Nat := ((tallyT lines most 0 half).map (fB sum (tallyT lines most half (cells - half)))).sum
theorem sum_perm {α : Type} {l l' : List α} (f : α → Nat) (h : l.Perm l') : (l.map f).sum = (l'.map f).sum := by
 induction h with
 | nil => rfl
 | cons a _ ih => simp [ih]
 | swap a b l => simp; omega
 | trans _ _ h1 h2 => exact h1.trans h2
theorem sum_flat {f : Key → Nat} {G : List Key} : ∀ (l : List Key), ((l.flatMap fun x => List.replicate (G.count x) x).map f).sum = (l.map fun x => G.count x * f x).sum
 | [] => rfl
 | a :: l => by
  rw [List.flatMap_cons, List.map_append, List.sum_append, sum_flat l, List.map_cons, List.sum_cons]
  congr 1
  rw [List.map_replicate, List.sum_replicate_nat]
theorem sum_keys {f : Key → Nat} {ks G : List Key} {m : Nat} (O : KsOk m ks G) : (ks.map fun x => G.count x * f x).sum = (G.map f).sum := by
 rw [← sum_flat, sum_perm f (perm_self ks G O.nd O.mem)]
theorem fB_perm {sum : Nat} {G G' : List Key} (h : G.Perm G') : fB sum G = fB sum G' := by
 funext x; simp only [fB]; rw [h.count_eq]
theorem fB_le {sum : Nat} {G : List Key} {x : Key} : fB sum G x ≤ G.length := by
 unfold fB; split
 ·exact List.count_le_length
 ·omega
theorem sConv_i64 {k : IntKind} {x : Nat} {K : AV → OP} (h : x ≤ 1000000) : sConv .i64 (.int k (x : Int)) K = K (I x) := by
 show intK (wrapF .i64 (x : Int)) (fun z => K (.int .i64 z)) = _
 rw [intK_eq, wrapF_eq, wrap64_in (by omega)]
theorem sSub_u8 {x y : Nat} {K : AV → OP} (h : y ≤ x) (hx : x < 256) : sBin .sub .int (u8 x) (u8 y) K = K (u8 (x - y)) := by
 rw [sSubW, IntKind.wrap_u8]
 have : u8 (x - y) = .int .u8 (((x : Int) - (y : Int)) % 256) := by unfold u8; congr 1; omega
 rw [this]
theorem F31.rest {N : Nat} {K0 : Kw Prop} {E0 E1 K : Ks Prop} {h0 h : T Blk} {nx : Pa} {L : List Ob} {x0 x1 x3 x4 x5 x6 x7 x8 x9 x11 x13 x14 x15 x16 x17 x18 x21 x22 : AV} {xb rb : Pa} {x : Key} {sum m : Nat} (hN : 1000 < N) (hm : m ≤ 128) (hx : x.length = m) (hv : ∀ v ∈ x, v < 256) {s : Int} (hs : m = 0 ∨ (s = sum ∧ sum ≤ 255))
  (H : Hp h0 h nx (.arr rb (cellsK (List.replicate m 0)) :: .arr xb (cellsK x) :: L))
  (hno : ∀ x13 x20 x21 x22 h' nx', ¬ x.all (fun v => decide (v ≤ sum)) = true → Hp h0 h' nx' L → E1 (F31.fr x0 x1 (I s) x3 x4 x5 x6 x7 x8 x9 (.ptr xb 0) x11 (.ptr rb 0) x13 x14 x15 x16 x17 x18 (I m) x20 x21 x22) h' nx' = .ok True)
  (hK : ∀ x13 x20 x21 x22 h' nx', x.all (fun v => decide (v ≤ sum)) = true → Hp h0 h' nx' (.arr rb (cellsK (x.map fun v => sum - v)) :: .arr xb (cellsK x) :: L) → K (F31.fr x0 x1 (I s) x3 x4 x5 x6 x7 x8 x9 (.ptr xb 0) x11 (.ptr rb 0) x13 x14 x15 x16 x17 x18 (I m) x20 x21 x22) h' nx' = .ok True) :
  IR.run F31.b9 (CS Tryz.prog B) N (((fnO F31.res K0).blk 0 E0).blk 1 E1) K (F31.fr x0 x1 (I s) x3 x4 x5 x6 x7 x8 x9 (.ptr xb 0) x11 (.ptr rb 0) x13 x14 x15 x16 x17 x18 (I m) (I 0) x21 x22) h nx = .ok True := by
 refine F31.L9 (fun m' x20 h' nx' => ∃ j : Nat, x20 = I j ∧ m - j = m' ∧ j ≤ m ∧ (x.take j).all (fun v => decide (v ≤ sum)) = true ∧ Hp h0 h' nx' (.arr rb (cellsK ((x.take j).map (fun v => sum - v) ++ List.replicate (m - j) 0)) :: .arr xb (cellsK x) :: L)) (m := m) (by omega) ⟨0, rfl, rfl, by omega, rfl, H⟩ ?_
 rintro m' z13 z20 z21 z22 h1 nx1 R ⟨j, rfl, rfl, hj, hall, H1⟩ hR
 simp (disch := omega) only [sAdd, sSub, sMul, sEql, sNeq, sLss, sLeq, sGtr, sGeq, sPick_t, sPick_f, sCond_t, sCond_f, sG_tt, sG_ff, sG_tf, sG_ft, sNot_b, sExt0, sExt1, sExt2, sPart0, sPart1, sPart2, sLen_lst, sLen_sl, sLen_nils, sSame_refl, decide_true, decide_false, Bool.not_true, Bool.not_false, sChk_t]
 by_cases hlt : j < m
 case neg =>
  simp only [show ¬ (j : Int) < (m : Int) by omega, decide_false, sCond_f]
  obtain rfl : j = m := by omega
  rw [List.take_of_length_le (by omega)] at hall H1
  exact hK _ _ _ _ _ _ hall (H1.cast (by simp))
 simp only [show (j : Int) < (m : Int) by omega, decide_true, sCond_t]
 have hjx : j < x.length := by omega
 have hxj : x[j]? = some x[j] := List.getElem?_eq_getElem hjx
 have hv1 := hv _ (List.getElem_mem hjx)
 obtain ⟨rfl, hs'⟩ := hs.resolve_left (by omega)
 rw [sAx (i := j) rfl (by omega), H1.load (k := 1) rfl (cellsK_get hxj), sConv_i64 (by omega)]
 simp (disch := omega) only [sAdd, sSub, sMul, sEql, sNeq, sLss, sLeq, sGtr, sGeq, sPick_t, sPick_f, sCond_t, sCond_f, sG_tt, sG_ff, sG_tf, sG_ft, sNot_b, sExt0, sExt1, sExt2, sPart0, sPart1, sPart2, sLen_lst, sLen_sl, sLen_nils, sSame_refl, decide_true, decide_false, Bool.not_true, Bool.not_false, sChk_t]
 by_cases hle : x[j] ≤ sum
 case neg =>
  simp only [show (sum : Int) < (x[j] : Int) by omega, decide_true, sCond_t]
  refine hno _ _ _ _ _ _ (fun q => ?_) H1.drop.drop
  have := List.all_eq_true.1 q _ (List.getElem_mem hjx)
  exact hle (of_decide_eq_true this)
 simp only [show ¬ (sum : Int) < (x[j] : Int) by omega, decide_false, sCond_f]
 have hlen : ((x.take j).map (fun v => sum - v) ++ List.replicate (m - j) 0).length = m := by simp; omega
 rw [sConv_u8, Nat.mod_eq_of_lt (show sum < 256 by omega), sAx (i := j) rfl (by omega), H1.load (k := 1) rfl (cellsK_get hxj), sSub_u8 hle (by omega), sAx (i := j) rfl (by omega)]
 refine H1.store (k := 0) rfl (by rw [cellsK_length (by omega)]; omega) rfl fun h2 H2 => ?_
 refine hR (m - (j + 1)) _ _ _ _ _ _ (by omega) ⟨j + 1, by congr 1, rfl, by omega, ?_, H2.cast ?_⟩
 ·rw [List.take_add_one, hxj, List.all_append, hall]
  simp [hle]
 ·rw [List.set_cons_zero, cellsK_set (by omega), List.take_add_one, hxj]
  congr 3
  rw [List.set_append_right _ _ (by simp; omega)]
  have e : m - j = (m - (j + 1)) + 1 := by omega
  have e2 : j - ((x.take j).map fun v => sum - v).length = 0 := by simp; omega
  rw [e, e2, List.replicate_succ, List.set_cons_zero]
  simp only [Option.toList_some, List.map_append, List.map_cons, List.map_nil, List.append_assoc, List.cons_append, List.nil_append]
theorem sum_len {α : Type} {f : α → Nat} {M : Nat} : ∀ (l : List α), (∀ i ∈ l, f i ≤ M) → (l.map f).sum ≤ l.length * M
 | [], _ => by simp
 | a :: l, h => by
  have h1 := h a (by simp)
  have h2 := sum_len l fun i hi => h i (by simp [hi])
  rw [List.map_cons, List.sum_cons, List.length_cons, Nat.add_mul]; omega
abbrev termB (ks GL GR : List Key) (sum i : Nat) : Nat := GL.count (ks.getD i []) * fB sum GR (ks.getD i [])
theorem F31.meet {N : Nat} {K0 : Kw Prop} {K : Ks Prop} {h0 h : T Blk} {nx : Pa} {L : List Ob} {x0 x1 x4 x5 x6 x7 x10 x11 x12 x13 x14 x15 x16 x18 x19 x20 x21 x22 : AV} {it lid rid bx : Pa} {lines : List (List Int)} {ksL GL ksR GR : List Key} {sum cells : Nat} {s : Int} (hN : 100000000 < N) (hm : lines.length ≤ 128) (hs : lines.length = 0 ∨ (s = sum ∧ sum ≤ 255)) (OL : KsOk lines.length ksL GL) (OR : KsOk lines.length ksR GR) (hL : GL.length ≤ 1000000) (hR0 : GR.length ≤ 1000000) (hkl : ksL.length ≤ 1000000) (hlt : ∀ y ∈ GL, ∀ v ∈ y, v < 256)
  (H : Hp h0 h nx (.iter it lid (ksL.map (entK (cntV GL))).length [] (ksL.map (entK (cntV GL))).length :: .map lid (ksL.map (entK (cntV GL))) :: .map rid (ksR.map (entK (cntV GR))) :: .arr bx [I cells, encT lines] :: L))
  (hK : ∀ x10 x11 x12 x13 x18 x19 x20 x21 x22 h' nx' L', Hp h0 h' nx' L' → K (F31.fr x0 x1 (I s) (.ptr bx 0) x4 x5 x6 x7 (.map rid) (I ((GL.map (fB sum GR)).sum : Nat)) x10 x11 x12 x13 x14 x15 x16 (.ptr it 0) x18 x19 x20 x21 x22) h' nx' = .ok True) :
  IR.run F31.b4 (CS Tryz.prog B) N (fnO F31.res K0) K (F31.fr x0 x1 (I s) (.ptr bx 0) x4 x5 x6 x7 (.map rid) (I 0) x10 x11 x12 x13 x14 x15 x16 (.ptr it 0) x18 x19 x20 x21 x22) h nx = .ok True := by
 refine F31.L4 (fun m' x9 h' nx' => ∃ (seen : List Nat), x9 = I ((seen.map (termB ksL GL GR sum)).sum : Nat) ∧ (leftA ksL.length seen).length = m' ∧ seen.length + m' = ksL.length ∧ seen.Nodup ∧ (∀ i ∈ seen, i < ksL.length) ∧
  Hp h0 h' nx' (.iter it lid (ksL.map (entK (cntV GL))).length seen (ksL.map (entK (cntV GL))).length :: .map lid (ksL.map (entK (cntV GL))) :: .map rid (ksR.map (entK (cntV GR))) :: .arr bx [I cells, encT lines] :: L)) (m := ksL.length) (by omega) ⟨[], rfl, by (have e : leftA ksL.length [] = List.range ksL.length := List.filter_eq_self.2 (by simp)); rw [e]; simp, by simp, by simp, by simp, H⟩ ?_
 rintro m' z9 z10 z11 z12 z13 z18 z19 z20 z21 z22 h1 nx1 R ⟨seen, rfl, rfl, hsl, hnd, hse, H1⟩ hR
 refine H1.next (k := 0) (j := 1) rfl rfl (fun hall => ?_) fun i a b h2 hi hns hab H2 => ?_
 ·simp (disch := omega) only [sAdd, sSub, sMul, sEql, sNeq, sLss, sLeq, sGtr, sGeq, sPick_t, sPick_f, sCond_t, sCond_f, sG_tt, sG_ff, sG_tf, sG_ft, sNot_b, sExt0, sExt1, sExt2, sPart0, sPart1, sPart2, sLen_lst, sLen_sl, sLen_nils, sSame_refl, decide_true, decide_false, Bool.not_true, Bool.not_false, sChk_t]
  have hsp := seen_perm hnd hse fun i hi => hall i (by simpa using hi)
  have e : (seen.map (termB ksL GL GR sum)).sum = (GL.map (fB sum GR)).sum := by
   rw [sum_perm _ hsp, ← sum_keys OL]
   have : ksL = (List.range ksL.length).map fun i => ksL.getD i [] := rowL_self ksL []
   conv => rhs; rw [this]
   rw [List.map_map]
   rfl
  rw [e]
  exact hK _ _ _ _ _ _ _ _ _ _ _ _ H1
 ·have hi' : i < ksL.length := by simpa using hi
  obtain ⟨x, hx⟩ : ∃ x, ksL[i]? = some x := ⟨_, List.getElem?_eq_getElem hi'⟩
  have hxm := List.mem_of_getElem? hx
  rw [List.getElem?_map, hx] at hab
  obtain ⟨rfl, rfl⟩ : encK x = a ∧ cntV GL x = b := by simpa [entK] using hab
  have hgx : ksL.getD i [] = x := by rw [List.getD_eq_getElem?_getD, hx]; rfl
  have hxl := OL.klen x hxm
  have hcx2 : GL.count x ≤ GL.length := List.count_le_length
  simp (disch := omega) only [sAdd, sSub, sMul, sEql, sNeq, sLss, sLeq, sGtr, sGeq, sPick_t, sPick_f, sCond_t, sCond_f, sG_tt, sG_ff, sG_tf, sG_ft, sNot_b, sExt0, sExt1, sExt2, sPart0, sPart1, sPart2, sLen_lst, sLen_sl, sLen_nils, sSame_refl, decide_true, decide_false, Bool.not_true, Bool.not_false, sChk_t]
  have hent : (ksL.map (entK (cntV GL)))[i]? = some (encK x, cntV GL x) := by rw [List.getElem?_map, hx]; rfl
  rw [H2.entry (k := 0) (j := 1) rfl rfl hent]
  simp (disch := omega) only [sAdd, sSub, sMul, sEql, sNeq, sLss, sLeq, sGtr, sGeq, sPick_t, sPick_f, sCond_t, sCond_f, sG_tt, sG_ff, sG_tf, sG_ft, sNot_b, sExt0, sExt1, sExt2, sPart0, sPart1, sPart2, sLen_lst, sLen_sl, sLen_nils, sSame_refl, decide_true, decide_false, Bool.not_true, Bool.not_false, sChk_t]
  refine H2.alloc fun xb h3 nx3 H3 => ?_
  refine H3.storeN (k := 0) rfl rfl (cellsK_length (by omega)) fun h4 H4 => ?_
  refine H4.alloc fun rb h5 nx5 H5 => ?_
  rw [sFx, H5.load (k := 5) (i := 0 + 1) rfl rfl]
  simp (disch := omega) only [sAdd, sSub, sMul, sEql, sNeq, sLss, sLeq, sGtr, sGeq, sPick_t, sPick_f, sCond_t, sCond_f, sG_tt, sG_ff, sG_tf, sG_ft, sNot_b, sExt0, sExt1, sExt2, sPart0, sPart1, sPart2, sLen_lst, sLen_sl, sLen_nils, sSame_refl, decide_true, decide_false, Bool.not_true, Bool.not_false, sChk_t]
  have hst := leftA_step hi' hns
  have hterm : termB ksL GL GR sum i = GL.count x * fB sum GR x := by rw [termB, hgx]
  have hb : ∀ j ∈ seen, termB ksL GL GR sum j ≤ 1000000 * 1000000 := fun j _ => Nat.mul_le_mul (Nat.le_trans List.count_le_length hL) (Nat.le_trans fB_le hR0)
  have hfl := sum_len seen hb
  have hsl2 : seen.length * (1000000 * 1000000) ≤ 1000000 * (1000000 * 1000000) := Nat.mul_le_mul_right _ (by omega)
  have hres : ∀ (v : Nat) (hv : v = termB ksL GL GR sum i) (h' : T Blk) (w10 w11 w12 w13 w18 w19 w20 w21 w22 : AV) (nx' : Pa), Hp h0 h' nx' (.iter it lid (ksL.map (entK (cntV GL))).length (i :: seen) (ksL.map (entK (cntV GL))).length :: .map lid (ksL.map (entK (cntV GL))) :: .map rid (ksR.map (entK (cntV GR))) :: .arr bx [I cells, encT lines] :: L) →
    R (F31.fr x0 x1 (I s) (.ptr bx 0) x4 x5 x6 x7 (.map rid) (I (((seen.map (termB ksL GL GR sum)).sum : Nat) + (v : Int))) w10 w11 w12 w13 x14 x15 x16 (.ptr it 0) w18 w19 w20 w21 w22) h' nx' = .ok True := by
   rintro v rfl h' w10 w11 w12 w13 w18 w19 w20 w21 w22 nx' H'
   refine hR _ _ _ _ _ _ _ _ _ _ _ _ _ (by omega) ⟨i :: seen, ?_, rfl, by simp; omega, List.nodup_cons.2 ⟨hns, hnd⟩, fun j hj => ?_, H'⟩
   ·congr 1
    rw [List.map_cons, List.sum_cons]; omega
   ·rcases List.mem_cons.1 hj with rfl | q
    ·exact hi'
    ·exact hse j q
  have H6 : Hp h0 h5 nx5 (.arr rb (cellsK (List.replicate lines.length 0)) :: .arr xb (cellsK x) :: .iter it lid (ksL.map (entK (cntV GL))).length (i :: seen) (ksL.map (entK (cntV GL))).length :: .map lid (ksL.map (entK (cntV GL))) :: .map rid (ksR.map (entK (cntV GR))) :: .arr bx [I cells, encT lines] :: L) := H5.cast (by rw [cellsK_zero hm]; rfl)
  have hcm : ((GL.count x : Int) * ((fB sum GR x : Nat) : Int)) = ((termB ksL GL GR sum i : Nat) : Int) := by rw [hterm, Int.natCast_mul]
  have htl : termB ksL GL GR sum i ≤ 1000000 * 1000000 := by
   rw [hterm]; exact Nat.mul_le_mul (by omega) (Nat.le_trans fB_le hR0)
  refine F31.rest (m := lines.length) (x := x) (sum := sum) (by omega) hm hxl (hlt x ((OL.mem x).1 hxm)) hs H6 (fun y13 y20 y21 y22 h7 nx7 hall H7 => ?_) fun y13 y20 y21 y22 h7 nx7 hall H7 => ?_
  ·have := hres 0 (by rw [hterm, fB, if_neg hall]; simp) h7 (.ptr xb 0) (cntV GL x) (.ptr rb 0) y13 (.bool true) (I lines.length) y20 y21 y22 nx7 H7
   simpa using this
  ·rw [F31.k17]
   have hrl : (x.map fun v => sum - v).length = lines.length := by rw [List.length_map]; exact hxl
   rw [H7.loadN (k := 0) rfl (cellsK_length (by omega))]
   have hlk := fun op => sLook_map (op := op) hm H7 (k := 4) (id := rid) rfl OR hrl
   refine Eq.trans (b := sLook (.agg 128) (I 0) false (.map rid) (encK (x.map fun v => sum - v)) h7 _) rfl ?_
   rw [hlk]
   have hf : fB sum GR x = GR.count (x.map fun v => sum - v) := by rw [fB, if_pos hall]
   rw [cntV, cntV, ← hf, sMul (by omega), hcm, sAdd (by omega)]
   exact hres _ rfl h7 _ _ _ _ _ _ _ _ _ nx7 H7.drop.drop
end Go.Ev
namespace Go.Ev
open Go Go.Proofs
variable {B : Nat}
theorem half_q (n : Nat) : ((n : Int)).tdiv 2 = ((n / 2 : Nat) : Int) := by
 rw [Int.tdiv_eq_ediv_of_nonneg (by omega)]; omega
theorem sQuo2 {n : Nat} {K : AV → OP} (h : n ≤ 1000000) : sBin .quo .int (I (n : Int)) (I 2) K = K (I ((n / 2 : Nat) : Int)) := by
 have e : sBin .quo .int (I (n : Int)) (I 2) K = (bif ieq (2 : Int) 0 then Out.no 5 else intK (IntKind.wrap .i64 ((n : Int).tdiv 2)) fun z => K (.int .i64 z)) := rfl
 rw [e, show ieq (2 : Int) 0 = false from rfl, cond_false, intK_eq, half_q, wrap64_in (by omega)]
theorem sG_undef (b : Bool) (op : (AV → OP) → OP) (K : AV → OP) : sG .undef b op K = K .undef := nr rfl
theorem bounded31 {lines : List (List Int)} {cells most : Nat} {s : Int} (hm : lines.length ≤ 128) (hw : ∀ l ∈ lines, l.length ≤ 1000) (hl : ∀ l ∈ lines, ∀ c ∈ l, 0 ≤ c ∧ c < (cells : Int)) (hcl : cells ≤ 16) (hmost : most ≤ 9) (hpow : (most + 1) ^ (cells - cells / 2) ≤ 1000000)
  (h87 : Pure Tryz.prog B 87 [.agg [I cells, encT lines], I most] (· = I 0)) (h88 : Pure Tryz.prog B 88 [I ((cells - cells / 2 : Nat) : Int), I most] (· = .bool false)) :
  Pure Tryz.prog B 31 [.agg [I cells, encT lines], I most, I s] (· = .tup [I (if 0 < lines.length ∧ (s < 0 ∨ 255 < s) then 0 else (bsum lines most s.toNat (cells / 2) cells : Nat)), I 0]) := by
 refine pure_hp fun h nx K H0 hK => by_body tbl_ok dreg 1000000000 fun hf => ?_
 rw [F31.go]
 refine H0.box (l := [I cells, encT lines]) rfl fun bx h1 nx1 H1 => ?_
 rw [H1.loadN (k := 0) (n := 2) rfl rfl]
 refine h87 _ _ _ _ ?_
 rintro _ rfl _
 simp (disch := omega) only [sAdd, sSub, sMul, sEql, sNeq, sLss, sLeq, sGtr, sGeq, sPick_t, sPick_f, sCond_t, sCond_f, sG_tt, sG_ff, sG_tf, sG_ft, sNot_b, sExt0, sExt1, sExt2, sPart0, sPart1, sPart2, sLen_lst, sLen_sl, sLen_nils, sSame_refl, decide_true, decide_false, Bool.not_true, Bool.not_false, sChk_t]
 rw [sFx, H1.load (k := 0) (i := 0) rfl rfl, sQuo2 (by omega), sFx, H1.load (k := 0) (i := 0) rfl rfl, sSub (by omega), show (cells : Int) - ((cells / 2 : Nat) : Int) = ((cells - cells / 2 : Nat) : Int) by omega]
 refine h88 _ _ _ _ ?_
 rintro _ rfl _
 rw [sCond_f, sFx, H1.load (k := 0) (i := 0 + 1) rfl rfl]
 simp (disch := omega) only [sAdd, sSub, sMul, sEql, sNeq, sLss, sLeq, sGtr, sGeq, sPick_t, sPick_f, sCond_t, sCond_f, sG_tt, sG_ff, sG_tf, sG_ft, sNot_b, sExt0, sExt1, sExt2, sPart0, sPart1, sPart2, sLen_lst, sLen_sl, sLen_nils, sSame_refl, decide_true, decide_false, Bool.not_true, Bool.not_false, sChk_t]
 have ret : ∀ v : Int, v = (if 0 < lines.length ∧ (s < 0 ∨ 255 < s) then (0 : Int) else ((bsum lines most s.toNat (cells / 2) cells : Nat) : Int)) → ∀ h' nx' L, Hp h h' nx' L → K (.tup [I v, I 0]) h' nx' = .ok True := fun v hv h' nx' L H => by
  rw [hv]; exact hK _ _ _ L _ H (frz_tup2 (frz_fixd rfl) (frz_fixd rfl)) rfl
 by_cases hz : 0 < lines.length ∧ (s < 0 ∨ 255 < s)
 ·rw [if_pos hz] at ret
  simp only [show (0 : Int) < (lines.length : Int) by omega, decide_true, sG_tt]
  by_cases hs0 : s < 0
  ·simp only [sLss, hs0, decide_true, sG_tf, sPick_t, sCond_t]
   exact ret 0 rfl _ _ _ H1
  ·simp only [sLss, sGtr, hs0, show (255 : Int) < s by omega, decide_true, decide_false, sG_ff, sPick_t, sPick_f, sCond_t]
   exact ret 0 rfl _ _ _ H1
 rw [if_neg hz] at ret
 have fin : ∀ z5 z6 z14 z15 z16, IR.run F31.b3 (CS Tryz.prog B) 1000000000 (fnO F31.res K) (retK F31.res K) (F31.fr (.agg [I cells, encT lines]) (I most) (I s) (.ptr bx 0) (I 0) z5 z6 (I ((cells / 2 : Nat) : Int)) .undef .undef .undef .undef .undef .undef z14 z15 z16 .undef .undef .undef .undef .undef .undef) h1 nx1 = .ok True := by
  intro z5 z6 z14 z15 z16
  rw [F31.k3, H1.loadN (k := 0) (n := 2) rfl rfl, sFx, H1.load (k := 0) (i := 0) rfl rfl]
  refine tally89 (cells := cells) hm hw hl (by omega) (by omega) (Nat.le_refl _) (by omega) hpow H1 fun h2 nx2 rid ksR GR OR hpR H2 => ?_
  rw [H2.loadN (k := 1) (n := 2) rfl rfl]
  refine tally89 (fr := 0) (cells := cells) hm hw hl (by omega) (by omega) (by omega) (by omega) (by rw [Nat.sub_zero]; exact Nat.le_trans (Nat.pow_le_pow_right (by omega) (by omega)) hpow) H2 fun h3 nx3 lid ksL GL OL hpL H3 => ?_
  rw [Nat.sub_zero] at hpL
  refine H3.range (k := 0) rfl fun it h4 nx4 H4 => ?_
  have hLl : GL.length ≤ 1000000 := by
   rw [hpL.length_eq, tallyT_length]
   exact Nat.le_trans (Nat.pow_le_pow_right (by omega) (by omega)) hpow
  have hRl : GR.length ≤ 1000000 := by rw [hpR.length_eq, tallyT_length]; exact hpow
  have hkl : ksL.length ≤ GL.length := by
   have h1 := (perm_self ksL GL OL.nd OL.mem).length_eq
   rw [← h1, List.length_flatMap]
   have : ∀ l : List Key, (∀ y ∈ l, y ∈ GL) → l.length ≤ (l.map fun x => (List.replicate (GL.count x) x).length).sum := by
    intro l
    induction l with
    | nil => simp
    | cons a l ih =>
     intro h
     have h2 := ih fun y hy => h y (by simp [hy])
     have h3 : 1 ≤ GL.count a := List.count_pos_iff.2 (h a (by simp))
     simp only [List.map_cons, List.sum_cons, List.length_cons, List.length_replicate] at h2 ⊢
     omega
   exact this ksL fun y hy => (OL.mem y).1 hy
  refine F31.meet (sum := s.toNat) (cells := cells) (by decide) hm (by omega) OL OR hLl hRl (by omega) (fun y hy => tallyT_lt _ _ _ _ y (hpL.mem_iff.1 hy)) H4 fun w10 w11 w12 w13 w18 w19 w20 w21 w22 h5 nx5 L5 H5 => ?_
  rw [F31.k18]
  refine ret _ ?_ _ _ _ H5
  rw [sum_perm _ hpL, fB_perm hpR]; rfl
 by_cases hl0 : 0 < lines.length
 ·simp only [show (0 : Int) < (lines.length : Int) by omega, decide_true, sG_tt, sLss, sGtr, show ¬ s < 0 by omega, show ¬ (255 : Int) < s by omega, decide_false, sG_ff, sPick_t, sPick_f, sCond_f]
  exact fin _ _ _ _ _
 ·simp only [show ¬ (0 : Int) < (lines.length : Int) by omega, decide_false, sG_ft, sG_undef, sPick_f, sCond_f]
  exact fin _ _ _ _ _
end Go.Ev
namespace Go.Ev
open Go Go.Proofs
variable {B : Nat}
def firstE : List Int → Int
 | [] => 0
 | e :: l => if e ≠ 0 then e else firstE l
theorem firstE_skip : ∀ (l : List Int) (i : Nat), (∀ e ∈ l.take i, e = 0) → firstE l = firstE (l.drop i)
 | l, 0, _ => rfl
 | [], _ + 1, _ => rfl
 | e :: l, i + 1, h => by
  have h0 : e = 0 := h e (by simp)
  rw [firstE, if_neg (by simp [h0]), List.drop_succ_cons]
  exact firstE_skip l i fun x hx => h x (by simp [hx])
end Go.Ev
namespace Go.Ev
open Go Go.Proofs
variable {B : Nat}
end Go.Ev
namespace Go.Ev
open Go Go.Proofs
variable {B : Nat}
end Go.Ev
namespace Go.Ev
open Go Go.Proofs
variable {B : Nat}
theorem own_plain {P : Program} {f : Nat} {p id : Pa} {h0 h : T Blk} {nx : Pa} {L : List Ob} {k : Nat} {l : List Int} {K : Kw Prop} {Q : AV → Prop} (H : Hp h0 h nx L) (hk : L[k]? = some (.arr id (l.map I))) (hq : ∀ B, Pure P B f [encI l] Q) (hpl : ∀ v, Q v → Plain v)
  (hK : ∀ v, Q v → K v h nx = .ok True) : (CS P B).fn f p [.sl id 0 l.length (some l.length) 1] h nx K = .ok True :=
 CS_plain (.cons (HasArr.frz (H.own _ (List.mem_of_getElem? hk)) (T.get_e _ id) (Nat.le_refl _) (by simp) fun v hv => by obtain ⟨x, _, rfl⟩ := List.mem_map.1 hv; rfl) .nil) (by
  have := fixd_encI l
  simp only [nns, fixd.nn this, Bool.and_self]) hq hpl fun v hv _ => hK v hv
theorem contF131 {h : T Blk} {nx : Pa} {l : List Int} {g : Nat} {p q : Pa} {cap : List AV} {pr : Int → Bool} {K : Kw Prop} (hl : l.length ≤ 1000000) (hcl : ∀ x ∈ l, ∀ K : Kw Prop, K (.bool (pr x)) h nx = .ok True → (CS Tryz.prog B).fn g q (I x :: cap) h nx K = .ok True)
  (hK : K (.bool (l.any pr)) h nx = .ok True) : (CS Tryz.prog B).fn 131 p [encI l, .fn g q cap] h nx K = .ok True := by
 refine CS_fn_mono (p := .of 131) (K := K) (by_body tbl_ok dreg 9 fun hf => ?_) fun _ _ _ _ q => q
 rw [F131.go]
 refine CS_fn_mono (p := .of 165) (K := fun v1 h2 n3 => sBin .geq .int v1 (I 0) fun v4 => K v4 h2 n3) (by_body tbl_ok dreg 10000000 fun hf => ?_) fun _ _ _ _ q => q
 rw [F165.go]
 simp (disch := omega) only [sAdd, sSub, sMul, sEql, sNeq, sLss, sLeq, sGtr, sGeq, sPick_t, sPick_f, sCond_t, sCond_f, sG_tt, sG_ff, sG_tf, sG_ft, sNot_b, sExt0, sExt1, sExt2, sPart0, sPart1, sPart2, sLen_lst, sLen_sl, sLen_nils, sSame_refl, decide_true, decide_false, Bool.not_true, Bool.not_false, sChk_t]
 refine F165.L1 (fun m z5 h' nx' => ∃ i : Nat, z5 = I i ∧ l.length - i = m ∧ i ≤ l.length ∧ h' = h ∧ nx' = nx ∧ (l.take i).any pr = false) (m := l.length) (by omega) ⟨0, rfl, rfl, by omega, rfl, rfl, by simp⟩ ?_
 rintro m z2 z3 z5 z6 z7 _ _ R ⟨i, rfl, rfl, hi, rfl, rfl, htk⟩ hR
 simp (disch := omega) only [sAdd, sSub, sMul, sEql, sNeq, sLss, sLeq, sGtr, sGeq, sPick_t, sPick_f, sCond_t, sCond_f, sG_tt, sG_ff, sG_tf, sG_ft, sNot_b, sExt0, sExt1, sExt2, sPart0, sPart1, sPart2, sLen_lst, sLen_sl, sLen_nils, sSame_refl, decide_true, decide_false, Bool.not_true, Bool.not_false, sChk_t]
 by_cases hlt : i < l.length
 ·simp only [show (i : Int) < (l.length : Int) by omega, decide_true, sCond_t]
  have hx : l[i]? = some l[i] := List.getElem?_eq_getElem hlt
  rw [sIxL rfl hlt, ldL (getI hx), sCall_fn]
  refine hcl _ (List.getElem_mem hlt) _ ?_
  cases he : pr l[i] with
  | true =>
   simp only [sCond_t, sGeq, show (0 : Int) ≤ (i : Int) by omega, decide_true]
   rw [List.any_eq_true.2 ⟨_, List.getElem_mem hlt, he⟩] at hK
   exact hK
  | false =>
   simp only [sCond_f]
   refine hR _ _ _ _ _ _ _ _ (by omega) ⟨i + 1, rfl, rfl, by omega, rfl, rfl, ?_⟩
   rw [List.take_add_one, hx, List.any_append, htk]
   simp [he]
 ·simp only [show ¬ (i : Int) < (l.length : Int) by omega, decide_false, sCond_f]
  rw [F165.k8]
  rw [List.take_of_length_le (by omega)] at htk
  rw [htk] at hK
  simp only [sGeq, show ¬ (0 : Int) ≤ -1 by omega, decide_false]
  exact hK
end Go.Ev
namespace Go.Ev
end Go.Ev
namespace Go.Ev
open Go Go.Proofs
variable {B : Nat}
theorem whenB82 (b : Bool) (e : Int) : Pure Tryz.prog B 82 [.bool b, I e] (· = I (if b then e else 0)) := by
 intro p h nx K hK
 refine by_body tbl_ok dreg 9 fun hf => ?_
 rw [F82.go]
 cases b <;> simp (disch := omega) only [sAdd, sSub, sMul, sEql, sNeq, sLss, sLeq, sGtr, sGeq, sPick_t, sPick_f, sCond_t, sCond_f, sG_tt, sG_ff, sG_tf, sG_ft, sNot_b, sExt0, sExt1, sExt2, sPart0, sPart1, sPart2, sLen_lst, sLen_sl, sLen_nils, sSame_refl, decide_true, decide_false, Bool.not_true, Bool.not_false, sChk_t] <;> exact hK _ rfl hf
theorem first80 {l : List Int} (hl : l.length ≤ 1000000) : Pure Tryz.prog B 80 [encI l] (· = I (firstE l)) := by
 intro p h nx K hK
 refine by_body tbl_ok dreg 10000000 fun hf => ?_
 rw [F80.go]
 simp (disch := omega) only [sAdd, sSub, sMul, sEql, sNeq, sLss, sLeq, sGtr, sGeq, sPick_t, sPick_f, sCond_t, sCond_f, sG_tt, sG_ff, sG_tf, sG_ft, sNot_b, sExt0, sExt1, sExt2, sPart0, sPart1, sPart2, sLen_lst, sLen_sl, sLen_nils, sSame_refl, decide_true, decide_false, Bool.not_true, Bool.not_false, sChk_t]
 refine F80.L1 (fun m z5 h' nx' => ∃ i : Nat, z5 = I i ∧ l.length - i = m ∧ i ≤ l.length ∧ h' = h ∧ nx' = nx ∧ ∀ e ∈ l.take i, e = 0) (m := l.length) (by omega) ⟨0, rfl, rfl, by omega, rfl, rfl, by simp⟩ ?_
 rintro m z1 z2 z5 z6 z7 _ _ R ⟨i, rfl, rfl, hi, rfl, rfl, htk⟩ hR
 simp (disch := omega) only [sAdd, sSub, sMul, sEql, sNeq, sLss, sLeq, sGtr, sGeq, sPick_t, sPick_f, sCond_t, sCond_f, sG_tt, sG_ff, sG_tf, sG_ft, sNot_b, sExt0, sExt1, sExt2, sPart0, sPart1, sPart2, sLen_lst, sLen_sl, sLen_nils, sSame_refl, decide_true, decide_false, Bool.not_true, Bool.not_false, sChk_t]
 by_cases hlt : i < l.length
 ·simp only [show (i : Int) < (l.length : Int) by omega, decide_true, sCond_t]
  have hx : l[i]? = some l[i] := List.getElem?_eq_getElem hlt
  rw [sIxL rfl hlt, ldL (getI hx)]
  simp (disch := omega) only [sAdd, sSub, sMul, sEql, sNeq, sLss, sLeq, sGtr, sGeq, sPick_t, sPick_f, sCond_t, sCond_f, sG_tt, sG_ff, sG_tf, sG_ft, sNot_b, sExt0, sExt1, sExt2, sPart0, sPart1, sPart2, sLen_lst, sLen_sl, sLen_nils, sSame_refl, decide_true, decide_false, Bool.not_true, Bool.not_false, sChk_t]
  have hd : l.drop i = l[i] :: l.drop (i + 1) := List.drop_eq_getElem_cons hlt
  by_cases h0 : l[i] = 0
  ·simp only [h0, decide_true, Bool.not_true, sCond_f]
   refine hR _ _ _ _ _ _ _ _ (by omega) ⟨i + 1, rfl, rfl, by omega, rfl, rfl, fun e he => ?_⟩
   rw [List.take_add_one, hx] at he
   rcases List.mem_append.1 he with q | q
   ·exact htk e q
   ·simp at q; rw [q]; exact h0
  ·simp only [h0, decide_false, Bool.not_false, sCond_t]
   refine hK _ ?_ hf
   rw [firstE_skip l i htk, hd, firstE, if_pos h0]
 ·simp only [show ¬ (i : Int) < (l.length : Int) by omega, decide_false, sCond_f]
  rw [F80.k8]
  refine hK _ ?_ hf
  rw [firstE_skip l i htk, List.drop_of_length_le (by omega)]; rfl
end Go.Ev
namespace Go.Ev
open Go Go.Proofs
variable {B : Nat}
end Go.Ev
namespace Go.Ev
open Go Go.Proofs
variable {B : Nat}
end Go.Ev
namespace Go.Ev
def lexLt : List Int → List Int → Bool
 | _, [] => false
 | [], _ :: _ => true
 | a :: xs, b :: ys => if a = b then lexLt xs ys else decide (a < b)
theorem lexLt_skip : ∀ (i : Nat) (a b : List Int), a.take i = b.take i → i ≤ a.length → i ≤ b.length → lexLt a b = lexLt (a.drop i) (b.drop i)
 | 0, a, b, _, _, _ => rfl
 | i + 1, a :: xs, b :: ys, h, h1, h2 => by
  simp only [List.take_succ_cons, List.cons.injEq] at h
  rw [lexLt, if_pos h.1, List.drop_succ_cons, List.drop_succ_cons]
  exact lexLt_skip i xs ys h.2 (by simpa using h1) (by simpa using h2)
 | i + 1, [], _, _, h1, _ => by simp at h1
 | i + 1, _ :: _, [], _, _, h2 => by simp at h2
def cmpL (a b : List Int) : Int := if lexLt a b then -1 else if a = b then 0 else 1
def Nrm (f : List Int) : Prop := f.Nodup ∧ ∀ x ∈ f, 1 ≤ x ∧ x ≤ (f.length : Int)
theorem sub_perm : ∀ (l r : List Int), l.Nodup → (∀ x ∈ l, x ∈ r) → ∃ s, r.Perm (l ++ s)
 | [], r, _, _ => ⟨r, .refl _⟩
 | a :: l, r, hn, hs => by
  obtain ⟨h1, h2⟩ := List.nodup_cons.1 hn
  have ha := hs a (by simp)
  obtain ⟨s, hp⟩ := sub_perm l (r.erase a) h2 fun x hx => (List.mem_erase_of_ne (by rintro rfl; exact h1 hx)).2 (hs x (by simp [hx]))
  exact ⟨s, (List.perm_cons_erase ha).trans (.cons a hp)⟩
abbrev upTo (n : Nat) : List Int := (List.range n).map fun (i : Nat) => (i : Int) + 1
theorem upTo_sorted (n : Nat) : (upTo n).Pairwise (· ≤ ·) := by
 rw [List.pairwise_map]
 exact List.pairwise_lt_range.imp (by intro a b h; omega)
theorem upTo_nodup (n : Nat) : (upTo n).Nodup := by
 rw [List.Nodup, List.pairwise_map]
 exact List.pairwise_lt_range.imp (by intro a b h; omega)
theorem nrm_iff (f : List Int) : srt f = upTo f.length ↔ Nrm f := by
 constructor
 ·intro h
  have hp : (upTo f.length).Perm f := h ▸ srt_perm f
  refine ⟨hp.nodup_iff.1 (upTo_nodup _), fun x hx => ?_⟩
  have := hp.mem_iff.2 hx
  obtain ⟨i, hi, rfl⟩ := List.mem_map.1 this
  have := List.mem_range.1 hi
  omega
 ·rintro ⟨h1, h2⟩
  obtain ⟨s, hs⟩ := sub_perm f (upTo f.length) h1 fun x hx => by
   obtain ⟨q1, q2⟩ := h2 x hx
   exact List.mem_map.2 ⟨(x - 1).toNat, List.mem_range.2 (by omega), by omega⟩
  have hl := hs.length_eq
  obtain rfl : s = [] := List.eq_nil_of_length_eq_zero (by rw [List.length_append, List.length_map, List.length_range] at hl; omega)
  rw [List.append_nil] at hs
  exact (srt_unique hs (upTo_sorted _)).symm
def Rv (l cur : List Int) (i : Nat) : Prop := cur.length = l.length ∧ ∀ t, t < l.length → cur[t]? = if t < i ∨ l.length ≤ t + i then l[l.length - 1 - t]? else l[t]?
theorem Rv.start (l : List Int) : Rv l l 0 := ⟨rfl, fun t ht => by rw [if_neg (by omega)]⟩
theorem Rv.done {l cur : List Int} {i : Nat} (h : Rv l cur i) (hi : l.length ≤ 2 * i + 1) : cur = l.reverse := by
 refine List.ext_getElem? fun t => ?_
 by_cases ht : t < l.length
 ·rw [h.2 t ht, List.getElem?_reverse ht]
  by_cases c : t < i ∨ l.length ≤ t + i
  ·rw [if_pos c]
  ·rw [if_neg c, show l.length - 1 - t = t by omega]
 ·rw [List.getElem?_eq_none (by rw [h.1]; omega), List.getElem?_eq_none (by simp; omega)]
theorem Rv.step {l cur : List Int} {i j : Nat} {a b : Int} (h : Rv l cur i) (hij : i < j) (hs : i + j + 1 = l.length) (ha : cur[i]? = some a) (hb : cur[j]? = some b) : Rv l ((cur.set i b).set j a) (i + 1) := by
 obtain ⟨hl, hg⟩ := h
 refine ⟨by simp [hl], fun t ht => ?_⟩
 have e1 := hg i (by omega)
 have e2 := hg j (by omega)
 rw [if_neg (by omega), ha] at e1
 rw [if_neg (by omega), hb] at e2
 rw [List.getElem?_set, List.getElem?_set, List.length_set]
 by_cases c1 : j = t
 ·subst c1
  rw [if_pos rfl, if_pos (by omega), if_pos (by omega), show l.length - 1 - j = i by omega]
  exact e1
 ·rw [if_neg c1]
  by_cases c2 : i = t
  ·subst c2
   rw [if_pos rfl, if_pos (by omega), if_pos (by omega), show l.length - 1 - i = j by omega]
   exact e2
  ·rw [if_neg c2, hg t ht]
   by_cases c3 : t < i ∨ l.length ≤ t + i
   ·rw [if_pos c3, if_pos (by omega)]
   ·rw [if_neg c3, if_neg (by omega)]
end Go.Ev
namespace Go.Ev
open Go Go.Proofs
variable {B : Nat}
theorem isNaN164 (x : Int) : Pure Tryz.prog B 164 [I x] (· = .bool false) := by
 intro p h nx K hK
 refine by_body tbl_ok dreg 9 fun hf => ?_
 rw [F164.go]
 simp only [sNeq, decide_true, Bool.not_true]
 exact hK _ rfl hf
theorem cmp130 (x y : Int) : Pure Tryz.prog B 130 [I x, I y] (· = I (if x < y then -1 else if x = y then 0 else 1)) := by
 intro p h nx K hK
 refine by_body tbl_ok dreg 9 fun hf => ?_
 rw [F130.go]
 refine isNaN164 x _ _ _ _ ?_
 rintro _ rfl _
 refine isNaN164 y _ _ _ _ ?_
 rintro _ rfl _
 simp only [sCond_f, sLss]
 by_cases c1 : x < y
 ·simp only [c1, decide_true, sCond_t]
  exact hK _ (by rw [if_pos c1]) hf
 ·simp only [c1, decide_false, sCond_f, sGtr]
  by_cases c2 : y < x
  ·simp only [c2, decide_true, sCond_t]
   exact hK _ (by rw [if_neg c1, if_neg (by omega)]) hf
  ·simp only [c2, decide_false, sCond_f]
   exact hK _ (by rw [if_neg c1, if_pos (by omega)]) hf
theorem compare92 {a b : List Int} (ha : a.length ≤ 1000000) (hb : b.length ≤ 1000000) : Pure Tryz.prog B 92 [encI a, encI b] (· = I (cmpL a b)) := by
 intro p h nx K hK
 refine by_body tbl_ok dreg 10000000 fun hf => ?_
 rw [F92.go]
 simp (disch := omega) only [sAdd, sSub, sMul, sEql, sNeq, sLss, sLeq, sGtr, sGeq, sPick_t, sPick_f, sCond_t, sCond_f, sG_tt, sG_ff, sG_tf, sG_ft, sNot_b, sExt0, sExt1, sExt2, sPart0, sPart1, sPart2, sLen_lst, sLen_sl, sLen_nils, sSame_refl, decide_true, decide_false, Bool.not_true, Bool.not_false, sChk_t]
 refine F92.L1 (fun m z9 h' nx' => ∃ i : Nat, z9 = I i ∧ a.length - i = m ∧ i ≤ a.length ∧ i ≤ b.length ∧ h' = h ∧ nx' = nx ∧ a.take i = b.take i) (m := a.length) (by omega) ⟨0, rfl, rfl, by omega, by omega, rfl, rfl, rfl⟩ ?_
 rintro m z2 z3 z4 z5 z6 z9 z10 z11 z12 _ _ R ⟨i, rfl, rfl, hi, hib, rfl, rfl, htk⟩ hR
 have hsk := lexLt_skip i a b htk hi hib
 simp (disch := omega) only [sAdd, sSub, sMul, sEql, sNeq, sLss, sLeq, sGtr, sGeq, sPick_t, sPick_f, sCond_t, sCond_f, sG_tt, sG_ff, sG_tf, sG_ft, sNot_b, sExt0, sExt1, sExt2, sPart0, sPart1, sPart2, sLen_lst, sLen_sl, sLen_nils, sSame_refl, decide_true, decide_false, Bool.not_true, Bool.not_false, sChk_t]
 by_cases hlt : i < a.length
 ·simp only [show (i : Int) < (a.length : Int) by omega, decide_true, sCond_t]
  have hx : a[i]? = some a[i] := List.getElem?_eq_getElem hlt
  have hda : a.drop i = a[i] :: a.drop (i + 1) := List.drop_eq_getElem_cons hlt
  rw [sIxL rfl hlt, ldL (getI hx)]
  by_cases hb2 : b.length ≤ i
  ·simp only [sLen_lst, sGeq, show (b.length : Int) ≤ (i : Int) by omega, decide_true, sCond_t]
   refine hK _ ?_ hf
   rw [hda, List.drop_of_length_le hb2, lexLt] at hsk
   rw [cmpL, hsk, if_neg (by simp), if_neg (by rintro rfl; omega)]
  ·simp only [sLen_lst, sGeq, show ¬ (b.length : Int) ≤ (i : Int) by omega, decide_false, sCond_f]
   have hxb : b[i]? = some b[i] := List.getElem?_eq_getElem (by omega)
   have hdb : b.drop i = b[i] :: b.drop (i + 1) := List.drop_eq_getElem_cons (by omega)
   rw [sIxL rfl (by omega), ldL (getI hxb)]
   refine cmp130 _ _ _ _ _ _ ?_
   rintro _ rfl _
   rw [hda, hdb, lexLt] at hsk
   simp only [sNeq]
   by_cases c1 : a[i] = b[i]
   ·have e0 : (if a[i] < b[i] then (-1 : Int) else if a[i] = b[i] then 0 else 1) = 0 := by rw [if_neg (by omega), if_pos c1]
    rw [e0]
    simp only [decide_true, Bool.not_true, sCond_f]
    try rw [sAdd (by omega)]
    refine hR _ _ _ _ _ _ _ _ _ _ _ _ (by omega) ⟨i + 1, rfl, rfl, by omega, by omega, rfl, rfl, ?_⟩
    rw [List.take_add_one, List.take_add_one, htk, hx, hxb, c1]
   ·have e1 : ¬ (if a[i] < b[i] then (-1 : Int) else if a[i] = b[i] then 0 else 1) = 0 := by
     by_cases c : a[i] < b[i]
     ·rw [if_pos c]; omega
     ·rw [if_neg c, if_neg c1]; omega
    simp only [e1, decide_false, Bool.not_false, sCond_t]
    refine hK _ ?_ hf
    rw [if_neg c1] at hsk
    rw [cmpL, hsk]
    by_cases c : a[i] < b[i]
    ·simp [c]
    ·rw [if_neg c, if_neg c1, if_neg (by simp [c]), if_neg (by rintro rfl; exact c1 rfl)]
 ·simp only [show ¬ (i : Int) < (a.length : Int) by omega, decide_false, sCond_f]
  rw [F92.k9]
  simp (disch := omega) only [sAdd, sSub, sMul, sEql, sNeq, sLss, sLeq, sGtr, sGeq, sPick_t, sPick_f, sCond_t, sCond_f, sG_tt, sG_ff, sG_tf, sG_ft, sNot_b, sExt0, sExt1, sExt2, sPart0, sPart1, sPart2, sLen_lst, sLen_sl, sLen_nils, sSame_refl, decide_true, decide_false, Bool.not_true, Bool.not_false, sChk_t]
  rw [List.drop_of_length_le (show a.length ≤ i by omega)] at hsk
  by_cases c : a.length < b.length
  ·simp only [show (a.length : Int) < (b.length : Int) by omega, decide_true, sCond_t]
   refine hK _ ?_ hf
   have hd : b.drop i = b[i] :: b.drop (i + 1) := List.drop_eq_getElem_cons (by omega)
   rw [hd, lexLt] at hsk
   rw [cmpL, hsk, if_pos rfl]
  ·simp only [show ¬ (a.length : Int) < (b.length : Int) by omega, decide_false, sCond_f]
   refine hK _ ?_ hf
   rw [List.drop_of_length_le (show b.length ≤ i by omega), lexLt] at hsk
   have : a = b := by
    rw [List.take_of_length_le (by omega), List.take_of_length_le (by omega)] at htk
    exact htk
   rw [cmpL, hsk, if_neg (by simp), if_pos this]
theorem before74 {a b : List Int} (ha : a.length ≤ 1000000) (hb : b.length ≤ 1000000) : Pure Tryz.prog B 74 [encI a, encI b] (· = .bool (lexLt a b)) := by
 intro p h nx K hK
 refine by_body tbl_ok dreg 10000000 fun hf => ?_
 rw [F74.go]
 refine F74.L1 (fun m z3 h' nx' => ∃ i : Nat, z3 = I i ∧ a.length - i = m ∧ i ≤ a.length ∧ i ≤ b.length ∧ h' = h ∧ nx' = nx ∧ a.take i = b.take i) (m := a.length) (by omega) ⟨0, rfl, rfl, by omega, by omega, rfl, rfl, rfl⟩ ?_
 rintro m z2 z3 z4 z5 h1 nx1 R ⟨i, rfl, rfl, hi, hib, rfl, rfl, htk⟩ hR
 have hsk := lexLt_skip i a b htk hi hib
 simp (disch := omega) only [sAdd, sSub, sMul, sEql, sNeq, sLss, sLeq, sGtr, sGeq, sPick_t, sPick_f, sCond_t, sCond_f, sG_tt, sG_ff, sG_tf, sG_ft, sNot_b, sExt0, sExt1, sExt2, sPart0, sPart1, sPart2, sLen_lst, sLen_sl, sLen_nils, sSame_refl, decide_true, decide_false, Bool.not_true, Bool.not_false, sChk_t]
 have out : (a.length ≤ i ∨ b.length ≤ i) → ∀ w4, IR.run F74.b8 (CS Tryz.prog B) 10000000 (fnO F74.res K) (retK F74.res K) (F74.fr (encI a) (encI b) z2 (I i) w4 z5) h1 nx1 = .ok True := by
  intro ho w4
  rw [F74.k8]
  simp (disch := omega) only [sAdd, sSub, sMul, sEql, sNeq, sLss, sLeq, sGtr, sGeq, sPick_t, sPick_f, sCond_t, sCond_f, sG_tt, sG_ff, sG_tf, sG_ft, sNot_b, sExt0, sExt1, sExt2, sPart0, sPart1, sPart2, sLen_lst, sLen_sl, sLen_nils, sSame_refl, decide_true, decide_false, Bool.not_true, Bool.not_false, sChk_t]
  refine hK _ ?_ hf
  rw [hsk]
  by_cases c1 : b.length ≤ i
  ·rw [List.drop_of_length_le c1]
   have : lexLt (a.drop i) [] = false := by cases a.drop i <;> rfl
   rw [this, decide_eq_false (by omega)]
  ·rw [List.drop_of_length_le (show a.length ≤ i by omega), List.drop_eq_getElem_cons (show i < b.length by omega), lexLt, decide_eq_true (by omega)]
 by_cases hla : i < a.length
 case neg =>
  simp only [show ¬ (i : Int) < (a.length : Int) by omega, decide_false, sG_ft, sPick_f, sCond_f]
  exact out (.inl (by omega)) _
 simp only [show (i : Int) < (a.length : Int) by omega, decide_true, sG_tt, sLen_lst, sLss, sPick_t]
 by_cases hlb : i < b.length
 case neg =>
  simp only [show ¬ (i : Int) < (b.length : Int) by omega, decide_false, sCond_f]
  exact out (.inr (by omega)) _
 simp only [show (i : Int) < (b.length : Int) by omega, decide_true, sCond_t]
 have hx : a[i]? = some a[i] := List.getElem?_eq_getElem hla
 have hxb : b[i]? = some b[i] := List.getElem?_eq_getElem hlb
 rw [List.drop_eq_getElem_cons hla, List.drop_eq_getElem_cons hlb, lexLt] at hsk
 rw [F74.k4, sIxL rfl hla, ldL (getI hx), sIxL rfl hlb, ldL (getI hxb)]
 simp only [sNeq]
 by_cases c : a[i] = b[i]
 ·simp only [c, decide_true, Bool.not_true, sCond_f]
  try rw [sAdd (by omega)]
  refine hR _ _ _ _ _ _ _ (by omega) ⟨i + 1, rfl, rfl, by omega, by omega, rfl, rfl, ?_⟩
  rw [List.take_add_one, List.take_add_one, htk, hx, hxb, c]
 ·simp only [c, decide_false, Bool.not_false, sCond_t]
  rw [sIxL rfl hla, ldL (getI hx), sIxL rfl hlb, ldL (getI hxb)]
  simp only [sLss]
  exact hK _ (by rw [hsk, if_neg c]) hf
end Go.Ev
namespace Go.Ev
open Go Go.Proofs
variable {B : Nat}
def outR (x : Int) : Bool := decide (x < -999999999) || decide (999999999 < x)
theorem outside94 {l : List Int} (hl : l.length ≤ 1000000) : Pure Tryz.prog B 94 [encI l] (· = .bool (l.any outR)) := by
 intro p h nx K hK
 refine by_body tbl_ok dreg 1000 fun hf => ?_
 rw [F94.go]
 refine contF131 (pr := outR) hl (fun x _ K hK => ?_) (hK _ rfl hf)
 refine CS_fn_mono (p := .of 132) (K := K) (by_body tbl_ok dreg 9 fun hf => ?_) fun _ _ _ _ q => q
 show callFn tbl 9 _ (Pa.of 132) [I x] _ _ _ = _
 rw [F132.go]
 unfold outR at hK
 by_cases c : x < -999999999
 ·simp only [sLss, c, decide_true, sG_tf, sPick_t]
  simpa [c] using hK
 ·simp only [sLss, c, decide_false, sG_ff, sGtr, sPick_f]
  simpa [c] using hK
def fillErr (cells : Int) (f : List Int) : Int := if (f.length : Int) ≠ cells then 2 else if f.any outR then 3 else 0
theorem checkFill37 {cells : Int} {f : List Int} (hl : f.length ≤ 1000000) : Pure Tryz.prog B 37 [I cells, encI f] (· = I (fillErr cells f)) := by
 intro p h nx K hK
 refine by_body tbl_ok dreg 10000000 fun hf => ?_
 rw [F37.go]
 simp (disch := omega) only [sAdd, sSub, sMul, sEql, sNeq, sLss, sLeq, sGtr, sGeq, sPick_t, sPick_f, sCond_t, sCond_f, sG_tt, sG_ff, sG_tf, sG_ft, sNot_b, sExt0, sExt1, sExt2, sPart0, sPart1, sPart2, sLen_lst, sLen_sl, sLen_nils, sSame_refl, decide_true, decide_false, Bool.not_true, Bool.not_false, sChk_t]
 by_cases c : (f.length : Int) = cells
 case neg =>
  simp only [c, decide_false, Bool.not_false, sCond_t]
  exact hK _ (by rw [fillErr, if_pos c]) hf
 simp only [c, decide_true, Bool.not_true, sCond_f]
 refine F37.L2 (fun m z3 h' nx' => ∃ i : Nat, z3 = I i ∧ f.length - i = m ∧ i ≤ f.length ∧ h' = h ∧ nx' = nx ∧ (f.take i).any outR = false) (m := f.length) (by omega) ⟨0, rfl, rfl, by omega, rfl, rfl, rfl⟩ ?_
 rintro m z2 z3 z5 z6 _ _ R ⟨i, rfl, rfl, hi, rfl, rfl, htk⟩ hR
 simp (disch := omega) only [sAdd, sSub, sMul, sEql, sNeq, sLss, sLeq, sGtr, sGeq, sPick_t, sPick_f, sCond_t, sCond_f, sG_tt, sG_ff, sG_tf, sG_ft, sNot_b, sExt0, sExt1, sExt2, sPart0, sPart1, sPart2, sLen_lst, sLen_sl, sLen_nils, sSame_refl, decide_true, decide_false, Bool.not_true, Bool.not_false, sChk_t]
 by_cases hlt : i < f.length
 ·simp only [show (i : Int) < (f.length : Int) by omega, decide_true, sCond_t]
  have hx : f[i]? = some f[i] := List.getElem?_eq_getElem hlt
  rw [sIxL rfl hlt, ldL (getI hx)]
  have bad : outR f[i] = true → (3 : Int) = fillErr cells f := fun q => by
   rw [fillErr, if_neg (by simp [c]), if_pos (List.any_eq_true.2 ⟨_, List.getElem_mem hlt, q⟩)]
  by_cases c1 : f[i] < -999999999
  ·simp only [sLss, c1, decide_true, sG_tf, sPick_t, sCond_t]
   exact hK _ (by rw [bad (by simp [outR, c1])]) hf
  ·simp only [sLss, c1, decide_false, sG_ff]
   rw [sIxL rfl hlt, ldL (getI hx)]
   simp only [sGtr, sPick_f]
   by_cases c2 : 999999999 < f[i]
   ·simp only [c2, decide_true, sCond_t]
    exact hK _ (by rw [bad (by simp [outR, c2])]) hf
   ·simp only [c2, decide_false, sCond_f]
    try rw [sAdd (by omega)]
    refine hR _ _ _ _ _ _ _ (by omega) ⟨i + 1, rfl, rfl, by omega, rfl, rfl, ?_⟩
    rw [List.take_add_one, hx, List.any_append, htk]
    simp [outR, c1, c2]
 ·simp only [show ¬ (i : Int) < (f.length : Int) by omega, decide_false, sCond_f]
  rw [F37.k9]
  rw [List.take_of_length_le (by omega)] at htk
  exact hK _ (by rw [fillErr, if_neg (by simp [c]), htk]; rfl) hf
theorem fixdI {l : List Int} : ∀ v ∈ l.map I, fixd v = true := fun v hv => by obtain ⟨x, _, rfl⟩ := List.mem_map.1 hv; rfl
end Go.Ev
namespace Go.Ev
open Go Go.Proofs
variable {B : Nat}
theorem sLoad_fp1 {h : T Blk} (a : AV) (l : List AV) (K : AV → OP) : sLoad (.fp (a :: l)) h K = K a := nr rfl
theorem sCall_yld {P : Program} {id : Pa} {args : List AV} {h : T Blk} {nx : Pa} {K : Kw Prop} : sCall (CS P B) (.yld id) args h nx K = (CS P B).yld id args h nx K := nr rfl
theorem Hp.addGro {h0 h : T Blk} {nx : Pa} {L : List Ob} (H : Hp h0 h nx L) (e : Nat) : Hp h0 h nx (.gro none e 0 [] :: L) :=
  ⟨H.keep, fun x hx => by rcases List.mem_cons.1 hx with rfl | q; · exact ⟨rfl, rfl⟩
                          · exact H.own x q, fun n hn => H.off n (by simpa [Ob.names] using hn), by have := H.nd; simpa [Ob.names] using this, H.fr⟩
theorem getLoop {h0 h : T Blk} {nx : Pa} {L : List Ob} {id : Pa} {b : Blk} {k : Nat} (H : Hp h0 h nx L) (hk : L[k]? = some (.raw id b)) : T.get .no id h = b := (H.own _ (List.mem_of_getElem? hk)).1
theorem Hp.setRaw {h0 h : T Blk} {nx : Pa} {L : List Ob} {id : Pa} {b b' : Blk} {k : Nat} (H : Hp h0 h nx L) (hk : L[k]? = some (.raw id b)) (hb : b' ≠ .no) : Hp h0 (T.set .no b' id h) nx (L.set k (.raw id b')) :=
 H.upd hk (by simp [Ob.names]) rfl ⟨T.get_set_same _ _ _ _, hb⟩
end Go.Ev
namespace Go.Ev
open Go Go.Proofs
variable {B : Nat}
theorem gW_tt (op : KW3 → OP) (h : T Blk) (nx : Pa) (k : KW3) : sGW (.bool true) true op h nx k = op k := nr rfl
theorem gW_ft (op : KW3 → OP) (h : T Blk) (nx : Pa) (k : KW3) : sGW (.bool false) true op h nx k = k .undef h nx := nr rfl
theorem cells104 (n : Int) : Pure Tryz.prog B 104 [I n] (· = I (if n < 0 ∨ 256 < n then 3 else 0)) := by
 intro p h nx K hK
 refine by_body tbl_ok dreg 10 fun hf => ?_
 rw [F104.go]
 simp only [sLss]
 by_cases c : n < 0
 ·simp only [c, decide_true, sG_tf, sPick_t, sCond_t]
  exact hK _ (by rw [if_pos (.inl c)]) hf
 ·simp only [c, decide_false, sG_ff, sGtr, sPick_f]
  by_cases c2 : 256 < n
  ·simp only [c2, decide_true, sCond_t]
   exact hK _ (by rw [if_pos (.inr c2)]) hf
  ·simp only [c2, decide_false, sCond_f]
   exact hK _ (by rw [if_neg (by omega)]) hf
def PermL (l : List Int) : Prop := l.Nodup ∧ ∀ x ∈ l, 0 ≤ x ∧ x < (l.length : Int)
def hadL (n : Nat) (l : List Int) : List Bool := l.foldl (fun s x => s.set x.toNat true) (List.replicate n false)
theorem had_fold : ∀ (l : List Int) (s : List Bool) (k : Nat), (∀ x ∈ l, 0 ≤ x) → k < s.length → (l.foldl (fun s x => s.set x.toNat true) s)[k]? = some (s.getD k false || decide ((k : Int) ∈ l))
 | [], s, k, _, h => by
  rw [List.foldl_nil, List.getElem?_eq_getElem h, List.getD_eq_getElem?_getD, List.getElem?_eq_getElem h]; simp
 | x :: l, s, k, hl, h => by
  rw [List.foldl_cons, had_fold l _ k (fun y hy => hl y (List.mem_cons_of_mem _ hy)) (by simpa using h)]
  have h0 := hl x (List.mem_cons_self ..)
  congr 1
  rw [List.getD_eq_getElem?_getD, List.getD_eq_getElem?_getD, List.getElem?_set]
  by_cases e : x.toNat = k
  ·have : (k : Int) = x := by omega
   rw [if_pos e, if_pos (by omega)]
   simp [this]
  ·have : ¬ (k : Int) = x := by omega
   rw [if_neg e]
   simp [this]
theorem hadL_length (n : Nat) (l : List Int) : (hadL n l).length = n := by
 have : ∀ (l : List Int) (s : List Bool), (l.foldl (fun s x => s.set x.toNat true) s).length = s.length := by
  intro l
  induction l with
  | nil => intro s; rfl
  | cons x l ih => intro s; rw [List.foldl_cons, ih]; simp
 rw [hadL, this]; simp
theorem hadL_get {n : Nat} {l : List Int} {k : Nat} (hl : ∀ x ∈ l, 0 ≤ x) (hk : k < n) : (hadL n l)[k]? = some (decide ((k : Int) ∈ l)) := by
 rw [hadL, had_fold l _ k hl (by simpa using hk)]
 congr 1
 rw [List.getD_eq_getElem?_getD, List.getElem?_replicate, if_pos hk]; simp
theorem hadL_snoc (n : Nat) (l : List Int) (x : Int) : hadL n (l ++ [x]) = (hadL n l).set x.toNat true := by simp [hadL]
def xOf (n : Nat) (c : Bool) (x : Int) : Int := if c then (n : Int) + 1 - x else x
def applyP (n : Nat) (c : Bool) (g f : List Int) (i : Nat) : List Int := (List.range i).foldl (fun o k => o.set (g.getD k 0).toNat (xOf n c (f.getD k 0))) (List.replicate n 0)
theorem applyP_succ (n : Nat) (c : Bool) (g f : List Int) (i : Nat) : applyP n c g f (i + 1) = (applyP n c g f i).set (g.getD i 0).toNat (xOf n c (f.getD i 0)) := by
 simp [applyP, List.range_succ]
theorem applyP_length (n : Nat) (c : Bool) (g f : List Int) : ∀ i, (applyP n c g f i).length = n
 | 0 => by simp [applyP]
 | i + 1 => by rw [applyP_succ]; simp [applyP_length n c g f i]
def applyS (c : Bool) (g f : List Int) : List Int := applyP f.length c g f f.length
theorem apply49 {g f : List Int} {c : Bool} (hl : f.length ≤ 1000) (hg : g.length = f.length) (hp : PermL g) (hf : ∀ x ∈ f, -1000000000 ≤ x ∧ x ≤ 1000000000) : Pure Tryz.prog B 49 [.agg [encI g, .bool c], encI f] (· = encI (applyS c g f)) := by
 refine pure_hp fun h nx K H0 hK => by_body tbl_ok dreg 10000 fun hf' => ?_
 rw [F49.go]
 refine H0.box (l := [encI g, .bool c]) rfl fun bx h1 nx1 H1 => ?_
 simp only [sLen_lst]
 refine H1.mk1 f.length rfl rfl (by omega) (by decide) fun tb h2 nx2 H2 => ?_
 have e0 : List.replicate f.length (I 0) = (applyP f.length c g f 0).map I := by simp [applyP]
 rw [e0] at H2
 refine F49.L1 (fun m x5 h' nx' => ∃ i : Nat, x5 = I i ∧ m = f.length - i ∧ i ≤ f.length ∧ Hp h h' nx' [.arr tb ((applyP f.length c g f i).map I), .arr bx [encI g, .bool c]]) (m := f.length) (by omega)
  ⟨0, rfl, by omega, by omega, H2⟩ ?_
 rintro m x5 x6 x7 x8 h3 nx3 R ⟨i, rfl, rfl, hi, H3⟩ hR
 simp only [sLen_lst, sLss]
 by_cases hlt : i < f.length
 case neg =>
  simp only [show ¬ (i : Int) < (f.length : Int) by omega, decide_false, sCond_f]
  rw [F49.k9]
  obtain rfl : i = f.length := by omega
  have hal := applyP_length f.length c g f f.length
  refine hK _ _ _ _ _ H3 (H3.frzArr (k := 0) rfl (Nat.le_refl _) (by simp [hal]) fixdI) ?_
  show _ = AV.lst 1 _ _
  rw [applyS, hal]
 simp only [show (i : Int) < (f.length : Int) by omega, decide_true, sCond_t]
 have hx : f[i]? = some f[i] := List.getElem?_eq_getElem hlt
 have hgx : g[i]? = some g[i] := List.getElem?_eq_getElem (by omega)
 have hgb := hp.2 _ (List.getElem_mem (show i < g.length by omega))
 have hfb := hf _ (List.getElem_mem hlt)
 have hfd : f.getD i 0 = f[i] := by rw [List.getD_eq_getElem?_getD, hx]; rfl
 have hgd : g.getD i 0 = g[i] := by rw [List.getD_eq_getElem?_getD, hgx]; rfl
 rw [sIxL rfl hlt, ldL (getI hx), sFx, H3.load (k := 1) (i := 0 + 1) rfl rfl]
 cases c with
 | true =>
  simp only [sCond_t]
  rw [sAdd (by omega), sSub (by omega), sFx, H3.load (k := 1) (i := 0) rfl rfl, sIxL rfl (by omega), ldL (getI hgx), sIx (i := (g[i]).toNat) (by omega) (by omega)]
  refine H3.store (k := 0) rfl (by rw [List.length_map, applyP_length]; omega) rfl fun h4 H4 => ?_
  rw [sAdd (by omega)]
  refine hR _ _ _ _ _ _ _ (by omega) ⟨i + 1, rfl, rfl, by omega, H4.cast ?_⟩
  rw [applyP_succ, hfd, hgd]
  simp [List.map_set, xOf]
 | false =>
  simp only [sCond_f]
  rw [sFx, H3.load (k := 1) (i := 0) rfl rfl, sIxL rfl (by omega), ldL (getI hgx), sIx (i := (g[i]).toNat) (by omega) (by omega)]
  refine H3.store (k := 0) rfl (by rw [List.length_map, applyP_length]; omega) rfl fun h4 H4 => ?_
  rw [sAdd (by omega)]
  refine hR _ _ _ _ _ _ _ (by omega) ⟨i + 1, rfl, rfl, by omega, H4.cast ?_⟩
  rw [applyP_succ, hfd, hgd]
  simp [List.map_set, xOf]
end Go.Ev
namespace Go.Ev
open Go
theorem sLoadNP {a b : AV} {l : List AV} {h : T Blk} {K : AV → OP} : sLoadN 2 (.fp (a :: b :: l)) h K = K (.agg [a, b]) := nr rfl
end Go.Ev
namespace Go.Ev
def fill (most : Nat) : Nat → List (List Nat)
 | 0 => [[]]
 | n + 1 => (fill most n).flatMap fun x => (List.range (most + 1)).map fun k => x ++ [k]
def gC (fr : Nat) (f : List Nat) (c : Int) : Nat := if (fr : Int) ≤ c then f.getD (c - fr).toNat 0 else 0
def con (fr : Nat) (f : List Nat) (l : List Int) : Nat := (l.map (gC fr f)).sum
end Go.Ev
namespace Go.Ev
open Go Go.Proofs
variable {B : Nat}
theorem frz_agg {N : Pa → Prop} {O : AV → Prop} {hh : T Blk} {l : List AV} (h : ∀ v ∈ l, fixd v = true) : Frz True N O hh (.agg l) (.agg l) :=
 .agg _ _ rfl (List.all_eq_true.2 fun v hv => fixd.scal (h v hv)) fun i v v' h1 h2 => by rw [h1] at h2; cases h2; exact frz_fixd (h v (List.mem_of_getElem? h1))
end Go.Ev
namespace Go.Ev
open Go Go.Proofs
variable {B : Nat}
abbrev Sym := List Int × Bool
abbrev encS (g : Sym) : AV := .agg [encI g.1, .bool g.2]
def flatG (G : List Sym) : List AV := G.flatMap fun g => [encI g.1, .bool g.2]
abbrev encG (G : List Sym) : AV := .lst 2 G.length (flatG G)
theorem flatG_drop : ∀ (q : List Sym) (i : Nat), (flatG q).drop (i * 2) = flatG (q.drop i)
 | q, 0 => by simp
 | [], i + 1 => by simp [flatG]
 | p :: q, i + 1 => by
  rw [List.drop_succ_cons, ← flatG_drop q i, show (i + 1) * 2 = i * 2 + 1 + 1 by omega]
  rfl
theorem flatG_cons {q : List Sym} {i : Nat} (h : i < q.length) : (flatG q).drop (i * 2) = encI q[i].1 :: .bool q[i].2 :: (flatG q).drop ((i + 1) * 2) := by
 rw [flatG_drop, flatG_drop, List.drop_eq_getElem_cons h]; rfl
instance (l : List Int) : Decidable (PermL l) := by unfold PermL; infer_instance
def permErr (l : List Int) : Int := if 256 < l.length then 5 else if PermL l then 0 else 14
theorem perm45x {l : List Int} (hl : l.length ≤ 100000) : Pure Tryz.prog B 45 [encI l] (· = I (permErr l)) := by
 refine pure_hp fun h nx K H0 hK => by_body tbl_ok dreg 1000000 fun hf => ?_
 rw [F45.go]
 simp only [sLen_lst, sGtr]
 by_cases c : (256 : Int) < (l.length : Int)
 ·simp only [c, decide_true, sCond_t]
  exact hK _ _ _ _ _ H0 (frz_fixd rfl) (by rw [permErr, if_pos (by omega)])
 have hpe : permErr l = if PermL l then 0 else 14 := by rw [permErr, if_neg (by omega)]
 simp only [c, decide_false, sCond_f]
 refine H0.mk1 l.length rfl rfl (by omega) (by decide) fun tb h1 nx1 H1 => ?_
 have e0 : List.replicate l.length (AV.bool false) = (hadL l.length []).map AV.bool := by simp [hadL]
 rw [e0] at H1
 refine F45.L2 (fun m x3 h' nx' => ∃ i : Nat, x3 = I i ∧ m = l.length - i ∧ i ≤ l.length ∧ (l.take i).Nodup ∧ (∀ x ∈ l.take i, 0 ≤ x ∧ x < (l.length : Int)) ∧ Hp h h' nx' [.arr tb ((hadL l.length (l.take i)).map AV.bool)]) (m := l.length) (by omega)
  ⟨0, rfl, by omega, by omega, by simp, by simp, by simpa using H1⟩ ?_
 rintro m x1 x3 x5 x6 h2 nx2 R ⟨i, rfl, rfl, hi, hnd, hrg, H2⟩ hR
 simp only [sLen_lst, sLss]
 by_cases hlt : i < l.length
 case neg =>
  simp only [show ¬ (i : Int) < (l.length : Int) by omega, decide_false, sCond_f]
  rw [F45.k10]
  rw [List.take_of_length_le (by omega)] at hnd hrg
  exact hK _ _ _ _ _ H2 (frz_fixd rfl) (by rw [hpe, if_pos ⟨hnd, hrg⟩])
 simp only [show (i : Int) < (l.length : Int) by omega, decide_true, sCond_t]
 have hx : l[i]? = some l[i] := List.getElem?_eq_getElem hlt
 have bad : ¬ PermL l → K (I 14) h2 nx2 = .ok True := fun q => hK _ _ _ _ _ H2 (frz_fixd rfl) (by rw [hpe, if_neg q])
 have hrange : PermL l → 0 ≤ l[i] ∧ l[i] < (l.length : Int) := fun q => q.2 _ (List.getElem_mem hlt)
 rw [sIxL rfl hlt, ldL (getI hx)]
 by_cases c1 : l[i] < 0
 ·simp only [sLss, c1, decide_true, sG_tf, sPick_t, sCond_t]
  exact bad fun q => by have := hrange q; omega
 simp only [sLss, c1, decide_false, sG_ff]
 rw [sIxL rfl hlt, ldL (getI hx)]
 simp only [sLen_lst, sGeq, sPick_f]
 by_cases c2 : (l.length : Int) ≤ l[i]
 ·simp only [c2, decide_true, sG_tf, sPick_t, sCond_t]
  exact bad fun q => by have := hrange q; omega
 simp only [c2, decide_false, sG_ff]
 have hk : (l[i]).toNat < l.length := by omega
 have hg : ((hadL l.length (l.take i)).map AV.bool)[(l[i]).toNat]? = some (.bool (decide (l[i] ∈ l.take i))) := by
  rw [List.getElem?_map, hadL_get (fun x hx => (hrg x hx).1) hk, show (((l[i]).toNat : Nat) : Int) = l[i] by omega]; rfl
 rw [sIxL rfl hlt, ldL (getI hx), sIx (i := (l[i]).toNat) (by omega) hk, H2.load (k := 0) rfl hg]
 simp only [sPick_f]
 by_cases c3 : l[i] ∈ l.take i
 ·simp only [c3, decide_true, sCond_t]
  refine bad fun q => ?_
  obtain ⟨j, hj⟩ := List.mem_iff_getElem?.1 c3
  have hjl := (List.getElem?_eq_some_iff.1 hj).1
  rw [List.length_take] at hjl
  rw [List.getElem?_take_of_lt (by omega)] at hj
  obtain ⟨a1, a2⟩ := List.getElem?_eq_some_iff.1 hj
  exact List.pairwise_iff_getElem.1 q.1 j i a1 hlt (by omega) a2
 simp only [c3, decide_false, sCond_f]
 rw [F45.k8, sIxL rfl hlt, ldL (getI hx), sIx (i := (l[i]).toNat) (by omega) hk]
 refine H2.store (k := 0) rfl (by rw [List.length_map, hadL_length]; exact hk) rfl fun h3 H3 => ?_
 rw [F45.k9, sAdd (by omega)]
 have htk : l.take (i + 1) = l.take i ++ [l[i]] := by rw [List.take_add_one, hx]; rfl
 refine hR _ _ _ _ _ _ _ (by omega) ⟨i + 1, rfl, rfl, by omega, ?_, ?_, H3.cast ?_⟩
 ·rw [htk]
  exact List.nodup_append.2 ⟨hnd, by simp, fun a ha b hb => by simp at hb; subst hb; rintro rfl; exact c3 ha⟩
 ·intro x hm
  rw [htk] at hm
  rcases List.mem_append.1 hm with q | q
  ·exact hrg x q
  ·simp at q; subst q; omega
 ·rw [htk, hadL_snoc]
  simp [List.map_set]
def symErr (g : List Int) (n : Int) : Int := if n < 0 ∨ 256 < n then 3 else if (g.length : Int) ≠ n then 2 else if PermL g then 0 else 14
theorem sym47x {g : List Int} {c : Bool} {n : Int} : Pure Tryz.prog B 47 [.agg [encI g, .bool c], I n] (· = I (symErr g n)) := by
 refine pure_hp fun h nx K H0 hK => by_body tbl_ok dreg 1000 fun hf => ?_
 rw [F47.go]
 refine H0.box (l := [encI g, .bool c]) rfl fun bx h1 nx1 H1 => ?_
 refine cells104 n _ _ _ _ ?_
 rintro _ rfl _
 simp only [sNeq]
 by_cases c1 : n < 0 ∨ 256 < n
 ·simp only [if_pos c1]
  exact hK _ _ _ _ _ H1 (frz_fixd rfl) (by rw [symErr, if_pos c1])
 simp only [if_neg c1, decide_true, Bool.not_true, sCond_f, sFx]
 rw [H1.load (k := 0) (i := 0) rfl rfl]
 simp only [sLen_lst, sNeq]
 by_cases c2 : (g.length : Int) = n
 case neg =>
  simp only [c2, decide_false, Bool.not_false, sCond_t]
  exact hK _ _ _ _ _ H1 (frz_fixd rfl) (by rw [symErr, if_neg c1, if_pos c2])
 simp only [c2, decide_true, Bool.not_true, sCond_f]
 rw [H1.load (k := 0) (i := 0) rfl rfl]
 refine perm45x (by omega) _ _ _ _ ?_
 rintro _ rfl _
 exact hK _ _ _ _ _ H1 (frz_fixd rfl) (by rw [symErr, if_neg c1, if_neg (by simp [c2]), permErr, if_neg (by omega)])
def compL (p q : List Int) : List Int := q.map fun c => p.getD c.toNat 0
def compS (a b : Sym) : Sym := (compL a.1 b.1, a.2 != b.2)
theorem compL_take {p q : List Int} {i : Nat} {x : Int} (h : q[i]? = some x) : compL p (q.take (i + 1)) = compL p (q.take i) ++ [p.getD x.toNat 0] := by
 rw [compL, List.take_add_one, h, List.map_append]; rfl
theorem compose170 {p q : List Int} (hq : ∀ x ∈ q, 0 ≤ x ∧ x < (p.length : Int)) (hl : q.length ≤ 100000) : Pure Tryz.prog B 170 [encI p, encI q] (· = .lst 1 q.length ((compL p q).map I)) := by
 refine pure_hp fun h nx K H0 hK => by_body tbl_ok dreg 1000000 fun hf => ?_
 rw [F170.go]
 refine F170.L1 (fun m x3 x4 h' nx' => ∃ (i : Nat) (o : Option Pa), x4 = I i ∧ x3 = rowV o 1 i ∧ q.length - i = m ∧ i ≤ q.length ∧ Hp h h' nx' [.gro o 1 i ((compL p (q.take i)).map I)]) (m := q.length) (by omega) ⟨0, none, rfl, rfl, rfl, by omega, H0.addGro 1⟩ ?_
 rintro m z3 z4 z5 h1 nx1 R ⟨i, o, rfl, rfl, rfl, hi, H1⟩ hR
 simp only [sLen_lst, sLss]
 by_cases hlt : i < q.length
 ·simp only [show (i : Int) < (q.length : Int) by omega, decide_true, sCond_t]
  have hx : q[i]? = some q[i] := List.getElem?_eq_getElem hlt
  have hb := hq _ (List.getElem_mem hlt)
  have hy : p[q[i].toNat]? = some (p.getD q[i].toNat 0) := by
   rw [List.getD_eq_getElem?_getD, List.getElem?_eq_getElem (show q[i].toNat < p.length by omega)]; rfl
  rw [sIxL rfl hlt, ldL (getI hx), sIxL (i := q[i].toNat) (by omega) (by omega), ldL (getI hy)]
  refine H1.bslice (l := [I (p.getD q[i].toNat 0)]) rfl fun tb h2 nx2 H2 => ?_
  refine H2.appN (k := 1) (o := o) (c := 1) (new := [I (p.getD q[i].toNat 0)]) rfl (HasArr.rd (l := [I (p.getD q[i].toNat 0)]) (n := 1) (H2.own _ (List.mem_cons_self ..)) rfl) rfl rfl (by decide) (by decide) (by omega) fun o' h3 nx3 _ H3 => ?_
  rw [sAdd (by omega)]
  refine hR _ _ _ _ _ _ (by omega) ⟨i + 1, o', rfl, rfl, rfl, by omega, ?_⟩
  rw [compL_take hx, List.map_append]
  exact H3.drop
 ·simp only [show ¬ (i : Int) < (q.length : Int) by omega, decide_false, sCond_f]
  obtain rfl : i = q.length := by omega
  rw [List.take_of_length_le (by omega)] at H1
  rw [F170.k8]
  exact hK _ _ _ _ _ H1 (H1.frzGro (k := 0) rfl (by intro v hv; obtain ⟨x, _, rfl⟩ := List.mem_map.1 hv; rfl)) rfl
theorem sNeqB {a b : Bool} {K : AV → OP} : sBin .neq .bool (.bool a) (.bool b) K = K (.bool (a != b)) := by cases a <;> cases b <;> exact nr rfl
theorem sEqlB {a b : Bool} {K : AV → OP} : sBin .eql .bool (.bool a) (.bool b) K = K (.bool (a == b)) := by cases a <;> cases b <;> exact nr rfl
theorem compose145 {a b : Sym} (hq : ∀ x ∈ b.1, 0 ≤ x ∧ x < (a.1.length : Int)) (hl : b.1.length ≤ 100000) : Pure Tryz.prog B 145 [encS a, encS b] (· = encS (compS a b)) := by
 refine pure_hp fun h nx K H0 hK => by_body tbl_ok dreg 1000 fun hf => ?_
 rw [F145.go]
 refine H0.box (l := [encI a.1, .bool a.2]) rfl fun b1 h1 nx1 H1 => ?_
 refine H1.box (l := [encI b.1, .bool b.2]) rfl fun b2 h2 nx2 H2 => ?_
 refine H2.alloc fun r h3 nx3 H3 => ?_
 simp only [sFx]
 rw [H3.load (k := 2) (i := 0) rfl rfl, H3.load (k := 1) (i := 0) rfl rfl, H3.load (k := 2) (i := 0 + 1) rfl rfl, H3.load (k := 1) (i := 0 + 1) rfl rfl, sNeqB]
 refine compose170 hq hl _ _ _ _ ?_
 rintro _ rfl _
 rw [sNeqB]
 simp only [sSame_refl]
 rw [H3.load (k := 1) (i := 0 + 1) rfl rfl]
 simp only [sSame_refl]
 rw [H3.load (k := 2) (i := 0 + 1) rfl rfl]
 simp only [sSame_refl]
 have eb : ∀ K : AV → OP, sBuild [.nils, (.bool false)] [(0, 1, .lst 1 b.1.length ((compL a.1 b.1).map I)), (1, 1, .bool (a.2 != b.2))] K = K (.agg [.lst 1 b.1.length ((compL a.1 b.1).map I), .bool (a.2 != b.2)]) := fun K => nr rfl
 rw [eb]
 refine H3.storeN (k := 0) (n := 2) rfl rfl rfl fun h4 H4 => ?_
 rw [H4.loadN (k := 0) (n := 2) rfl rfl]
 have e : AV.lst 1 b.1.length ((compL a.1 b.1).map I) = encI (compL a.1 b.1) := by simp [encI, compL]
 rw [e]
 refine hK _ _ _ _ _ H4 (frz_agg fun v hv => ?_) rfl
 simp only [List.mem_cons, List.not_mem_nil, or_false] at hv
 rcases hv with rfl | rfl
 ·exact fixd_encI _
 ·rfl
end Go.Ev
namespace Go.Ev
open Go Go.Proofs
variable {B : Nat}
theorem same169 {a b : Sym} (ha : a.1.length ≤ 1000000) : Pure Tryz.prog B 169 [encS a, encS b] (· = .bool (decide (a = b))) := by
 refine pure_hp fun h nx K H0 hK => by_body tbl_ok dreg 1000 fun hf => ?_
 rw [F169.go]
 refine H0.box (l := [encI a.1, .bool a.2]) rfl fun b1 h1 nx1 H1 => ?_
 refine H1.box (l := [encI b.1, .bool b.2]) rfl fun b2 h2 nx2 H2 => ?_
 simp only [sFx]
 rw [H2.load (k := 1) (i := 0 + 1) rfl rfl, H2.load (k := 0) (i := 0 + 1) rfl rfl, sEqlB]
 by_cases c : a.2 = b.2
 ·simp only [c, beq_self_eq_true, sG_tt]
  rw [H2.load (k := 1) (i := 0) rfl rfl, H2.load (k := 0) (i := 0) rfl rfl, gW_tt]
  refine sameInts35 (by omega) _ _ _ _ ?_
  rintro _ rfl _
  rw [sPick_t]
  refine hK _ _ _ _ _ H2 (frz_fixd rfl) ?_
  congr 1
  refine decide_eq_decide.2 ⟨fun q => Prod.ext q c, fun q => by rw [q]⟩
 ·have e : (a.2 == b.2) = false := by simpa using c
  rw [e]
  simp only [sG_ft, gW_ft, sPick_f]
  refine hK _ _ _ _ _ H2 (frz_fixd rfl) ?_
  rw [decide_eq_false fun q => c (by rw [q])]
theorem index144 {G : List Sym} {a : Sym} (hG : G.length ≤ 1000000) (hw : ∀ g ∈ G, g.1.length ≤ 1000000) : Pure Tryz.prog B 144 [encG G, encS a] (fun v => ∃ r : Int, v = I r ∧ (r < 0 ↔ a ∉ G)) := by
 refine pure_hp fun h nx K H0 hK => by_body tbl_ok dreg 10000000 fun hf => ?_
 rw [F144.go]
 refine H0.box (l := [encI a.1, .bool a.2]) rfl fun b1 h1 nx1 H1 => ?_
 refine F144.L1 (fun m x4 h' nx' => ∃ i : Nat, x4 = I i ∧ G.length - i = m ∧ i ≤ G.length ∧ h' = h1 ∧ nx' = nx1 ∧ a ∉ G.take i) (m := G.length) (by omega) ⟨0, rfl, rfl, by omega, rfl, rfl, by simp⟩ ?_
 rintro m z3 z4 z5 z6 h1 nx1 R ⟨i, rfl, rfl, hi, rfl, rfl, hn⟩ hR
 simp only [sLen_lst, sLss]
 by_cases hlt : i < G.length
 case neg =>
  simp only [show ¬ (i : Int) < (G.length : Int) by omega, decide_false, sCond_f]
  rw [F144.k8]
  rw [List.take_of_length_le (by omega)] at hn
  exact hK _ _ _ _ _ H1 (frz_fixd rfl) ⟨-1, rfl, by simp [hn]⟩
 simp only [show (i : Int) < (G.length : Int) by omega, decide_true, sCond_t]
 have hx : G[i]? = some G[i] := List.getElem?_eq_getElem hlt
 rw [sIxL rfl hlt, flatG_cons hlt, sLoadNP, H1.loadN (k := 0) (n := 2) rfl rfl]
 refine same169 (a := G[i]) (b := a) (hw _ (List.getElem_mem hlt)) _ _ _ _ ?_
 rintro _ rfl _
 by_cases c : G[i] = a
 ·rw [decide_eq_true c, sCond_t]
  refine hK _ _ _ _ _ H1 (frz_fixd rfl) ⟨i, rfl, ?_⟩
  have : a ∈ G := c ▸ List.getElem_mem hlt
  exact ⟨fun q => by omega, fun q => absurd this q⟩
 ·rw [decide_eq_false c, sCond_f, sAdd (by omega)]
  refine hR _ _ _ _ _ _ _ (by omega) ⟨i + 1, rfl, rfl, by omega, rfl, rfl, fun q => ?_⟩
  rw [List.take_add_one, hx] at q
  rcases List.mem_append.1 q with q | q
  ·exact hn q
  ·simp at q; exact c q.symm
def befS (a b : Sym) : Bool := if a.1 = b.1 then !a.2 && b.2 else lexLt a.1 b.1
theorem before143 {a b : Sym} (ha : a.1.length ≤ 1000000) (hb : b.1.length ≤ 1000000) : Pure Tryz.prog B 143 [encS a, encS b] (· = .bool (befS a b)) := by
 refine pure_hp fun h nx K H0 hK => by_body tbl_ok dreg 1000 fun hf => ?_
 rw [F143.go]
 refine H0.box (l := [encI a.1, .bool a.2]) rfl fun b1 h1 nx1 H1 => ?_
 refine H1.box (l := [encI b.1, .bool b.2]) rfl fun b2 h2 nx2 H2 => ?_
 simp only [sFx]
 rw [H2.load (k := 1) (i := 0) rfl rfl, H2.load (k := 0) (i := 0) rfl rfl]
 refine sameInts35 (by omega) _ _ _ _ ?_
 rintro _ rfl _
 by_cases c : a.1 = b.1
 ·rw [decide_eq_true c, sCond_t, H2.load (k := 1) (i := 0 + 1) rfl rfl]
  have e : befS a b = (!a.2 && b.2) := if_pos c
  rw [sNot_b]
  cases h2' : a.2 with
  | true =>
   simp only [Bool.not_true, sG_ft, sPick_f]
   exact hK _ _ _ _ _ H2 (frz_fixd rfl) (by rw [e, h2']; rfl)
  | false =>
   simp only [Bool.not_false, sG_tt]
   rw [H2.load (k := 0) (i := 0 + 1) rfl rfl, sPick_t]
   exact hK _ _ _ _ _ H2 (frz_fixd rfl) (by rw [e, h2']; rfl)
 ·rw [decide_eq_false c, sCond_f, H2.load (k := 1) (i := 0) rfl rfl, H2.load (k := 0) (i := 0) rfl rfl]
  refine before74 ha hb _ _ _ _ ?_
  rintro _ rfl _
  exact hK _ _ _ _ _ H2 (frz_fixd rfl) (by rw [befS, if_neg c])
def symsErr (n : Int) : List Sym → Int
 | [] => 0
 | g :: G => if symErr g.1 n ≠ 0 then symErr g.1 n else symsErr n G
def ordG : List Sym → Bool
 | [] => true
 | [_] => true
 | a :: b :: G => befS a b && ordG (b :: G)
def clG (G : List Sym) : Bool := G.all fun a => G.all fun b => decide (compS a b ∈ G)
def grpErr (G : List Sym) (n : Int) : Int := if n < 0 ∨ 256 < n then 3 else if G.length = 0 then 12 else if 1536 < G.length then 5 else if symsErr n G ≠ 0 then symsErr n G else if ordG G = false then 11 else if clG G = false then 28 else 0
theorem symsErr_drop {n : Int} {G : List Sym} {i : Nat} (h : i < G.length) : symsErr n (G.drop i) = if symErr G[i].1 n ≠ 0 then symErr G[i].1 n else symsErr n (G.drop (i + 1)) := by
 rw [List.drop_eq_getElem_cons h]; rfl
theorem symsErr_ok {n : Int} : ∀ {G : List Sym}, symsErr n G = 0 → ∀ g ∈ G, symErr g.1 n = 0
 | [], _, g, h => by simp at h
 | a :: G, h, g, hg => by
  rw [symsErr] at h
  by_cases c : symErr a.1 n = 0
  ·rw [if_neg (by simp [c])] at h
   rcases List.mem_cons.1 hg with rfl | q
   ·exact c
   ·exact symsErr_ok h g q
  ·rw [if_pos c] at h; exact absurd h c
theorem symErr_ok {g : List Int} {n : Int} (h : symErr g n = 0) : (0 ≤ n ∧ n ≤ 256) ∧ (g.length : Int) = n ∧ PermL g := by
 rw [symErr] at h
 by_cases c1 : n < 0 ∨ 256 < n
 ·rw [if_pos c1] at h; cases h
 rw [if_neg c1] at h
 by_cases c2 : (g.length : Int) = n
 ·rw [if_neg (by simp [c2])] at h
  by_cases c3 : PermL g
  ·exact ⟨by omega, c2, c3⟩
  ·rw [if_neg c3] at h; cases h
 ·rw [if_pos c2] at h; cases h
theorem ordG_drop {G : List Sym} {i : Nat} (h : i + 1 < G.length) : ordG (G.drop i) = (befS G[i] G[i + 1] && ordG (G.drop (i + 1))) := by
 rw [List.drop_eq_getElem_cons (show i < G.length by omega), List.drop_eq_getElem_cons h, ordG]
theorem ordG_end {G : List Sym} {i : Nat} (h : G.length ≤ i + 1) : ordG (G.drop i) = true := by
 have : (G.drop i).length ≤ 1 := by rw [List.length_drop]; omega
 cases hd : G.drop i with
 | nil => rfl
 | cons a l =>
  rw [hd] at this
  cases l with
  | nil => rfl
  | cons b l => simp at this
theorem refGroup110 {G : List Sym} {n : Int} (hG : G.length ≤ 100000) : Pure Tryz.prog B 110 [encG G, I n] (· = I (grpErr G n)) := by
 refine pure_hp fun h nx K H0 hK => by_body tbl_ok dreg 10000000 fun hf => ?_
 have ret : ∀ v : Int, v = grpErr G n → K (I v) h nx = .ok True := fun v hv => by rw [hv]; exact hK _ _ _ _ _ H0 (frz_fixd rfl) rfl
 rw [F110.go]
 refine cells104 n _ _ _ _ ?_
 rintro _ rfl _
 by_cases c1 : n < 0 ∨ 256 < n
 ·simp only [if_pos c1, sNeq, show ¬ (3 : Int) = 0 by decide, decide_false, Bool.not_false, sCond_t]
  exact ret 3 (by rw [grpErr, if_pos c1])
 simp only [if_neg c1, sNeq, decide_true, Bool.not_true, sCond_f, sLen_lst, sEql]
 by_cases c2 : G.length = 0
 ·simp only [show (G.length : Int) = 0 by omega, decide_true, sCond_t]
  exact ret 12 (by rw [grpErr, if_neg c1, if_pos c2])
 simp only [show ¬ (G.length : Int) = 0 by omega, decide_false, sCond_f, sLen_lst, sGtr]
 by_cases c3 : 1536 < G.length
 ·simp only [show (1536 : Int) < (G.length : Int) by omega, decide_true, sCond_t]
  exact ret 5 (by rw [grpErr, if_neg c1, if_neg c2, if_pos c3])
 simp only [show ¬ (1536 : Int) < (G.length : Int) by omega, decide_false, sCond_f]
 have e0 : grpErr G n = if symsErr n G ≠ 0 then symsErr n G else if ordG G = false then 11 else if clG G = false then 28 else 0 := by rw [grpErr, if_neg c1, if_neg c2, if_neg c3]
 refine F110.L4 (fun m x3 h' nx' => ∃ i : Nat, x3 = I i ∧ G.length - i = m ∧ i ≤ G.length ∧ h' = h ∧ nx' = nx ∧ symsErr n G = symsErr n (G.drop i)) (m := G.length) (by omega) ⟨0, rfl, rfl, by omega, rfl, rfl, rfl⟩ ?_
 rintro m z2 z3 z4 z11 z12 h nx R ⟨i, rfl, rfl, hi, rfl, rfl, hs⟩ hR
 simp only [sLen_lst, sLss]
 by_cases hlt : i < G.length
 ·simp only [show (i : Int) < (G.length : Int) by omega, decide_true, sCond_t]
  rw [sIxL rfl hlt, flatG_cons hlt, sLoadNP]
  refine sym47x _ _ _ _ ?_
  rintro _ rfl _
  rw [symsErr_drop hlt] at hs
  simp only [sNeq]
  by_cases c : symErr G[i].1 n = 0
  ·simp only [c, decide_true, Bool.not_true, sCond_f]
   rw [if_neg (by simp [c])] at hs
   rw [sAdd (by omega)]
   exact hR _ _ _ _ _ _ _ _ (by omega) ⟨i + 1, rfl, rfl, by omega, rfl, rfl, hs⟩
  ·simp only [c, decide_false, Bool.not_false, sCond_t]
   rw [if_pos c] at hs
   exact ret _ (by rw [e0, hs, if_pos c])
 simp only [show ¬ (i : Int) < (G.length : Int) by omega, decide_false, sCond_f]
 rw [List.drop_of_length_le (by omega)] at hs
 have hs : symsErr n G = 0 := hs
 rw [if_neg (by simp [hs])] at e0
 have hok := symsErr_ok hs
 clear hR
 rw [F110.k11]
 refine F110.L12 (fun m x5 h' nx' => ∃ i : Nat, x5 = I (i + 1 : Nat) ∧ G.length - i = m ∧ i ≤ G.length ∧ h' = h ∧ nx' = nx ∧ ordG G = ordG (G.drop i)) (m := G.length) (by omega) ⟨0, rfl, rfl, by omega, rfl, rfl, rfl⟩ ?_
 rintro m z2 z5 z13 z14 h nx R ⟨i, rfl, rfl, hi, rfl, rfl, ho⟩ hR
 simp only [sLen_lst, sLss]
 by_cases hlt : i + 1 < G.length
 ·simp only [show ((i + 1 : Nat) : Int) < (G.length : Int) by omega, decide_true, sCond_t]
  rw [sSub (by omega), sIxL (i := i) (by omega) (by omega), flatG_cons (show i < G.length by omega), sLoadNP, sIxL rfl hlt, flatG_cons hlt, sLoadNP]
  have w1 := (symErr_ok (hok _ (List.getElem_mem (show i < G.length by omega)))).2.1
  have w2 := (symErr_ok (hok _ (List.getElem_mem hlt))).2.1
  refine before143 (a := G[i]) (b := G[i + 1]) (by omega) (by omega) _ _ _ _ ?_
  rintro _ rfl _
  rw [ordG_drop hlt] at ho
  rw [sNot_b]
  cases c : befS G[i] G[i + 1] with
  | true =>
   rw [c, Bool.true_and] at ho
   simp only [Bool.not_true, sCond_f]
   rw [sAdd (by omega)]
   exact hR _ _ _ _ _ _ _ (by omega) ⟨i + 1, rfl, rfl, by omega, rfl, rfl, ho⟩
  | false =>
   rw [c, Bool.false_and] at ho
   simp only [Bool.not_false, sCond_t]
   exact ret 11 (by rw [e0, if_pos ho])
 simp only [show ¬ ((i + 1 : Nat) : Int) < (G.length : Int) by omega, decide_false, sCond_f]
 rw [ordG_end (by omega)] at ho
 rw [if_neg (by simp [ho])] at e0
 clear hR
 rw [F110.k19]
 refine F110.L20 (fun m x6 h' nx' => ∃ i : Nat, x6 = I i ∧ G.length - i = m ∧ i ≤ G.length ∧ h' = h ∧ nx' = nx ∧ ∀ a ∈ G.take i, ∀ b ∈ G, compS a b ∈ G) (m := G.length) (by omega) ⟨0, rfl, rfl, by omega, rfl, rfl, by simp⟩ ?_
 rintro m z2 z6 z7 z15 z16 z17 h nx R ⟨i, rfl, rfl, hi, rfl, rfl, hcl⟩ hR
 simp only [sLen_lst, sLss]
 by_cases hlt : i < G.length
 case neg =>
  simp only [show ¬ (i : Int) < (G.length : Int) by omega, decide_false, sCond_f]
  rw [List.take_of_length_le (by omega)] at hcl
  rw [F110.k34]
  have : clG G = true := by
   rw [clG, List.all_eq_true]
   intro a ha
   rw [List.all_eq_true]
   exact fun b hb => decide_eq_true (hcl a ha b hb)
  exact ret 0 (by rw [e0, if_neg (by simp [this])])
 simp only [show (i : Int) < (G.length : Int) by omega, decide_true, sCond_t]
 have hx : G[i]? = some G[i] := List.getElem?_eq_getElem hlt
 refine F110.L26 (fun m x7 h' nx' => ∃ k : Nat, x7 = I k ∧ G.length - k = m ∧ k ≤ G.length ∧ h' = h ∧ nx' = nx ∧ ∀ b ∈ G.take k, compS G[i] b ∈ G) (m := G.length) (by omega) ⟨0, rfl, rfl, by omega, rfl, rfl, by simp⟩ ?_
 rintro m y2 y7 y16 y17 h nx R2 ⟨k, rfl, rfl, hk, rfl, rfl, hck⟩ hR2
 simp only [sLen_lst, sLss]
 by_cases hkt : k < G.length
 case neg =>
  simp only [show ¬ (k : Int) < (G.length : Int) by omega, decide_false, sCond_f]
  rw [List.take_of_length_le (by omega)] at hck
  rw [F110.k33, sAdd (by omega)]
  refine hR _ _ _ _ _ _ _ _ _ (by omega) ⟨i + 1, rfl, rfl, by omega, rfl, rfl, fun a ha b hb => ?_⟩
  rw [List.take_add_one, hx] at ha
  rcases List.mem_append.1 ha with q | q
  ·exact hcl a q b hb
  ·simp at q; rw [q]; exact hck b hb
 simp only [show (k : Int) < (G.length : Int) by omega, decide_true, sCond_t]
 have hy : G[k]? = some G[k] := List.getElem?_eq_getElem hkt
 obtain ⟨i1, i2, i3⟩ := symErr_ok (hok _ (List.getElem_mem hlt))
 obtain ⟨k1, k2, k3⟩ := symErr_ok (hok _ (List.getElem_mem hkt))
 rw [sIxL rfl hlt, flatG_cons hlt, sLoadNP, sIxL rfl hkt, flatG_cons hkt, sLoadNP]
 refine compose145 (a := G[i]) (b := G[k]) (fun x hx' => by have := k3.2 x hx'; omega) (by omega) _ _ _ _ ?_
 rintro _ rfl _
 simp only [sSame_refl]
 refine index144 (a := compS G[i] G[k]) (by omega) (fun g hg => by have := (symErr_ok (hok g hg)).2.1; omega) _ _ _ _ ?_
 rintro _ ⟨r, rfl, hr⟩ _
 simp only [sLss]
 by_cases c : r < 0
 ·simp only [c, decide_true, sCond_t]
  have hn := hr.1 c
  refine ret 28 ?_
  have : clG G = false := by
   cases q : clG G with
   | false => rfl
   | true =>
    rw [clG, List.all_eq_true] at q
    have q1 := q _ (List.getElem_mem hlt)
    rw [List.all_eq_true] at q1
    exact absurd (of_decide_eq_true (q1 _ (List.getElem_mem hkt))) hn
  rw [e0, if_pos this]
 ·simp only [c, decide_false, sCond_f]
  have hin : compS G[i] G[k] ∈ G := by
   by_cases q : compS G[i] G[k] ∈ G
   ·exact q
   ·exact absurd (hr.2 q) c
  rw [sAdd (by omega)]
  refine hR2 _ _ _ _ _ _ _ (by omega) ⟨k + 1, rfl, rfl, by omega, rfl, rfl, fun b hb => ?_⟩
  rw [List.take_add_one, hy] at hb
  rcases List.mem_append.1 hb with q | q
  ·exact hck b q
  ·simp at q; rw [q]; exact hin
end Go.Ev
namespace Go.Proofs
open Go.Shelf Go.Lib
def ordL : List Int → List Int → Int
 | [], [] => 0
 | [], _ :: _ => -1
 | _ :: _, [] => 1
 | x :: xs, y :: ys => if x < y then -1 else if y < x then 1 else ordL xs ys
theorem isNaN164 (x : Int) (w : World) : Calls Tryz.prog 164 #[.int .i64 x] w fun e w' => e = .returned (.bool false) ∧ w' = w := by
 have t3 := Tryz.underlying3; have a3 := Tryz.isAgg3; have z3 := Tryz.sizeOf3; have v3 := Tryz.zeroValue3; have t4 := Tryz.underlying4; have a4 := Tryz.isAgg4; have z4 := Tryz.sizeOf4; have v4 := Tryz.zeroValue4
 go_enter Tryz.func164, Tryz.ntmps164
 go_wp2
 go_ret
 exact ⟨by simp, rfl⟩
end Go.Proofs
namespace Go.Proofs
open Go.Shelf Go.Lib Go.RowKit
end Go.Proofs
namespace Go.Proofs
theorem ordL_cons (x : Int) (xs : List Int) (y : Int) (ys : List Int) : ordL (x :: xs) (y :: ys) = if x < y then -1 else if y < x then 1 else ordL xs ys := by rw [ordL]
theorem ordL_neg : ∀ a b : List Int, ordL b a = - ordL a b
 | [], [] => by rw [ordL]; rfl
 | [], _ :: _ => by rw [ordL, ordL]; rfl
 | _ :: _, [] => by rw [ordL, ordL]
 | x :: xs, y :: ys => by
  rw [ordL_cons, ordL_cons, ordL_neg xs ys]
  by_cases h : x < y
  ·simp only [if_pos h, if_neg (show ¬ y < x by omega)]; rfl
  ·rw [if_neg h]
   by_cases g : y < x
   ·simp only [if_pos g, if_neg h]
   ·simp only [if_neg g, if_neg h]
theorem ordL_eq : ∀ {a b : List Int}, ordL a b = 0 → a = b
 | [], [], _ => rfl
 | [], _ :: _, h => by rw [ordL] at h; omega
 | _ :: _, [], h => by rw [ordL] at h; omega
 | x :: xs, y :: ys, h => by
  rw [ordL_cons] at h
  by_cases c : x < y
  ·rw [if_pos c] at h; omega
  ·rw [if_neg c] at h
   by_cases g : y < x
   ·rw [if_pos g] at h; omega
   ·rw [if_neg g] at h
    rw [ordL_eq h, show x = y by omega]
theorem ordL_refl (a : List Int) : ordL a a = 0 := by have := ordL_neg a a; omega
theorem ordL_le_trans : ∀ {a b c : List Int}, ordL a b ≤ 0 → ordL b c ≤ 0 → ordL a c ≤ 0
 | [], _, [], _, _ => by rw [ordL]; omega
 | [], _, _ :: _, _, _ => by rw [ordL]; omega
 | _ :: _, [], _, h, _ => by rw [ordL] at h; omega
 | x :: xs, y :: ys, [], _, h => by rw [ordL] at h; omega
 | x :: xs, y :: ys, z :: zs, h, g => by
  rw [ordL_cons] at h g ⊢
  by_cases c1 : x < y
  ·by_cases c2 : y < z
   ·rw [if_pos (by omega)]; omega
   ·rw [if_neg c2] at g
    by_cases c3 : z < y
    ·rw [if_pos c3] at g; omega
    ·rw [if_pos (by omega)]; omega
  ·rw [if_neg c1] at h
   by_cases c4 : y < x
   ·rw [if_pos c4] at h; omega
   ·rw [if_neg c4] at h
    by_cases c2 : y < z
    ·rw [if_pos (by omega)]; omega
    ·rw [if_neg c2] at g
     by_cases c3 : z < y
     ·rw [if_pos c3] at g; omega
     ·rw [if_neg c3] at g
      rw [if_neg (by omega), if_neg (by omega)]
      exact ordL_le_trans h g
theorem ordL_lt_trans {a b c : List Int} (h : ordL a b < 0) (g : ordL b c < 0) : ordL a c < 0 := by
 have := ordL_le_trans (Int.le_of_lt h) (Int.le_of_lt g)
 by_cases e : ordL a c = 0
 ·have := ordL_eq e
  subst this
  have := ordL_neg a b
  omega
 ·omega
end Go.Proofs
namespace Go.Ev
open Go.Proofs
structure IsTab (A : List (List Int × Nat)) (M : List (List Int)) : Prop where
 srt : A.Pairwise fun a b => ordL a.1 b.1 < 0
 cnt : ∀ p ∈ A, p.2 = M.count p.1 ∧ 0 < p.2
 all : ∀ y ∈ M, ∃ p ∈ A, p.1 = y
theorem IsTab.mem {A : List (List Int × Nat)} {M : List (List Int)} (T : IsTab A M) (p : List Int × Nat) : p ∈ A ↔ p.2 = M.count p.1 ∧ 0 < p.2 := by
 refine ⟨T.cnt p, fun ⟨h1, h2⟩ => ?_⟩
 have hm : p.1 ∈ M := List.count_pos_iff.1 (by omega)
 obtain ⟨q, hq, e⟩ := T.all _ hm
 have := (T.cnt q hq).1
 have : q = p := by
  refine Prod.ext e ?_
  rw [this, e, h1]
 exact this ▸ hq
theorem IsTab.nil : IsTab [] [] := ⟨.nil, by simp, by simp⟩
def cntT (A : List (List Int × Nat)) (y : List Int) : Nat := (A.map fun p => if p.1 = y then p.2 else 0).sum
theorem cntT_zero {y : List Int} : ∀ {A : List (List Int × Nat)}, (∀ q ∈ A, q.1 ≠ y) → cntT A y = 0
 | [], _ => rfl
 | a :: A, h => by
  have := cntT_zero (y := y) (A := A) fun q hq => h q (by simp [hq])
  simp only [cntT, List.map_cons, List.sum_cons] at this ⊢
  rw [if_neg (h a (by simp)), this]
theorem cntT_mem : ∀ {A : List (List Int × Nat)}, A.Pairwise (fun a b => ordL a.1 b.1 < 0) → ∀ p ∈ A, cntT A p.1 = p.2
 | [], _, p, h => by cases h
 | a :: A, hA, p, h => by
  rw [List.pairwise_cons] at hA
  simp only [cntT, List.map_cons, List.sum_cons]
  rcases List.mem_cons.1 h with e | e
  ·subst e
   rw [if_pos rfl]
   have : cntT A p.1 = 0 := cntT_zero fun q hq e => by
    have := hA.1 q hq
    rw [e, ordL_refl] at this; omega
   rw [cntT] at this; omega
  ·have h1 := hA.1 p e
   rw [if_neg (fun e => by rw [e, ordL_refl] at h1; omega)]
   have := cntT_mem hA.2 p e
   rw [cntT] at this; omega
theorem cntT_pos {A : List (List Int × Nat)} {y : List Int} (h : 0 < cntT A y) : ∃ p ∈ A, p.1 = y := by
 by_cases c : ∃ p ∈ A, p.1 = y
 ·exact c
 ·have := cntT_zero (A := A) (y := y) fun q hq e => c ⟨q, hq, e⟩
  omega
structure Tab (A : List (List Int × Nat)) (M : List (List Int)) : Prop where
 srt : A.Pairwise fun a b => ordL a.1 b.1 < 0
 cnt : ∀ y, cntT A y = M.count y
 pos : ∀ p ∈ A, 0 < p.2
theorem Tab.is {A : List (List Int × Nat)} {M : List (List Int)} (T : Tab A M) : IsTab A M := {
 srt := T.srt
 cnt p hp := ⟨by rw [← T.cnt, cntT_mem T.srt p hp], T.pos p hp⟩
 all y hy := cntT_pos (by rw [T.cnt]; exact List.count_pos_iff.2 hy) }
theorem Tab.nil : Tab [] [] := ⟨.nil, fun _ => rfl, by simp⟩
theorem Tab.perm {A : List (List Int × Nat)} {M M' : List (List Int)} (T : Tab A M) (h : M.Perm M') : Tab A M' := ⟨T.srt, fun y => (T.cnt y).trans (h.count_eq y), T.pos⟩
end Go.Ev
namespace Go.Ev
open Go.Proofs
theorem lexLt_ord : ∀ a b : List Int, lexLt a b = decide (ordL a b < 0)
 | [], [] => by rw [lexLt, ordL]; rfl
 | [], _ :: _ => by rw [lexLt, ordL]; rfl
 | _ :: _, [] => by rw [lexLt, ordL]; rfl
 | x :: xs, y :: ys => by
  rw [lexLt, ordL_cons, lexLt_ord xs ys]
  by_cases e : x = y
  ·subst e
   rw [if_pos rfl, if_neg (show ¬ x < x by omega), if_neg (show ¬ x < x by omega)]
  ·rw [if_neg e]
   by_cases g : x < y
   ·simp only [if_pos g, g, decide_true]; rfl
   ·rw [if_neg g, if_pos (show y < x by omega)]
    simp only [g, decide_false]; rfl
end Go.Ev
namespace Go.Ev
open Go Go.Proofs
variable {B : Nat}
theorem image142 {g f : List Int} {c : Bool} (hl : f.length ≤ 1000) (hg : g.length = f.length) (hp : PermL g) (hf : ∀ x ∈ f, -1000000000 ≤ x ∧ x ≤ 1000000000) : Pure Tryz.prog B 142 [.agg [encI g, .bool c], encI f] (· = encI (applyS c g f)) := by
 refine pure_hp fun h nx K H0 hK => by_body tbl_ok dreg 10000 fun hf' => ?_
 rw [F142.go]
 refine H0.box (l := [encI g, .bool c]) rfl fun bx h1 nx1 H1 => ?_
 simp only [sLen_lst]
 refine H1.mk1 f.length rfl rfl (by omega) (by decide) fun tb h2 nx2 H2 => ?_
 have e0 : List.replicate f.length (I 0) = (applyP f.length c g f 0).map I := by simp [applyP]
 rw [e0] at H2
 refine F142.L1 (fun m x9 h' nx' => ∃ i : Nat, x9 = I i ∧ m = f.length - i ∧ i ≤ f.length ∧ Hp h h' nx' [.arr tb ((applyP f.length c g f i).map I), .arr bx [encI g, .bool c]]) (m := f.length) (by omega)
  ⟨0, rfl, by omega, by omega, H2⟩ ?_
 rintro m x5 x6 x9 x10 x11 h3 nx3 R ⟨i, rfl, rfl, hi, H3⟩ hR
 simp only [sLen_lst, sLss]
 by_cases hlt : i < f.length
 case neg =>
  simp only [show ¬ (i : Int) < (f.length : Int) by omega, decide_false, sCond_f]
  rw [F142.k9]
  obtain rfl : i = f.length := by omega
  have hal := applyP_length f.length c g f f.length
  refine hK _ _ _ _ _ H3 (H3.frzArr (k := 0) rfl (Nat.le_refl _) (by simp [hal]) fixdI) ?_
  show _ = AV.lst 1 _ _
  rw [applyS, hal]
 simp only [show (i : Int) < (f.length : Int) by omega, decide_true, sCond_t]
 have hx : f[i]? = some f[i] := List.getElem?_eq_getElem hlt
 have hgx : g[i]? = some g[i] := List.getElem?_eq_getElem (by omega)
 have hgb := hp.2 _ (List.getElem_mem (show i < g.length by omega))
 have hfb := hf _ (List.getElem_mem hlt)
 have hfd : f.getD i 0 = f[i] := by rw [List.getD_eq_getElem?_getD, hx]; rfl
 have hgd : g.getD i 0 = g[i] := by rw [List.getD_eq_getElem?_getD, hgx]; rfl
 rw [sIxL rfl hlt, ldL (getI hx), sFx, H3.load (k := 1) (i := 0 + 1) rfl rfl]
 cases c with
 | true =>
  simp only [sCond_t]
  rw [sAdd (by omega), sSub (by omega), sFx, H3.load (k := 1) (i := 0) rfl rfl, sIxL rfl (by omega), ldL (getI hgx), sIx (i := (g[i]).toNat) (by omega) (by omega)]
  refine H3.store (k := 0) rfl (by rw [List.length_map, applyP_length]; omega) rfl fun h4 H4 => ?_
  rw [sAdd (by omega)]
  refine hR _ _ _ _ _ _ _ _ (by omega) ⟨i + 1, rfl, rfl, by omega, H4.cast ?_⟩
  rw [applyP_succ, hfd, hgd]
  simp [List.map_set, xOf]
 | false =>
  simp only [sCond_f]
  rw [sFx, H3.load (k := 1) (i := 0) rfl rfl, sIxL rfl (by omega), ldL (getI hgx), sIx (i := (g[i]).toNat) (by omega) (by omega)]
  refine H3.store (k := 0) rfl (by rw [List.length_map, applyP_length]; omega) rfl fun h4 H4 => ?_
  rw [sAdd (by omega)]
  refine hR _ _ _ _ _ _ _ _ (by omega) ⟨i + 1, rfl, rfl, by omega, H4.cast ?_⟩
  rw [applyP_succ, hfd, hgd]
  simp [List.map_set, xOf]
def AtL (l : List (List Int)) (f : List Int) (r : Int) : Prop := (∃ i : Nat, r = i ∧ l[i]? = some f) ∨ (r = -1 ∧ f ∉ l)
theorem find112 {l : List (List Int)} {f : List Int} (hl : l.length ≤ 1000000) (hw : ∀ q ∈ l, q.length ≤ 1000000) : Pure Tryz.prog B 112 [encT l, encI f] (fun v => ∃ r, v = I r ∧ AtL l f r) := by
 intro p h nx K hK
 refine by_body tbl_ok dreg 10000000 fun hf => ?_
 rw [F112.go]
 refine F112.L1 (fun m x3 h' nx' => ∃ i : Nat, x3 = I i ∧ l.length - i = m ∧ i ≤ l.length ∧ h' = h ∧ nx' = nx ∧ f ∉ l.take i) (m := l.length) (by omega) ⟨0, rfl, rfl, by omega, rfl, rfl, by simp⟩ ?_
 rintro m z2 z3 z4 z5 h nx R ⟨i, rfl, rfl, hi, rfl, rfl, hn⟩ hR
 simp only [sLen_lst, sLss]
 by_cases hlt : i < l.length
 case neg =>
  simp only [show ¬ (i : Int) < (l.length : Int) by omega, decide_false, sCond_f]
  rw [F112.k8]
  rw [List.take_of_length_le (by omega)] at hn
  exact hK _ ⟨-1, rfl, .inr ⟨rfl, hn⟩⟩ hf
 simp only [show (i : Int) < (l.length : Int) by omega, decide_true, sCond_t]
 have hx : l[i]? = some l[i] := List.getElem?_eq_getElem hlt
 rw [sIxL rfl hlt, ldL (getT hx)]
 refine sameInts35 (Nat.le_trans (hw _ (List.getElem_mem hlt)) (by omega)) _ _ _ _ ?_
 rintro _ rfl _
 by_cases c : l[i] = f
 ·rw [decide_eq_true c, sCond_t]
  exact hK _ ⟨i, rfl, .inl ⟨i, rfl, by rw [hx, c]⟩⟩ hf
 ·rw [decide_eq_false c, sCond_f, sAdd (by omega)]
  refine hR _ _ _ _ _ _ _ (by omega) ⟨i + 1, rfl, rfl, by omega, rfl, rfl, fun q => ?_⟩
  rw [List.take_add_one, hx] at q
  rcases List.mem_append.1 q with q | q
  ·exact hn q
  ·simp at q; exact c q.symm
theorem lex_irrefl (a : List Int) : lexLt a a = false := by rw [lexLt_ord, ordL_refl]; rfl
theorem cmp_neg (a b : List Int) : cmpL a b < 0 ↔ lexLt a b = true := by
 unfold cmpL
 cases h : lexLt a b with
 | true => simp
 | false =>
  rw [if_neg (by simp)]
  split <;> simp
theorem cmp_zero (a b : List Int) : cmpL a b = 0 ↔ a = b := by
 unfold cmpL
 cases h : lexLt a b with
 | true =>
  simp
  rintro rfl
  rw [lex_irrefl] at h; cases h
 | false =>
  rw [if_neg (by simp)]
  split
  ·simp [*]
  ·simp [*]
theorem half64 {n : Nat} {K : AV → OP} (h : n ≤ 1000000) : (sConv .u64 (I (n : Int)) fun v3 => sBin .shr .int v3 (.int .u64 1) fun v4 => sConv .i64 v4 K) = K (I ((n / 2 : Nat) : Int)) := by
 have e1 : ∀ K : AV → OP, sConv .u64 (I (n : Int)) K = K (Wd n) := fun K => by
  show intK (wrapF .u64 (n : Int)) (fun z => K (.int .u64 z)) = _
  rw [intK_eq, wrapF_eq, wrapU (by omega)]
 have e2 : ∀ K : AV → OP, sBin .shr .int (Wd n) (.int .u64 1) K = K (Wd (n / 2)) := fun K => by
  have e : sBin .shr .int (Wd n) (.int .u64 1) K = (bif ilt (1 : Int) 0 then Out.no 5 else intK ((n : Int).fdiv (2 ^ (min (1 : Int).toNat IntKind.u64.bits))) fun z => K (.int .u64 z)) := rfl
  rw [e, show ilt (1 : Int) 0 = false from rfl, cond_false, intK_eq, show IntKind.u64.bits = 64 from rfl, show min (1 : Int).toNat 64 = 1 from rfl, Int.fdiv_eq_ediv_of_nonneg _ (by omega)]
  congr 2
 rw [e1, e2]
 show intK (wrapF .i64 ((n / 2 : Nat) : Int)) (fun z => K (.int .i64 z)) = _
 rw [intK_eq, wrapF_eq, wrap64_in (by omega)]
def Ord (l : List (List Int)) : Prop := l.Pairwise fun a b => lexLt a b = true
theorem bsearch168 {l : List (List Int)} {t : List Int} (ho : Ord l) (hl : l.length ≤ 100000) (hw : ∀ q ∈ l, q.length ≤ 1000000) (ht : t.length ≤ 1000000) : Pure Tryz.prog B 168 [encT l, encI t, .fn 92 (.of 92) []] (fun v => ∃ r : Nat, v = .tup [I r, .bool (decide (t ∈ l))] ∧ (t ∈ l → l[r]? = some t)) := by
 intro p h nx K hK
 refine by_body tbl_ok dreg 10000000 fun hf => ?_
 rw [F168.go]
 simp only [sLen_lst]
 have hp := List.pairwise_iff_getElem.1 ho
 refine F168.L1 (fun m x6 x7 h' nx' => ∃ i j : Nat, x6 = I i ∧ x7 = I j ∧ j - i = m ∧ i ≤ j ∧ j ≤ l.length ∧ h' = h ∧ nx' = nx ∧ (∀ k q, k < i → l[k]? = some q → lexLt q t = true) ∧ (∀ k q, j ≤ k → l[k]? = some q → lexLt q t = false)) (m := l.length) (by omega) ⟨0, l.length, rfl, rfl, by omega, by omega, by omega, rfl, rfl, fun k q hk => by omega, fun k q hk hq => by have := (List.getElem?_eq_some_iff.1 hq).1; omega⟩ ?_
 rintro m z6 z7 z8 z9 z10 h nx R ⟨i, j, rfl, rfl, rfl, hij, hj, rfl, rfl, hlo, hhi⟩ hR
 simp only [sLss]
 by_cases hlt : i < j
 case neg =>
  simp only [show ¬ (i : Int) < (j : Int) by omega, decide_false, sCond_f]
  obtain rfl : i = j := by omega
  rw [F168.k6]
  simp only [sLss]
  have fin : t ∈ l → l[i]? = some t := fun hm => by
   obtain ⟨q, hq⟩ := List.mem_iff_getElem?.1 hm
   have h1 : i ≤ q := by
    by_cases c : i ≤ q
    ·exact c
    ·have := hlo q t (by omega) hq
     rw [lex_irrefl] at this; cases this
   by_cases c : i = q
   ·rw [c]; exact hq
   ·have hql := (List.getElem?_eq_some_iff.1 hq).1
    have hi' : l[i]? = some l[i] := List.getElem?_eq_getElem (by omega)
    have h2 := hhi i _ (Nat.le_refl _) hi'
    have h3 := hp i q (by omega) hql (by omega)
    rw [(List.getElem?_eq_some_iff.1 hq).2] at h3
    rw [h3] at h2; cases h2
  by_cases hil : i < l.length
  ·simp only [show (i : Int) < (l.length : Int) by omega, decide_true, sG_tt]
   have hx : l[i]? = some l[i] := List.getElem?_eq_getElem hil
   rw [sIxL rfl hil, ldL (getT hx), gW_tt, sCall_fn]
   refine compare92 (hw _ (List.getElem_mem hil)) ht _ _ _ _ ?_
   rintro _ rfl _
   simp only [sEql, sPick_t]
   refine hK _ ⟨i, ?_, fin⟩ hf
   congr 3
   rw [AV.bool.injEq]
   refine decide_eq_decide.2 ⟨fun q => ?_, fun q => ?_⟩
   ·rw [← (cmp_zero _ _).1 q]; exact List.getElem_mem hil
   ·rw [hx] at fin
    exact (cmp_zero _ _).2 (Option.some.inj (fin q))
  ·simp only [show ¬ (i : Int) < (l.length : Int) by omega, decide_false, sG_ft, gW_ft, sPick_f]
   refine hK _ ⟨i, ?_, fin⟩ hf
   have : t ∉ l := fun hm => by
    have := (List.getElem?_eq_some_iff.1 (fin hm)).1
    omega
   rw [decide_eq_false this]
 simp only [show (i : Int) < (j : Int) by omega, decide_true, sCond_t]
 rw [sAdd (by omega), show (i : Int) + (j : Int) = ((i + j : Nat) : Int) by omega, half64 (by omega)]
 generalize hmid : (i + j) / 2 = c
 have hc : c < l.length := by omega
 have hx : l[c]? = some l[c] := List.getElem?_eq_getElem hc
 rw [sIxL rfl hc, ldL (getT hx), sCall_fn]
 refine compare92 (hw _ (List.getElem_mem hc)) ht _ _ _ _ ?_
 rintro _ rfl _
 simp only [sLss]
 by_cases cn : cmpL l[c] t < 0
 ·simp only [cn, decide_true, sCond_t]
  have hlex := (cmp_neg _ _).1 cn
  rw [sAdd (by omega), show (c : Int) + 1 = ((c + 1 : Nat) : Int) by omega]
  refine hR _ _ _ _ _ _ _ _ (by omega) ⟨c + 1, j, rfl, rfl, rfl, by omega, hj, rfl, rfl, fun k q hk hq => ?_, hhi⟩
  by_cases e : k = c
  ·subst e
   rw [hx] at hq
   rw [← Option.some.inj hq]; exact hlex
  ·obtain ⟨hk', hq'⟩ := List.getElem?_eq_some_iff.1 hq
   have h3 := hp k c hk' hc (by omega)
   rw [hq'] at h3
   rw [lexLt_ord] at h3 hlex ⊢
   exact decide_eq_true (ordL_lt_trans (of_decide_eq_true h3) (of_decide_eq_true hlex))
 ·simp only [cn, decide_false, sCond_f]
  have hlex : lexLt l[c] t = false := by
   cases q : lexLt l[c] t with
   | false => rfl
   | true => exact absurd ((cmp_neg _ _).2 q) cn
  refine hR _ _ _ _ _ _ _ _ (by omega) ⟨i, c, rfl, rfl, rfl, by omega, by omega, rfl, rfl, hlo, fun k q hk hq => ?_⟩
  by_cases e : k = c
  ·subst e
   rw [hx] at hq
   rw [← Option.some.inj hq]; exact hlex
  ·obtain ⟨hk', hq'⟩ := List.getElem?_eq_some_iff.1 hq
   have h3 := hp c k hc hk' (by omega)
   rw [hq'] at h3
   cases q' : lexLt q t with
   | false => rfl
   | true =>
    rw [lexLt_ord] at h3 q' hlex
    have := ordL_lt_trans (of_decide_eq_true h3) (of_decide_eq_true q')
    exact absurd this (of_decide_eq_false hlex)
theorem find141 {l : List (List Int)} {t : List Int} (ho : Ord l) (hl : l.length ≤ 100000) (hw : ∀ q ∈ l, q.length ≤ 1000000) (ht : t.length ≤ 1000000) : Pure Tryz.prog B 141 [encT l, encI t, .fn 92 (.of 92) []] (fun v => ∃ r : Nat, v = .tup [I r, .bool (decide (t ∈ l))] ∧ (t ∈ l → l[r]? = some t)) := by
 intro p h nx K hK
 refine by_body tbl_ok dreg 100 fun hf => ?_
 rw [F141.go]
 refine bsearch168 ho hl hw ht _ _ _ _ ?_
 rintro _ ⟨r, rfl, hr⟩ _
 simp only [sExt0, sExt1]
 exact hK _ ⟨r, rfl, hr⟩ hf
end Go.Ev
namespace Go.Ev
open Go Go.Proofs
variable {B : Nat}
end Go.Ev
namespace Go.Ev
open Go Go.Proofs
variable {B : Nat}
end Go.Ev
namespace Go.Ev
open Go.Proofs
def shr (lines : List (List Int)) (f : List Nat) : List Int := lines.map fun l => ((con 0 f l : Nat) : Int)
end Go.Ev
namespace Go.Ev
open Go Go.Proofs
variable {B : Nat}
end Go.Ev
namespace Go.Ev
open Go.Proofs
end Go.Ev
namespace Go.Ev
open Go Go.Proofs
variable {B : Nat}
end Go.Ev
namespace Go.Ev
open Go Go.Proofs
variable {B : Nat}
end Go.Ev
namespace Go.Ev
open Go Go.Proofs
variable {B : Nat}
end Go.Ev
namespace Go.Ev
open Go.Proofs
end Go.Ev
namespace Go.Ev
open Go Go.Proofs
variable {B : Nat}
theorem frzGroC {h0 h : T Blk} {nx : Pa} {L : List Ob} {o : Option Pa} {n k : Nat} {l l' : List AV} (H : Hp h0 h nx L) (hk : L[k]? = some (.gro o 1 n l)) (hl : l'.length = l.length) (hs : l'.all scal = true) (hf : ∀ (i : Nat) (v v' : AV), l[i]? = some v → l'[i]? = some v' → FrzN h0 h v v') : FrzN h0 h (rowV o 1 n) (.lst 1 n l') := by
 have own := H.own _ (List.mem_of_getElem? hk)
 have hoff := H.off
 cases o with
 | none =>
  obtain ⟨rfl, rfl⟩ := own
  obtain rfl : l' = [] := by simpa using hl
  exact .lnils 1
 | some id =>
  obtain ⟨t, h1, h2, h3⟩ := own
  refine .sl _ _ _ _ _ true _ t _ (hoff id (List.mem_flatMap.2 ⟨_, List.mem_of_getElem? hk, by simp [Ob.names]⟩)) trivial h1 (by omega) (by rw [hl]; exact h2) hs fun i v hi => ?_
  have hil : i < l.length := by rw [← hl]; exact (List.getElem?_eq_some_iff.1 hi).1
  have := rdList_get t 0 (n * 1) i (by rw [← h2]; exact hil)
  rw [h3, List.getElem?_eq_getElem hil] at this
  rw [← Option.some.inj this]
  exact hf i _ _ (List.getElem?_eq_getElem hil) hi
end Go.Ev
namespace Go.Ev
structure PermN (n : Nat) (to : List Int) : Prop where
 len : to.length = n
 nd : to.Nodup
 rg : ∀ x ∈ to, 0 ≤ x ∧ x < (n : Int)
theorem subP {α : Type} [DecidableEq α] : ∀ (l r : List α), l.Nodup → (∀ x ∈ l, x ∈ r) → ∃ s, r.Perm (l ++ s)
 | [], r, _, _ => ⟨r, .refl _⟩
 | a :: l, r, hn, hs => by
  obtain ⟨h1, h2⟩ := List.nodup_cons.1 hn
  have ha := hs a (by simp)
  obtain ⟨s, hp⟩ := subP l (r.erase a) h2 fun x hx => (List.mem_erase_of_ne (by rintro rfl; exact h1 hx)).2 (hs x (by simp [hx]))
  exact ⟨s, (List.perm_cons_erase ha).trans (.cons a hp)⟩
theorem eqP {α : Type} [DecidableEq α] {l r : List α} (h1 : l.Nodup) (h2 : ∀ x ∈ l, x ∈ r) (h3 : r.length ≤ l.length) : r.Perm l := by
 obtain ⟨s, hs⟩ := subP l r h1 h2
 have hl := hs.length_eq
 obtain rfl : s = [] := List.eq_nil_of_length_eq_zero (by rw [List.length_append] at hl; omega)
 simpa using hs
theorem PermN.at {n : Nat} {to : List Int} (h : PermN n to) {i : Nat} (hi : i < n) : to[i]? = some (to.getD i 0) := by
 rw [List.getD_eq_getElem?_getD, List.getElem?_eq_getElem (by rw [h.len]; exact hi)]; rfl
theorem PermN.inj {n : Nat} {to : List Int} (h : PermN n to) {i j : Nat} (hi : i < n) (hj : j < n) (e : to.getD i 0 = to.getD j 0) : i = j := by
 obtain ⟨a1, a2⟩ := List.getElem?_eq_some_iff.1 (h.at hi)
 obtain ⟨b1, b2⟩ := List.getElem?_eq_some_iff.1 (h.at hj)
 have hp := List.pairwise_iff_getElem.1 h.nd
 rcases Nat.lt_trichotomy i j with c | c | c
 ·exact absurd (a2.trans (e.trans b2.symm)) (hp i j a1 b1 c)
 ·exact c
 ·exact absurd (b2.trans (e.symm.trans a2.symm)) (hp j i b1 a1 c)
theorem PermN.surj {n : Nat} {to : List Int} (h : PermN n to) {j : Nat} (hj : j < n) : ∃ i, i < n ∧ to.getD i 0 = (j : Int) := by
 have hp : ((List.range n).map fun (i : Nat) => (i : Int)).Perm to := eqP h.nd (fun x hx => by
  have := h.rg x hx
  exact List.mem_map.2 ⟨x.toNat, List.mem_range.2 (by omega), by omega⟩) (by simp [h.len])
 have hm : (j : Int) ∈ to := hp.mem_iff.1 (List.mem_map.2 ⟨j, List.mem_range.2 hj, rfl⟩)
 obtain ⟨i, hi⟩ := List.mem_iff_getElem?.1 hm
 have hil := (List.getElem?_eq_some_iff.1 hi).1
 refine ⟨i, by rw [← h.len]; exact hil, ?_⟩
 rw [List.getD_eq_getElem?_getD, hi]; rfl
end Go.Ev
namespace Go.Ev
end Go.Ev
namespace Go.Ev
open Go Go.Proofs
end Go.Ev
namespace Go.Ev
open Go Go.Proofs
variable {B : Nat}
def mkL (n : Nat) (to line : List Int) (k : Nat) : List Bool := (List.range n).map fun c : Nat => (line.take k).any fun x => decide (to.getD x.toNat 0 = (c : Int))
@[simp] theorem mkL_length (n : Nat) (to line : List Int) (k : Nat) : (mkL n to line k).length = n := by simp [mkL]
theorem rowV_scal (o : Option Pa) (e n : Nat) : scal (rowV o e n) = true := by cases o <;> rfl
end Go.Ev
namespace Go.Ev
open Go Go.Proofs
variable {B : Nat}
theorem Hp.base {h0 h : T Blk} {nx : Pa} {L : List Ob} (H : Hp h0 h nx L) : Hp .e h nx L :=
 ⟨fun j hj => absurd (T.get_e _ j) hj, H.own, fun n _ => T.get_e _ n, H.nd, H.fr⟩
abbrev TRow := AV × Ob × List Int
def RowOk (t : TRow) : Prop := (∃ p cap, capLe t.2.2.length cap ∧ t.2.1 = .arr p (t.2.2.map I) ∧ t.1 = .sl p 0 t.2.2.length cap 1) ∨ ∃ o, t.2.1 = .gro o 1 t.2.2.length (t.2.2.map I) ∧ t.1 = rowV o 1 t.2.2.length
theorem RowOk.scal {t : TRow} (h : RowOk t) : scal t.1 = true := by
 rcases h with ⟨p, cap, _, _, e⟩ | ⟨o, _, e⟩
 ·rw [e]; rfl
 ·rw [e]; exact rowV_scal _ _ _
theorem RowOk.cells {t : TRow} (h : RowOk t) : t.1.cells = some [t.1] := by
 rcases h with ⟨p, cap, _, _, e⟩ | ⟨o, _, e⟩
 ·rw [e]; rfl
 ·rw [e]; exact rowV_cells _ _ _
theorem fixd_Is (l : List Int) : ∀ v ∈ l.map I, fixd v = true := fun v hv => by obtain ⟨x, _, rfl⟩ := List.mem_map.1 hv; rfl
theorem RowOk.frz {h0 h : T Blk} {nx : Pa} {L : List Ob} {t : TRow} (hr : RowOk t) (H : Hp h0 h nx L) (hm : t.2.1 ∈ L) : FrzN h0 h t.1 (encI t.2.2) := by
 obtain ⟨k, hk⟩ := List.mem_iff_getElem?.1 hm
 rcases hr with ⟨p, cap, hc, e1, e2⟩ | ⟨o, e1, e2⟩
 ·rw [e1] at hk; rw [e2]
  exact H.frzArr hk hc (by simp) (fixd_Is _)
 ·rw [e1] at hk; rw [e2]
  exact H.frzGro hk (fixd_Is _)
theorem RowOk.len {h0 h : T Blk} {nx : Pa} {L : List Ob} {t : TRow} (hr : RowOk t) (H : Hp h0 h nx L) (hm : t.2.1 ∈ L) (op : AV → OP) : sLen t.1 op = op (I t.2.2.length) := by
 obtain ⟨k, hk⟩ := List.mem_iff_getElem?.1 hm
 rcases hr with ⟨p, cap, hc, e1, e2⟩ | ⟨o, e1, e2⟩
 ·rw [e2]; rfl
 ·rw [e1] at hk; rw [e2]; exact H.groLen hk
theorem RowOk.rd {h0 h : T Blk} {nx : Pa} {L : List Ob} {t : TRow} (hr : RowOk t) (H : Hp h0 h nx L) (hm : t.2.1 ∈ L) (no : OP) (K' : List AV → Nat → OP) : readSl t.1 h no K' = K' (t.2.2.map I) t.2.2.length := by
 obtain ⟨k, hk⟩ := List.mem_iff_getElem?.1 hm
 rcases hr with ⟨p, cap, hc, e1, e2⟩ | ⟨o, e1, e2⟩
 ·rw [e1] at hk hm; rw [e2]
  exact HasArr.rd (H.own _ hm) (by simp) no K'
 ·rw [e1] at hk; rw [e2]
  rw [H.groRdHi hk (Nat.le_refl _), List.take_of_length_le (by simp)]
theorem tabFrz {h0 h : T Blk} {nx : Pa} {L : List Ob} {k : Nat} {o : Option Pa} {T : List TRow} (H : Hp h0 h nx L) (hk : L[k]? = some (.gro o 1 T.length (T.map (·.1)))) (hT : ∀ t ∈ T, RowOk t ∧ t.2.1 ∈ L) : FrzN h0 h (rowV o 1 T.length) (encT (T.map (·.2.2))) := by
 have e : encT (T.map (·.2.2)) = .lst 1 T.length (T.map fun t => encI t.2.2) := by simp [encT, List.map_map, Function.comp_def]
 rw [e]
 refine frzGroC H hk (by simp) (List.all_eq_true.2 fun v hv => ?_) fun i v v' h1 h2 => ?_
 ·obtain ⟨t, _, rfl⟩ := List.mem_map.1 hv; rfl
 ·rw [List.getElem?_map] at h1 h2
  cases ht : T[i]? with
  | none => rw [ht] at h1; cases h1
  | some t =>
   rw [ht] at h1 h2
   cases h1; cases h2
   obtain ⟨r1, r2⟩ := hT t (List.mem_of_getElem? ht)
   exact r1.frz H r2
end Go.Ev
namespace Go.Ev
open Go Go.Proofs
variable {B : Nat}
def lsE (n : Int) : Option (List Int) → List (List Int) → Int
 | _, [] => 0
 | p, f :: l => if fillErr n f ≠ 0 then fillErr n f else if (p.any fun q => !lexLt q f) = true then 11 else lsE n (some f) l
def pvL (l : List (List Int)) (i : Nat) : Option (List Int) := if i = 0 then none else l[i - 1]?
theorem pvL_succ {l : List (List Int)} {i : Nat} (h : i < l.length) : pvL l (i + 1) = some l[i] := by simp [pvL, h]
theorem lsE_drop {n : Int} {l : List (List Int)} {i : Nat} (h : i < l.length) : lsE n (pvL l i) (l.drop i) = if fillErr n l[i] ≠ 0 then fillErr n l[i] else if ((pvL l i).any fun q => !lexLt q l[i]) = true then 11 else lsE n (pvL l (i + 1)) (l.drop (i + 1)) := by
 rw [List.drop_eq_getElem_cons h, lsE, pvL_succ h]
theorem lsE_ok {n : Int} : ∀ {l : List (List Int)} {p : Option (List Int)}, lsE n p l = 0 → (∀ f ∈ l, fillErr n f = 0) ∧ Ord l ∧ ∀ q, p = some q → ∀ f ∈ l, lexLt q f = true
 | [], _, _ => ⟨by simp, .nil, by simp⟩
 | f :: l, p, h => by
  rw [lsE] at h
  by_cases c1 : fillErr n f = 0
  case neg => rw [if_pos c1] at h; exact absurd h c1
  rw [if_neg (by simp [c1])] at h
  cases c2 : p.any fun q => !lexLt q f with
  | true => rw [c2, if_pos rfl] at h; cases h
  | false =>
   rw [c2, if_neg (by simp)] at h
   obtain ⟨h1, h2, h3⟩ := lsE_ok h
   have h4 := h3 f rfl
   refine ⟨fun x hx => ?_, List.pairwise_cons.2 ⟨h4, h2⟩, fun q hq x hx => ?_⟩
   ·rcases List.mem_cons.1 hx with rfl | hx
    ·exact c1
    ·exact h1 x hx
   ·subst hq
    have hqf : lexLt q f = true := by simpa using c2
    rcases List.mem_cons.1 hx with rfl | hx
    ·exact hqf
    ·have := h4 x hx
     rw [lexLt_ord] at hqf this ⊢
     exact decide_eq_true (ordL_lt_trans (of_decide_eq_true hqf) (of_decide_eq_true this))
theorem fillErr_ok {n : Int} {f : List Int} (h : fillErr n f = 0) : (f.length : Int) = n ∧ ∀ x ∈ f, -999999999 ≤ x ∧ x ≤ 999999999 := by
 rw [fillErr] at h
 by_cases c : (f.length : Int) = n
 ·rw [if_neg (by simp [c])] at h
  refine ⟨c, fun x hx => ?_⟩
  have hn : f.any outR = false := by
   cases q : f.any outR with
   | false => rfl
   | true => rw [q, if_pos rfl] at h; cases h
  have := List.any_eq_false.1 hn x hx
  simp only [outR, Bool.or_eq_true, decide_eq_true_eq] at this
  omega
 ·rw [if_pos c] at h; cases h
def imgB (G : List Sym) (l : List (List Int)) : Bool := l.all fun f => G.all fun g => decide (applyS g.2 g.1 f ∈ l)
def listErr (G : List Sym) (n : Int) (l : List (List Int)) : Int := if 1024 < l.length then 5 else if lsE n none l ≠ 0 then lsE n none l else if imgB G l = false then 7 else 0
theorem sFaF0 {a : AV} {l : List AV} {K : AV → OP} : sFaddr 0 (.fp (a :: l)) K = K (.fp (a :: l)) := nr rfl
theorem refList111 {G : List Sym} {n : Int} {l : List (List Int)} (h0 : 0 < G.length) (hG : G.length ≤ 100000) (hn : ∀ g ∈ G, symErr g.1 n = 0) (hl : l.length ≤ 1000000) (hw : ∀ q ∈ l, q.length ≤ 1000000) : Pure Tryz.prog B 111 [encG G, encT l] (· = I (listErr G n l)) := by
 refine pure_hp fun h nx K H0 hK => by_body tbl_ok dreg 10000000 fun hf => ?_
 have ret : ∀ v : Int, v = listErr G n l → K (I v) h nx = .ok True := fun v hv => by rw [hv]; exact hK _ _ _ _ _ H0 (frz_fixd rfl) rfl
 rw [F111.go]
 simp only [sLen_lst, sGtr]
 by_cases c1 : 1024 < l.length
 ·simp only [show (1024 : Int) < (l.length : Int) by omega, decide_true, sCond_t]
  exact ret 5 (by rw [listErr, if_pos c1])
 simp only [show ¬ (1024 : Int) < (l.length : Int) by omega, decide_false, sCond_f]
 have hg0 := (symErr_ok (hn _ (List.getElem_mem h0))).2.1
 rw [sIxL (i := 0) (show (0 : Int) = ((0 : Nat) : Int) from rfl) h0, flatG_cons h0, sFaF0, sLoad_fp1]
 simp only [sLen_lst]
 rw [hg0]
 have e0 : listErr G n l = if lsE n none l ≠ 0 then lsE n none l else if imgB G l = false then 7 else 0 := by rw [listErr, if_neg c1]
 refine F111.L2 (fun m x4 h' nx' => ∃ i : Nat, x4 = I i ∧ l.length - i = m ∧ i ≤ l.length ∧ h' = h ∧ nx' = nx ∧ lsE n none l = lsE n (pvL l i) (l.drop i)) (m := l.length) (by omega) ⟨0, rfl, rfl, by omega, rfl, rfl, rfl⟩ ?_
 rintro m z2 z4 z5 z9 z10 z11 h nx R ⟨i, rfl, rfl, hi, rfl, rfl, hs⟩ hR
 simp only [sLen_lst, sLss]
 by_cases hlt : i < l.length
 ·simp only [show (i : Int) < (l.length : Int) by omega, decide_true, sCond_t]
  have hx : l[i]? = some l[i] := List.getElem?_eq_getElem hlt
  have hwx := hw _ (List.getElem_mem hlt)
  rw [lsE_drop hlt] at hs
  rw [sIxL rfl hlt, ldL (getT hx)]
  refine checkFill37 hwx _ _ _ _ ?_
  rintro _ rfl _
  simp only [sNeq]
  by_cases c2 : fillErr n l[i] = 0
  case neg =>
   simp only [c2, decide_false, Bool.not_false, sCond_t]
   rw [if_pos c2] at hs
   exact ret _ (by rw [e0, hs, if_pos c2])
  simp only [c2, decide_true, Bool.not_true, sCond_f, sGtr]
  rw [if_neg (by simp [c2])] at hs
  by_cases ci : 0 < i
  ·simp only [show (0 : Int) < (i : Int) by omega, decide_true, sG_tt]
   have hy : l[i - 1]? = some l[i - 1] := List.getElem?_eq_getElem (by omega)
   have hpv : pvL l i = some l[i - 1] := by rw [pvL, if_neg (by omega), hy]
   rw [sSub (by omega), sIxL (i := i - 1) (by omega) (by omega), ldL (getT hy), sIxL rfl hlt, ldL (getT hx), gW_tt]
   refine before74 (hw _ (List.getElem_mem (show i - 1 < l.length by omega))) hwx _ _ _ _ ?_
   rintro _ rfl _
   simp only [sNot_b, sPick_t]
   rw [hpv] at hs
   cases c3 : lexLt l[i - 1] l[i] with
   | true =>
    simp only [c3, Option.any_some, Bool.not_true, Bool.false_eq_true, if_false] at hs
    simp only [Bool.not_true, sCond_f]
    rw [sAdd (by omega)]
    exact hR _ _ _ _ _ _ _ _ _ (by omega) ⟨i + 1, rfl, rfl, by omega, rfl, rfl, hs⟩
   | false =>
    simp only [c3, Option.any_some, Bool.not_false, if_true] at hs
    simp only [Bool.not_false, sCond_t]
    exact ret 11 (by rw [e0, hs, if_pos (by decide)])
  ·obtain rfl : i = 0 := by omega
   simp only [show ¬ (0 : Int) < ((0 : Nat) : Int) by omega, decide_false, sG_ft, gW_ft, sPick_f, sCond_f]
   have hs' : lsE n none l = lsE n (pvL l (0 + 1)) (l.drop (0 + 1)) := hs
   rw [sAdd (by omega)]
   exact hR _ _ _ _ _ _ _ _ _ (by omega) ⟨0 + 1, rfl, rfl, by omega, rfl, rfl, hs'⟩
 simp only [show ¬ (i : Int) < (l.length : Int) by omega, decide_false, sCond_f]
 rw [List.drop_of_length_le (by omega)] at hs
 have hs : lsE n none l = 0 := by rw [hs]; cases pvL l i <;> rfl
 rw [if_neg (by simp [hs])] at e0
 obtain ⟨ho1, ho2, _⟩ := lsE_ok hs
 clear hR
 rw [F111.k10]
 refine F111.L11 (fun m x6 h' nx' => ∃ i : Nat, x6 = I i ∧ l.length - i = m ∧ i ≤ l.length ∧ h' = h ∧ nx' = nx ∧ ∀ f ∈ l.take i, ∀ g ∈ G, applyS g.2 g.1 f ∈ l) (m := l.length) (by omega) ⟨0, rfl, rfl, by omega, rfl, rfl, by simp⟩ ?_
 rintro m z2 z6 z7 z12 z13 z14 h nx R ⟨i, rfl, rfl, hi, rfl, rfl, hcl⟩ hR
 simp only [sLen_lst, sLss]
 by_cases hlt : i < l.length
 case neg =>
  simp only [show ¬ (i : Int) < (l.length : Int) by omega, decide_false, sCond_f]
  rw [List.take_of_length_le (by omega)] at hcl
  rw [F111.k25]
  have : imgB G l = true := by
   rw [imgB, List.all_eq_true]
   intro a ha
   rw [List.all_eq_true]
   exact fun b hb => decide_eq_true (hcl a ha b hb)
  exact ret 0 (by rw [e0, if_neg (by simp [this])])
 simp only [show (i : Int) < (l.length : Int) by omega, decide_true, sCond_t]
 have hx : l[i]? = some l[i] := List.getElem?_eq_getElem hlt
 obtain ⟨f1, f2⟩ := fillErr_ok (ho1 _ (List.getElem_mem hlt))
 refine F111.L17 (fun m x7 h' nx' => ∃ k : Nat, x7 = I k ∧ G.length - k = m ∧ k ≤ G.length ∧ h' = h ∧ nx' = nx ∧ ∀ g ∈ G.take k, applyS g.2 g.1 l[i] ∈ l) (m := G.length) (by omega) ⟨0, rfl, rfl, by omega, rfl, rfl, by simp⟩ ?_
 rintro m y2 y7 y13 y14 h nx R2 ⟨k, rfl, rfl, hk, rfl, rfl, hck⟩ hR2
 simp only [sLen_lst, sLss]
 by_cases hkt : k < G.length
 case neg =>
  simp only [show ¬ (k : Int) < (G.length : Int) by omega, decide_false, sCond_f]
  rw [List.take_of_length_le (by omega)] at hck
  rw [F111.k24, sAdd (by omega)]
  refine hR _ _ _ _ _ _ _ _ _ (by omega) ⟨i + 1, rfl, rfl, by omega, rfl, rfl, fun a ha b hb => ?_⟩
  rw [List.take_add_one, hx] at ha
  rcases List.mem_append.1 ha with q | q
  ·exact hcl a q b hb
  ·simp at q; rw [q]; exact hck b hb
 simp only [show (k : Int) < (G.length : Int) by omega, decide_true, sCond_t]
 have hy : G[k]? = some G[k] := List.getElem?_eq_getElem hkt
 obtain ⟨k1, k2, k3⟩ := symErr_ok (hn _ (List.getElem_mem hkt))
 rw [sIxL rfl hkt, flatG_cons hkt, sLoadNP, sIxL rfl hlt, ldL (getT hx)]
 refine apply49 (g := G[k].1) (c := G[k].2) (f := l[i]) (by omega) (by omega) k3 (fun x hx => by have := f2 x hx; omega) _ _ _ _ ?_
 rintro _ rfl _
 simp only [sSame_refl]
 refine find112 hl hw _ _ _ _ ?_
 rintro _ ⟨r, rfl, hr⟩ _
 simp only [sLss]
 rcases hr with ⟨j, rfl, hj⟩ | ⟨rfl, hnot⟩
 ·simp only [show ¬ (j : Int) < 0 by omega, decide_false, sCond_f]
  rw [sAdd (by omega)]
  refine hR2 _ _ _ _ _ _ _ (by omega) ⟨k + 1, rfl, rfl, by omega, rfl, rfl, fun b hb => ?_⟩
  rw [List.take_add_one, hy] at hb
  rcases List.mem_append.1 hb with q | q
  ·exact hck b q
  ·simp at q; rw [q]; exact List.mem_of_getElem? hj
 ·simp only [show (-1 : Int) < 0 by decide, decide_true, sCond_t]
  refine ret 7 ?_
  have : imgB G l = false := by
   cases q : imgB G l with
   | false => rfl
   | true =>
    rw [imgB, List.all_eq_true] at q
    have q1 := q _ (List.getElem_mem hlt)
    rw [List.all_eq_true] at q1
    exact absurd (of_decide_eq_true (q1 _ (List.getElem_mem hkt))) hnot
  rw [e0, if_pos this]
end Go.Ev
namespace Go.Ev
open Go Go.Proofs
variable {B : Nat}
def cellsN (G : List Sym) : Int := if h : 0 < G.length then ((G[0].1.length : Nat) : Int) else 0
def plErr (G : List Sym) (l : List (List Int)) : Int := if grpErr G (cellsN G) ≠ 0 then grpErr G (cellsN G) else listErr G (cellsN G) l
def plRow (l : List (List Int)) (g : Sym) (j : Nat) : List Int := (l.take j).map fun f => ((l.idxOf (applyS g.2 g.1 f) : Nat) : Int)
def plT (G : List Sym) (l : List (List Int)) : List (List Int) := G.map fun g => plRow l g l.length
theorem plRow_succ {l : List (List Int)} {g : Sym} {j : Nat} {f : List Int} (h : l[j]? = some f) : plRow l g (j + 1) = plRow l g j ++ [((l.idxOf (applyS g.2 g.1 f) : Nat) : Int)] := by
 rw [plRow, List.take_add_one, h, List.map_append]; rfl
theorem plRow_len {l : List (List Int)} {g : Sym} {j : Nat} (h : j ≤ l.length) : (plRow l g j).length = j := by simp [plRow]; omega
theorem Ord.nodup {l : List (List Int)} (h : Ord l) : l.Nodup := h.imp fun hab e => by rw [e, lex_irrefl] at hab; cases hab
theorem idx_get {l : List (List Int)} {t : List Int} {r : Nat} (ho : Ord l) (h : l[r]? = some t) : l.idxOf t = r := by
 have hm := List.mem_of_getElem? h
 have hl := List.idxOf_lt_length_iff.2 hm
 have hg : l[l.idxOf t]? = some t := by rw [List.getElem?_eq_getElem hl, List.getElem_idxOf]
 obtain ⟨a1, a2⟩ := List.getElem?_eq_some_iff.1 hg
 obtain ⟨b1, b2⟩ := List.getElem?_eq_some_iff.1 h
 have hp := List.pairwise_iff_getElem.1 ho.nodup
 rcases Nat.lt_trichotomy (l.idxOf t) r with c | c | c
 ·exact absurd (a2.trans b2.symm) (hp _ _ a1 b1 c)
 ·exact c
 ·exact absurd (b2.trans a2.symm) (hp _ _ b1 a1 c)
theorem gW_tt' (op : KW3 → OP) (h : T Blk) (nx : Pa) (k : KW3) : sGW (.bool true) true op h nx k = op k := nr rfl
theorem F109.row {N : Nat} {K0 : Kw Prop} {E2 E3 K : Ks Prop} {h0 h : T Blk} {nx : Pa} {L : List Ob} {x0 x2 x3 x4 x5 x6 x7 x8 x9 x12 x13 x14 x15 x16 x17 x18 x19 x20 x21 x22 x23 x24 x25 x29 x30 : AV} {ab : Pa} {g : Sym} {l : List (List Int)} {n : Int} (hN : 100000 < N) (hg : symErr g.1 n = 0) (ho : Ord l) (hf : ∀ f ∈ l, fillErr n f = 0) (hl : l.length ≤ 100000)
  (H : Hp h0 h nx (.arr ab [encI g.1, .bool g.2] :: L))
  (hbad : ∀ f ∈ l, applyS g.2 g.1 f ∉ l → ∀ h' nx' L', Hp h0 h' nx' L' → K0 (.tup [.nils, I 7]) h' nx' = .ok True)
  (hK : ∀ w2 w3 w12 w13 w14 w29 w30 h' nx' o, (∀ f ∈ l, applyS g.2 g.1 f ∈ l) → Hp h0 h' nx' (.gro o 1 l.length ((plRow l g l.length).map I) :: .arr ab [encI g.1, .bool g.2] :: L) →
   K (F109.fr x0 (encT l) w2 w3 x4 x5 x6 x7 x8 x9 (.ptr ab 0) (rowV o 1 l.length) w12 w13 w14 x15 x16 x17 x18 x19 x20 x21 x22 x23 x24 x25 (encT l) (I l.length) (I l.length) w29 w30) h' nx' = .ok True) :
  IR.run F109.b17 (CS Tryz.prog B) N (((fnO F109.res K0).blk 2 E2).blk 3 E3) K (F109.fr x0 (encT l) x2 x3 x4 x5 x6 x7 x8 x9 (.ptr ab 0) .nils x12 x13 x14 x15 x16 x17 x18 x19 x20 x21 x22 x23 x24 x25 (encT l) (I l.length) (I 0) x29 x30) h nx = .ok True := by
 obtain ⟨g1, g2, g3⟩ := symErr_ok hg
 refine F109.L17 (fun m x11 x28 h' nx' => ∃ (j : Nat) (o : Option Pa), x28 = I j ∧ x11 = rowV o 1 j ∧ l.length - j = m ∧ j ≤ l.length ∧ (∀ f ∈ l.take j, applyS g.2 g.1 f ∈ l) ∧ Hp h0 h' nx' (.gro o 1 j ((plRow l g j).map I) :: .arr ab [encI g.1, .bool g.2] :: L)) (m := l.length) (by omega) ⟨0, none, rfl, rfl, rfl, by omega, by simp, H.addGro 1⟩ ?_
 rintro m z2 z3 z11 z12 z13 z14 z28 z29 z30 h1 nx1 R ⟨j, o, rfl, rfl, rfl, hj, hin, H1⟩ hR
 simp only [sLss]
 by_cases hlt : j < l.length
 case neg =>
  simp only [show ¬ (j : Int) < (l.length : Int) by omega, decide_false, sCond_f]
  obtain rfl : j = l.length := by omega
  rw [List.take_length] at hin
  exact hK _ _ _ _ _ _ _ _ _ o hin H1
 simp only [show (j : Int) < (l.length : Int) by omega, decide_true, sCond_t]
 have hx : l[j]? = some l[j] := List.getElem?_eq_getElem hlt
 have hm := List.getElem_mem hlt
 obtain ⟨f1, f2⟩ := fillErr_ok (hf _ hm)
 have hwl : ∀ q ∈ l, q.length ≤ 1000000 := fun q hq => by have := (fillErr_ok (hf q hq)).1; omega
 rw [sIxL rfl hlt, ldL (getT hx), H1.loadN (k := 1) (n := 2) rfl rfl]
 refine image142 (g := g.1) (c := g.2) (f := l[j]) (by omega) (by omega) g3 (fun x hx => by have := f2 x hx; omega) _ _ _ _ ?_
 rintro _ rfl _
 have hal : (applyS g.2 g.1 l[j]).length = l[j].length := applyP_length _ _ _ _ _
 refine find141 ho hl hwl (by rw [hal]; omega) _ _ _ _ ?_
 rintro _ ⟨r, rfl, hr⟩ _
 simp only [sExt0, sExt1, sNot_b]
 by_cases c : applyS g.2 g.1 l[j] ∈ l
 case neg =>
  rw [decide_eq_false c]
  simp only [Bool.not_false, sCond_t]
  exact hbad _ hm c _ _ _ H1
 rw [decide_eq_true c]
 simp only [Bool.not_true, sCond_f]
 have hidx := idx_get ho (hr c)
 refine H1.bslice (l := [I (r : Int)]) rfl fun tb h2 nx2 H2 => ?_
 refine H2.appN (k := 1) (o := o) (c := 1) (new := [I (r : Int)]) rfl (HasArr.rd (l := [I (r : Int)]) (n := 1) (H2.own _ (List.mem_cons_self ..)) rfl) rfl rfl (by decide) (by decide) (by omega) fun o' h3 nx3 _ H3 => ?_
 rw [sAdd (by omega)]
 refine hR _ _ _ _ _ _ _ _ _ _ _ _ (by omega) ⟨j + 1, o', rfl, rfl, rfl, by omega, fun f hf' => ?_, ?_⟩
 ·rw [List.take_add_one, hx] at hf'
  rcases List.mem_append.1 hf' with q | q
  ·exact hin f q
  ·simp at q; rw [q]; exact c
 ·rw [plRow_succ hx, hidx, List.map_append]
  exact H3.drop
theorem places109 {G : List Sym} {l : List (List Int)} (h140 : ∀ B n, Pure Tryz.prog B 140 [encG G, I n] (· = I (grpErr G n))) (hG : G.length ≤ 100000) (hl : l.length ≤ 100000) (hw : ∀ q ∈ l, q.length ≤ 1000000) : Pure Tryz.prog B 109 [encG G, encT l] (· = if plErr G l ≠ 0 then .tup [.nils, I (plErr G l)] else .tup [encT (plT G l), I 0]) := by
  refine pure_hp fun h nx K H0 hK => by_body tbl_ok dreg 10000000 fun hf => ?_
  have bad : ∀ (v : Int), v ≠ 0 → v = plErr G l → ∀ h' nx' L', Hp h h' nx' L' → K (.tup [.nils, I v]) h' nx' = .ok True := fun v h0 hv h' nx' L' H => by
    subst hv
    rw [if_pos h0] at hK
    exact hK _ _ _ _ _ H (frz_tup2 (frz_fixd rfl) (frz_fixd rfl)) rfl
  rw [F109.go]
  simp only [sLen_lst, sGtr]
  have k1 : ∀ x15, IR.run F109.b1 (CS Tryz.prog B) 10000000 (fnO F109.res K) (retK F109.res K) (F109.fr (encG G) (encT l) .nils (I 0) (I (cellsN G)) .undef .undef .undef .undef .undef .undef .undef .undef .undef .undef x15 .undef .undef .undef .undef .undef .undef .undef .undef .undef .undef .undef .undef .undef .undef .undef) h nx = .ok True := by
    intro x15
    rw [F109.k1]
    refine h140 _ _ _ _ _ _ ?_
    rintro _ rfl _
    simp only [sLen_lst, sGtr]
    refine whenB82 _ _ _ _ _ _ ?_
    rintro _ rfl _
    refine H0.bslice (l := [I (grpErr G (cellsN G)), I (if decide ((1024 : Int) < (l.length : Int)) = true then 5 else 0)]) rfl fun tb h1 nx1 H1 => ?_
    refine own_plain (l := [grpErr G (cellsN G), if decide ((1024 : Int) < (l.length : Int)) = true then 5 else 0]) H1 (k := 0) rfl (fun B => first80 (by simp)) (fun v hv => by rw [hv]; exact .int _ _) ?_
    rintro _ rfl
    by_cases cg : grpErr G (cellsN G) = 0
    case neg =>
      rw [firstE, if_pos cg]
      simp only [sNeq, cg, decide_false, Bool.not_false, sCond_t]
      exact bad _ cg (by rw [plErr, if_pos cg]) _ _ _ H1
    have e1 : plErr G l = listErr G (cellsN G) l := by rw [plErr, if_neg (by simp [cg])]
    rw [firstE, if_neg (by simp [cg])]
    by_cases c1 : 1024 < l.length
    · have e2 : firstE [if decide ((1024 : Int) < (l.length : Int)) = true then (5 : Int) else 0] = 5 := by
        rw [if_pos (decide_eq_true (by omega))]; rfl
      rw [e2]
      simp only [sNeq, show ¬ (5 : Int) = 0 by decide, decide_false, Bool.not_false, sCond_t]
      exact bad 5 (by decide) (by rw [e1, listErr, if_pos c1]) _ _ _ H1
    have e2 : firstE [if decide ((1024 : Int) < (l.length : Int)) = true then (5 : Int) else 0] = 0 := by
      rw [decide_eq_false (show ¬ (1024 : Int) < (l.length : Int) by omega)]; rfl
    rw [e2]
    simp only [sNeq, decide_true, Bool.not_true, sCond_f, sLen_lst]
    have e3 : plErr G l = if lsE (cellsN G) none l ≠ 0 then lsE (cellsN G) none l else if imgB G l = false then 7 else 0 := by rw [e1, listErr, if_neg c1]
    have hgs : ∀ g ∈ G, symErr g.1 (cellsN G) = 0 := by
      have := cg
      rw [grpErr] at this
      split at this
      · cases this
      split at this
      · cases this
      split at this
      · cases this
      by_cases q : symsErr (cellsN G) G = 0
      · exact symsErr_ok q
      · rw [if_pos q] at this; exact absurd this q
    refine F109.L3 (fun m x19 h' nx' => ∃ (i : Nat) (L : List Ob), x19 = I i ∧ l.length - i = m ∧ i ≤ l.length ∧ Hp h h' nx' L ∧ lsE (cellsN G) none l = lsE (cellsN G) (pvL l i) (l.drop i)) (m := l.length) (by omega) ⟨0, _, rfl, rfl, by omega, H1, rfl⟩ ?_
    rintro m z2 z3 z6 z7 z8 z19 z20 z21 h2 nx2 R ⟨i, L, rfl, rfl, hi, H2, hs⟩ hR
    simp only [sLss]
    by_cases hlt : i < l.length
    · simp only [show (i : Int) < (l.length : Int) by omega, decide_true, sCond_t]
      have hx : l[i]? = some l[i] := List.getElem?_eq_getElem hlt
      have hwx := hw _ (List.getElem_mem hlt)
      rw [lsE_drop hlt] at hs
      rw [sIxL rfl hlt, ldL (getT hx)]
      simp only [sLen_lst, sNeq]
      refine whenB82 _ _ _ _ _ _ ?_
      rintro _ rfl _
      refine outside94 hwx _ _ _ _ ?_
      rintro _ rfl _
      refine whenB82 _ _ _ _ _ _ ?_
      rintro _ rfl _
      simp only [sGtr]
      have tail : ∀ b : Bool, b = ((pvL l i).any fun q => !lexLt q l[i]) → ∀ (Z : Kw Prop), (∀ v h' nx' L', v = (if fillErr (cellsN G) l[i] ≠ 0 then fillErr (cellsN G) l[i] else if b = true then 11 else 0) → Hp h h' nx' L' → Z (I v) h' nx' = .ok True) →
          (CS Tryz.prog B).fn 82 (.of 82) [.bool b, I 11] h2 nx2 (fun v27 h28 n29 =>
            sBslice 1 3 [(I 0)] [(0, 1, I (if (!decide ((l[i].length : Int) = cellsN G)) = true then 2 else 0)), (1, 1, I (if l[i].any outR = true then 3 else 0)), (2, 1, v27)] h28 n29 fun v30 h31 n32 =>
            (CS Tryz.prog B).fn 80 (.of 80) [v30] h31 n32 Z) = .ok True := by
        intro b hb Z hZ
        refine whenB82 _ _ _ _ _ _ ?_
        rintro _ rfl _
        refine H2.bslice (l := [I (if (!decide ((l[i].length : Int) = cellsN G)) = true then 2 else 0), I (if l[i].any outR = true then 3 else 0), I (if b = true then 11 else 0)]) rfl fun tb h3 nx3 H3 => ?_
        refine own_plain (l := [if (!decide ((l[i].length : Int) = cellsN G)) = true then 2 else 0, if l[i].any outR = true then 3 else 0, if b = true then 11 else 0]) H3 (k := 0) rfl (fun B => first80 (by simp)) (fun v hv => by rw [hv]; exact .int _ _) ?_
        rintro _ rfl
        refine hZ _ _ _ _ ?_ H3
        by_cases d1 : (l[i].length : Int) = cellsN G
        · cases d2 : l[i].any outR <;> cases b <;> simp [firstE, fillErr, d1, d2]
        · simp [firstE, fillErr, d1]
      have after : ∀ b : Bool, b = ((pvL l i).any fun q => !lexLt q l[i]) → ∀ v h' nx' L' w2 w3, v = (if fillErr (cellsN G) l[i] ≠ 0 then fillErr (cellsN G) l[i] else if b = true then 11 else 0) → Hp h h' nx' L' →
          (sBin .neq .int (I v) (I 0) fun v36 => sCond v36 (K (.tup [.nils, I v]) h' nx') (sBin .add .int (I (i : Int)) (I 1) fun v37 => R (F109.fr (encG G) (encT l) w2 w3 (I (cellsN G)) (I 0) (I (i : Int)) (encI l[i]) (I v) .undef .undef .undef .undef .undef .undef x15 (.bool false) (encT l) (I (l.length : Int)) v37 (.bool true) v36 .undef .undef .undef .undef .undef .undef .undef .undef .undef) h' nx')) = .ok True := by
        intro b hb v h' nx' L' w2 w3 hv H
        rw [← hb] at hs
        simp only [sNeq]
        by_cases d : v = 0
        · simp only [d, decide_true, Bool.not_true, sCond_f]
          rw [d] at hv
          by_cases d1 : fillErr (cellsN G) l[i] = 0
          case neg => rw [if_pos d1] at hv; exact absurd hv.symm d1
          rw [if_neg (by simp [d1])] at hv hs
          cases b with
          | true => rw [if_pos rfl] at hv; cases hv
          | false =>
            rw [if_neg (by simp)] at hs
            rw [sAdd (by omega)]
            exact hR _ _ _ _ _ _ _ _ _ _ _ (by omega) ⟨i + 1, L', rfl, rfl, by omega, H, hs⟩
        · simp only [d, decide_false, Bool.not_false, sCond_t]
          refine bad v d ?_ _ _ _ H
          have : lsE (cellsN G) none l = v := by
            rw [hs, hv]
            by_cases d1 : fillErr (cellsN G) l[i] = 0
            · have d2 : ¬ (fillErr (cellsN G) l[i] ≠ 0) := fun q => q d1
              rw [if_neg d2] at hv
              rw [if_neg d2, if_neg d2]
              cases b with
              | true => rfl
              | false => exact absurd hv d
            · rw [if_pos d1, if_pos d1]
          rw [e3, this, if_pos d]
      by_cases ci : 0 < i
      · simp only [show (0 : Int) < (i : Int) by omega, decide_true, sG_tt]
        have hy : l[i - 1]? = some l[i - 1] := List.getElem?_eq_getElem (by omega)
        have hpv : pvL l i = some l[i - 1] := by rw [pvL, if_neg (by omega), hy]
        rw [sSub (by omega), sIxL (i := i - 1) (by omega) (by omega), ldL (getT hy), gW_tt']
        refine compare92 (hw _ (List.getElem_mem (show i - 1 < l.length by omega))) hwx _ _ _ _ ?_
        rintro _ rfl _
        simp only [sGeq, sPick_t]
        have hb : decide (0 ≤ cmpL l[i - 1] l[i]) = ((pvL l i).any fun q => !lexLt q l[i]) := by
          rw [hpv, Option.any_some]
          have := cmp_neg l[i - 1] l[i]
          cases q : lexLt l[i - 1] l[i] with
          | true => rw [q] at this; exact decide_eq_false (by have := this.2 rfl; omega)
          | false => rw [q] at this; exact decide_eq_true (by
                      by_cases r : cmpL l[i - 1] l[i] < 0
                      · exact absurd (this.1 r) (by simp)
                      · omega)
        exact tail _ hb _ fun v h' nx' L' hv H => after _ hb v h' nx' L' _ _ hv H
      · obtain rfl : i = 0 := by omega
        simp only [show ¬ (0 : Int) < ((0 : Nat) : Int) by omega, decide_false, sG_ft, gW_ft, sPick_f]
        exact tail false rfl _ fun v h' nx' L' hv H => after false rfl v h' nx' L' _ _ hv H
    simp only [show ¬ (i : Int) < (l.length : Int) by omega, decide_false, sCond_f]
    rw [List.drop_of_length_le (by omega)] at hs
    have hs : lsE (cellsN G) none l = 0 := by rw [hs]; cases pvL l i <;> rfl
    rw [if_neg (by simp [hs])] at e3
    obtain ⟨ho1, ho2, _⟩ := lsE_ok hs
    clear hR
    rw [F109.k10]
    simp only [sLen_lst]
    refine F109.L11 (fun m x9 x24 h' nx' => ∃ (k : Nat) (T : List TRow) (o : Option Pa) (L : List Ob), x24 = I k ∧ x9 = rowV o 1 T.length ∧ G.length - k = m ∧ k ≤ G.length ∧ T.map (·.2.2) = plT (G.take k) l ∧ (∀ t ∈ T, RowOk t) ∧ (∀ g ∈ G.take k, ∀ f ∈ l, applyS g.2 g.1 f ∈ l) ∧
      Hp h h' nx' (.gro o 1 T.length (T.map (·.1)) :: (T.map (·.2.1) ++ L))) (m := G.length) (by omega) ⟨0, [], none, L, rfl, rfl, rfl, by omega, rfl, by simp, by simp, H2.addGro 1⟩ ?_
    rintro m z2 z3 z9 z10 z11 z12 z13 z14 z24 z25 z26 z27 z28 z29 z30 h4 nx4 R ⟨k, T, o, L, rfl, rfl, rfl, hk, hTl, hT, hin, H4⟩ hR
    have hTn : T.length = k := by have := congrArg List.length hTl; simp [plT] at this; omega
    simp only [sLss]
    by_cases hkt : k < G.length
    case neg =>
      simp only [show ¬ (k : Int) < (G.length : Int) by omega, decide_false, sCond_f]
      rw [List.take_of_length_le (by omega)] at hTl hin
      rw [F109.k27]
      have himg : imgB G l = true := by
        rw [imgB, List.all_eq_true]
        intro f hf'
        rw [List.all_eq_true]
        exact fun g hg => decide_eq_true (hin g hg f hf')
      rw [if_neg (by simp [himg])] at e3
      rw [if_neg (by simp [e3]), ← hTl] at hK
      exact hK _ _ _ _ _ H4 (frz_tup2 (tabFrz H4 (k := 0) rfl fun t ht => ⟨hT t ht, List.mem_cons_of_mem _ (List.mem_append_left _ (List.mem_map_of_mem ht))⟩) (frz_fixd rfl)) rfl
    simp only [show (k : Int) < (G.length : Int) by omega, decide_true, sCond_t]
    have hy : G[k]? = some G[k] := List.getElem?_eq_getElem hkt
    rw [sIxL rfl hkt, flatG_cons hkt, sLoadNP]
    refine H4.alloc fun ab h5 nx5 H5 => ?_
    refine H5.storeN (k := 0) (n := 2) rfl rfl rfl fun h6 H6 => ?_
    simp only [sLen_lst]
    refine F109.row (g := G[k]) (n := cellsN G) (by decide) (hgs _ (List.getElem_mem hkt)) ho2 ho1 hl H6 (fun f hf' hnot h' nx' L' H => bad 7 (by decide) ?_ _ _ _ H) fun w2 w3 w12 w13 w14 w29 w30 h7 nx7 oR hall H7 => ?_
    · have : imgB G l = false := by
        cases q : imgB G l with
        | false => rfl
        | true =>
          rw [imgB, List.all_eq_true] at q
          have q1 := q f hf'
          rw [List.all_eq_true] at q1
          exact absurd (of_decide_eq_true (q1 _ (List.getElem_mem hkt))) hnot
      rw [e3, if_pos this]
    rw [F109.k25]
    refine H7.bslice (l := [rowV oR 1 l.length]) (by simp only [fillA, rowV_cells]; rfl) fun tb h8 nx8 H8 => ?_
    refine H8.appN (k := 3) (o := o) (c := 1) (new := [rowV oR 1 l.length]) rfl (HasArr.rd (l := [rowV oR 1 l.length]) (n := 1) (H8.own _ (List.mem_cons_self ..)) rfl) rfl (by simp [rowV_scal]) (by decide) (by decide) (by omega) fun o' h9 nx9 _ H9 => ?_
    rw [F109.k26, sAdd (by omega)]
    have hrl := plRow_len (g := G[k]) (Nat.le_refl l.length)
    refine hR _ _ _ _ _ _ _ _ _ _ _ _ _ _ _ _ _ _ (by omega) ⟨k + 1, T ++ [(rowV oR 1 l.length, .gro oR 1 l.length ((plRow l G[k] l.length).map I), plRow l G[k] l.length)], o', .arr ab [encI G[k].1, .bool G[k].2] :: L, rfl, by rw [List.length_append]; rfl, rfl, by omega, ?_, ?_, ?_, ?_⟩
    · rw [List.map_append, hTl, plT, plT, List.take_add_one, hy, List.map_append]; rfl
    · intro t ht
      rcases List.mem_append.1 ht with q | q
      · exact hT t q
      · rw [List.mem_singleton.1 q]
        exact .inr ⟨oR, by simp only [hrl], by simp only [hrl]⟩
    · intro g hg
      rw [List.take_add_one, hy] at hg
      rcases List.mem_append.1 hg with q | q
      · exact hin g q
      · simp at q; rw [q]; exact hall
    · rw [List.length_append, List.map_append, List.map_append, List.append_assoc]
      have H10 : Hp h h9 nx9 (.gro oR 1 l.length ((plRow l G[k] l.length).map I) :: .arr ab [encI G[k].1, .bool G[k].2] :: .gro o' 1 (T.length + 1) (T.map (·.1) ++ [rowV oR 1 l.length]) :: (T.map (·.2.1) ++ L)) := H9.drop
      refine H10.perm ?_
      refine ((List.Perm.swap _ _ _).cons _).trans ((List.Perm.swap _ _ _).trans (List.Perm.cons _ ?_))
      have e1 : (Ob.gro oR 1 l.length ((plRow l G[k] l.length).map I) :: .arr ab [encI G[k].1, .bool G[k].2] :: (T.map (·.2.1) ++ L)).Perm (Ob.gro oR 1 l.length ((plRow l G[k] l.length).map I) :: (T.map (·.2.1) ++ .arr ab [encI G[k].1, .bool G[k].2] :: L)) := List.perm_middle.symm.cons _
      exact e1.trans List.perm_middle.symm
  by_cases h0 : 0 < G.length
  · simp only [show (0 : Int) < (G.length : Int) by omega, decide_true, sCond_t]
    rw [sIxL (i := 0) (show (0 : Int) = ((0 : Nat) : Int) from rfl) h0, flatG_cons h0, sFaF0, sLoad_fp1]
    simp only [sLen_lst]
    have : cellsN G = ((G[0].1.length : Nat) : Int) := by rw [cellsN, dif_pos h0]
    rw [← this]
    exact k1 _
  · simp only [show ¬ (0 : Int) < (G.length : Int) by omega, decide_false, sCond_f]
    have : cellsN G = 0 := by rw [cellsN, dif_neg h0]
    have k1' := k1 (.bool false)
    rw [this] at k1'
    exact k1'
end Go.Ev
namespace Go.Ev
open Go Go.Proofs
variable {B : Nat}
def leastOf (p : List (List Int)) (j : Nat) : Int := p.foldl (fun m row => min m (row.getD j 0)) (j : Int)
def szAt (p : List (List Int)) (n i : Nat) : Nat := ((List.range n).filter fun j => decide (leastOf p j = (i : Int))).length
def szL (p : List (List Int)) (w n : Nat) : List Int := (List.range w).map fun i => ((szAt p n i : Nat) : Int)
def PlOk (p : List (List Int)) (n : Nat) : Prop := ∀ row ∈ p, row.length = n ∧ ∀ x ∈ row, 0 ≤ x ∧ x < (n : Int)
theorem least_bd {p : List (List Int)} {n : Nat} (hp : PlOk p n) {j : Nat} (hj : j < n) : ∀ k, 0 ≤ (p.take k).foldl (fun m row => min m (row.getD j 0)) (j : Int) ∧ (p.take k).foldl (fun m row => min m (row.getD j 0)) (j : Int) < (n : Int) := by
 have key : ∀ (q : List (List Int)) (m : Int), (∀ row ∈ q, row.length = n ∧ ∀ x ∈ row, 0 ≤ x ∧ x < (n : Int)) → 0 ≤ m ∧ m < (n : Int) → 0 ≤ q.foldl (fun m row => min m (row.getD j 0)) m ∧ q.foldl (fun m row => min m (row.getD j 0)) m < (n : Int) := by
  intro q
  induction q with
  | nil => intro m _ h; exact h
  | cons r q ih =>
   intro m hq hm
   rw [List.foldl_cons]
   obtain ⟨h1, h2⟩ := hq r (by simp)
   have hx : r[j]? = some (r.getD j 0) := by rw [List.getD_eq_getElem?_getD, List.getElem?_eq_getElem (by omega)]; rfl
   have := h2 _ (List.mem_of_getElem? hx)
   exact ih _ (fun row hr => hq row (by simp [hr])) (by omega)
 exact fun k => key _ _ (fun row hr => hp row (List.mem_of_mem_take hr)) (by omega)
theorem szL_get {p : List (List Int)} {w n i : Nat} (h : i < w) : (szL p w n)[i]? = some ((szAt p n i : Nat) : Int) := by
 rw [szL, List.getElem?_map, List.getElem?_range h]; rfl
@[simp] theorem szL_len (p : List (List Int)) (w n : Nat) : (szL p w n).length = w := by simp [szL]
theorem szAt_succ (p : List (List Int)) (n i : Nat) : szAt p (n + 1) i = szAt p n i + if leastOf p n = (i : Int) then 1 else 0 := by
 rw [szAt, List.range_succ, List.filter_append, List.length_append]
 congr 1
 by_cases c : leastOf p n = (i : Int)
 ·rw [if_pos c, List.filter_cons, if_pos (decide_eq_true c)]; rfl
 ·rw [if_neg c, List.filter_cons, if_neg (by simpa using c)]; rfl
theorem szAt_le (p : List (List Int)) (n i : Nat) : szAt p n i ≤ n := by
 have := List.length_filter_le (fun j => decide (leastOf p j = (i : Int))) (List.range n)
 rw [List.length_range] at this; exact this
theorem szL_succ {p : List (List Int)} {w n c : Nat} (hc : leastOf p n = (c : Int)) (hw : c < w) : szL p w (n + 1) = (szL p w n).set c ((szAt p n c : Nat) + 1 : Int) := by
 refine List.ext_getElem? fun j => ?_
 by_cases hj : j < w
 ·rw [szL_get hj, szAt_succ, List.getElem?_set, szL_get hj]
  by_cases e : c = j
  ·subst e
   rw [if_pos rfl, if_pos hc, if_pos (by rw [szL_len]; exact hw)]; rfl
  ·rw [if_neg e, if_neg (by rw [hc]; omega)]; rfl
 ·rw [List.getElem?_eq_none (by simp; omega), List.getElem?_eq_none (by simp; omega)]
abbrev ClsE := List Int × Nat
def flatC (c : List ClsE) : List AV := c.flatMap fun x => [encI x.1, I (x.2 : Int)]
abbrev encC (c : List ClsE) : AV := .lst 2 c.length (flatC c)
def clsL (l : List (List Int)) (p : List (List Int)) (n i : Nat) : List ClsE := ((List.range i).filter fun j => decide (0 < szAt p n j)).map fun j => (l.getD j [], szAt p n j)
theorem clsL_succ (l p : List (List Int)) (n i : Nat) : clsL l p n (i + 1) = if 0 < szAt p n i then clsL l p n i ++ [(l.getD i [], szAt p n i)] else clsL l p n i := by
 rw [clsL, List.range_succ, List.filter_append, List.map_append]
 by_cases c : 0 < szAt p n i
 ·rw [if_pos c, List.filter_cons, if_pos (decide_eq_true c)]; rfl
 ·rw [if_neg c, List.filter_cons, if_neg (by simpa using c)]
  simp [clsL]
theorem clsL_len (l p : List (List Int)) (n i : Nat) : (clsL l p n i).length ≤ i := by
 rw [clsL, List.length_map]
 exact Nat.le_trans (List.length_filter_le _ _) (by simp)
theorem fixd_flatC {c : List ClsE} : ∀ v ∈ flatC c, fixd v = true := fun v hv => by
 obtain ⟨x, _, h⟩ := List.mem_flatMap.1 hv
 simp only [List.mem_cons, List.not_mem_nil, or_false] at h
 rcases h with rfl | rfl
 ·exact fixd_encI _
 ·rfl
theorem plT_ok {G : List Sym} {l : List (List Int)} (hin : ∀ g ∈ G, ∀ f ∈ l, applyS g.2 g.1 f ∈ l) : PlOk (plT G l) l.length := by
 intro row hr
 obtain ⟨g, hg, rfl⟩ := List.mem_map.1 hr
 refine ⟨plRow_len (Nat.le_refl _), fun x hx => ?_⟩
 rw [plRow, List.take_length] at hx
 obtain ⟨f, hf, rfl⟩ := List.mem_map.1 hx
 have := List.idxOf_lt_length_iff.2 (hin g hg f hf)
 omega
theorem sMinI {a b : Int} {K : AV → OP} : sMin false (I a) [I b] K = K (I (min a b)) := by
 have e : sMin false (I a) [I b] K = K (.int .i64 (bif ilt b a then b else a)) := rfl
 rw [e, ilt_eq]
 congr 2
 by_cases c : b < a
 ·simp only [c, decide_true, cond_true]; omega
 ·simp only [c, decide_false, cond_false]; omega
end Go.Ev
