import Derived.Test.YtfgpjkchdelphaaGreatDoorEvD
import Derived.Deep.Matrix
import Derived.Lib.SmallJoins
import Derived.Test.YtfgpjkchdelphaaGreatDoorCode
import GoSem.Core.Next
set_option linter.unusedSimpArgs false
set_option linter.unusedVariables false
namespace Go.Ev
open Go Go.RowKit Go.ChangeShapes Go.WideShapes Go.Deep Go.Joins
variable {H : Type} {enc : TypeId × Value → H} {P : Program}
theorem cellOf_of_cell {w : World} {a : Addr} {i : Nat} {v : Value} (h : w.cell? (a.add i) = some v) : a = ⟨a.block, a.off, a.spot⟩ ∧ (i = 0 → a.spot = none) ∧ cellOf w a.block (a.off + i) = some v := by
 unfold Addr.add at h
 by_cases hi : i = 0
 ·subst hi
  rw [if_pos rfl] at h
  unfold World.cell? at h
  split at h
  ·rename_i c ty fr hb
   split at h
   ·cases h
   ·rename_i hs
    refine ⟨rfl, fun _ => by cases e : a.spot <;> simp_all, ?_⟩
    simp [cellOf, hb, h]
  ·cases h
 ·rw [if_neg hi] at h
  unfold World.cell? at h
  split at h
  ·rename_i c ty fr hb
   refine ⟨rfl, fun q => absurd q hi, ?_⟩
   simp at h hb
   simp [cellOf, hb, h]
  ·cases h
theorem VRF_mk {E : Env} {b : Nat} : ∀ {l : List AV} {off : Nat}, (∀ i a, l[i]? = some a → ∃ v, E.fz b (off + i) = some v ∧ VR E a v) → VRF E l b off
 | [], _, _ => by simp only [VRF]
 | a :: l, off, h => by
  simp only [VRF]
  obtain ⟨v, h1, h2⟩ := h 0 a rfl
  refine ⟨v, h1, h2, VRF_mk fun i x hx => ?_⟩
  obtain ⟨v', h3, h4⟩ := h (i + 1) x (by simpa using hx)
  exact ⟨v', by rw [Nat.add_assoc, Nat.add_comm 1 i]; exact h3, h4⟩
theorem scalI2 (l : List Int) : (l.map I).all scal = true := by
 rw [List.all_eq_true]; intro v hv
 obtain ⟨x, _, rfl⟩ := List.mem_map.1 hv; rfl
theorem scalT2 (l : List (List Int)) : (l.map encI).all scal = true := by
 rw [List.all_eq_true]; intro v hv
 obtain ⟨x, _, rfl⟩ := List.mem_map.1 hv; rfl
theorem vr_row {w : World} {hl : LaidW w} {p : Option Addr} {L C : Nat} {Z : List Int} (hL : L ≤ C) (hZ : Z.length = C) (h0 : p = none → C = 0) (hc : ∀ a, p = some a → ∀ c, c < C → w.cell? (a.add c) = some (.int .i64 (Z.getD c 0))) :
  VR (allE w hl) (encI (Z.take L)) (.slice p L C) := by
 have hlen : (Z.take L).length = L := by rw [List.length_take]; omega
 simp only [VR]
 refine ⟨scalI2 _, by simp, p, C, by rw [hlen], ?_⟩
 rw [hlen]
 cases p with
 | none => exact .inl ⟨by have := h0 rfl; omega, fun _ => h0 rfl⟩
 | some a =>
  by_cases hL0 : L = 0
  ·exact .inl ⟨hL0, by intro q; cases q⟩
  ·obtain ⟨_, hs, _⟩ := cellOf_of_cell (hc a rfl 0 (by omega))
   obtain ⟨b, off, sp⟩ := a
   have : sp = none := hs rfl
   subst this
   refine .inr ⟨b, off, rfl, hL, VRF_mk fun i x hx => ?_⟩
   rw [List.getElem?_map] at hx
   have hi : i < L := by
    cases e : (Z.take L)[i]? with
    | none => rw [e] at hx; cases hx
    | some y => have := (List.getElem?_eq_some_iff.1 e).1; omega
   obtain ⟨_, _, h3⟩ := cellOf_of_cell (hc _ rfl i (by omega))
   refine ⟨_, h3, ?_⟩
   rw [List.getElem?_take, if_pos hi] at hx
   cases e : Z[i]? with
   | none => rw [e] at hx; cases hx
   | some y =>
    rw [e] at hx
    have hx := Option.some.inj hx
    subst hx
    rw [List.getD_eq_getElem?_getD, e]
    simp only [VR, Option.getD_some]
theorem open_listT {t e q : TypeId} {w : World} {hl : LaidW w} {base : Nat} {held : Bool} {fuel : Nat} {cs : List Value} {x : DataW H × List MemPlace} (ht : P.underlying t = some (.slice e)) (he : P.underlying e = some (.slice q)) (hq : P.underlying q = some (.int .i64))
  (ce : P.cellsOf e = 1) (cq : P.cellsOf q = 1) (h : DataW.trod enc P w base (fun _ => true) held fuel t cs = some x) :
  ∃ (ll : List (List Int)) (v : Value), cs = [v] ∧ VR (allE w hl) (encT ll) v ∧ ll.length ≤ maxLen ∧ ∀ l ∈ ll, l.length ≤ maxLen ∧ ∀ n ∈ l, (Lit.int .i64 n).wf = true := by
 rcases open_int_rows ht he hq ce cq h with ⟨rfl, _⟩ | ⟨a, len, cap, A, L, C, Z, rfl, hb, hl, hm, _, hr⟩
 ·exact ⟨[], _, rfl, by simp only [VR]; exact ⟨rfl, rfl, none, 0, rfl, .inl ⟨rfl, fun _ => rfl⟩⟩, by simp, by simp⟩
 ·refine ⟨(List.range len).map fun r => (Z r).take (L r), _, rfl, ?_, by simp; omega, fun l hm' => ?_⟩
  ·simp only [VR]
   refine ⟨scalT2 _, by simp, some a, cap, by simp, ?_⟩
   by_cases h0 : len = 0
   ·exact .inl ⟨by simp [h0], by intro q; cases q⟩
   ·obtain ⟨_, hs, _⟩ := cellOf_of_cell (hr 0 (by omega)).1
    obtain ⟨b, off, sp⟩ := a
    have : sp = none := hs rfl
    subst this
    refine .inr ⟨b, off, rfl, by simpa using hl, VRF_mk fun i x hx => ?_⟩
    rw [List.map_map, List.getElem?_map] at hx
    have hi : i < len := by
     cases e : (List.range len)[i]? with
     | none => rw [e] at hx; cases hx
     | some y => have := (List.getElem?_eq_some_iff.1 e).1; simpa using this
    rw [List.getElem?_range hi] at hx
    have hx := Option.some.inj hx
    subst hx
    obtain ⟨g1, g2, g3, g4, _, g6, g7⟩ := hr i (by omega)
    obtain ⟨_, _, h3⟩ := cellOf_of_cell g1
    exact ⟨_, h3, vr_row g2 g4 g6 fun a' q c hc => (g7 a' q).2 c hc⟩
  ·obtain ⟨r, hr', rfl⟩ := List.mem_map.1 hm'
   obtain ⟨_, g2, g3, g4, g5, _⟩ := hr r (by have := List.mem_range.1 hr'; omega)
   exact ⟨by rw [List.length_take]; omega, fun n hn => g5 n (List.mem_of_mem_take hn)⟩
theorem open_system {r : Reach} {b0 base : Nat} {held : Bool} {w : World} {hl : LaidW w} {t ti tl tr : TypeId} {f0 f1 : Field} {v : Value} {d : DataW H} {p : List MemPlace} (hs : P.underlying t = some (.struct #[f0, f1])) (hone : oneCellFields P #[f0, f1] = true) (hC : P.cellsOf t = 2)
  (e0 : f0.type = ti) (e1 : f1.type = tl) (u0 : P.underlying ti = some (.int .i64)) (u1 : P.underlying tl = some (.slice tr)) (u2 : P.underlying tr = some (.slice ti)) (c1 : P.cellsOf tr = 1) (c2 : P.cellsOf ti = 1)
  (hv : Value.okWide P w r b0 t v) (h : DataW.Trod enc P w base (fun _ => true) held t v d p) :
  ∃ (cells : Int) (lines : List (List Int)), VR (allE w hl) (.agg [I cells, encT lines]) v ∧ (Lit.int .i64 cells).wf = true ∧ lines.length ≤ maxLen ∧ ∀ l ∈ lines, l.length ≤ maxLen ∧ ∀ n ∈ l, (Lit.int .i64 n).wf = true := by
 obtain ⟨v0, v1, y0, y1, n, rfl, _, _, h0, h1⟩ := open_agg2 hs hone hC hv h
 rw [e0] at h0
 rw [e1] at h1
 obtain ⟨x, hx, _, hw⟩ := DataW.trod_int u0 h0
 simp only [List.cons.injEq, and_true] at hx
 subst hx
 obtain ⟨ll, v', hv', g1, g2, g3⟩ := open_listT u1 u2 u0 c1 c2 h1
 simp only [List.cons.injEq, and_true] at hv'
 subst hv'
 refine ⟨x, ll, ?_, hw, g2, g3⟩
 simp only [VR]
 exact ⟨rfl, _, rfl, VRL.cons (by simp only [VR]) (VRL.cons g1 VRL.nil)⟩
end Go.Ev
namespace Go.Ev
open Go
def flat2 (q : List (Int × Int)) : List AV := q.flatMap fun p => [I p.1, I p.2]
abbrev encP (q : List (Int × Int)) : AV := .lst 2 q.length (flat2 q)
theorem flat2_len (q : List (Int × Int)) : (flat2 q).length = q.length * 2 := by
 induction q with
 | nil => rfl
 | cons p q ih => rw [flat2, List.flatMap_cons, List.length_append, ← flat2, ih]; simp; omega
theorem flat2_drop : ∀ (q : List (Int × Int)) (i : Nat), (flat2 q).drop (i * 2) = flat2 (q.drop i)
 | q, 0 => by simp
 | [], i + 1 => by simp [flat2]
 | p :: q, i + 1 => by
  rw [List.drop_succ_cons, ← flat2_drop q i, show (i + 1) * 2 = i * 2 + 1 + 1 by omega]
  rfl
theorem flat2_take : ∀ (q : List (Int × Int)) (i : Nat), (flat2 q).take (i * 2) = flat2 (q.take i)
 | q, 0 => by simp [flat2]
 | [], i + 1 => by simp [flat2]
 | p :: q, i + 1 => by
  rw [List.take_succ_cons, show (i + 1) * 2 = i * 2 + 1 + 1 by omega]
  show I p.1 :: I p.2 :: (flat2 q).take (i * 2) = _
  rw [flat2_take q i]
  rfl
theorem flat2_mem {q : List (Int × Int)} : ∀ v ∈ flat2 q, ∃ x, v = I x := fun v hv => by
 obtain ⟨p, _, h⟩ := List.mem_flatMap.1 hv
 simp only [List.mem_cons, List.not_mem_nil, or_false] at h
 rcases h with rfl | rfl
 ·exact ⟨_, rfl⟩
 ·exact ⟨_, rfl⟩
theorem scal_flat2 {q : List (Int × Int)} : (flat2 q).all scal = true := List.all_eq_true.2 fun v hv => by obtain ⟨x, rfl⟩ := flat2_mem v hv; rfl
theorem flat2_cons {q : List (Int × Int)} {i : Nat} (h : i < q.length) : (flat2 q).drop (i * 2) = I q[i].1 :: I q[i].2 :: (flat2 q).drop ((i + 1) * 2) := by
 rw [flat2_drop, flat2_drop, List.drop_eq_getElem_cons h]; rfl
theorem sAx0 {K : AV → OP} {id : Pa} {off : Nat} : sAaddr 1 2 (.ptr id off) (I 0) K = K (.ptr id off) := by
 show (bif Nat.ble (0 + 1) 2 then natK (off + 0 * 1) (fun o => K (.ptr id o)) else .no 14) = _
 rw [Nat.ble_eq_true_of_le (by omega), natK_eq]; simp
theorem sAx1 {K : AV → OP} {id : Pa} {off : Nat} : sAaddr 1 2 (.ptr id off) (I 1) K = K (.ptr id (off + 1)) := by
 show (bif Nat.ble (1 + 1) 2 then natK (off + 1 * 1) (fun o => K (.ptr id o)) else .no 14) = _
 rw [Nat.ble_eq_true_of_le (by omega), natK_eq]; simp
theorem sLoadNP {a b : AV} {l : List AV} {h : T Blk} {K : AV → OP} : sLoadN 2 (.fp (a :: b :: l)) h K = K (.agg [a, b]) := nr rfl
theorem sEqlP {a b c d : Int} {K : AV → OP} : sBin .eql (.agg 2) (.agg [I a, I b]) (.agg [I c, I d]) K = K (.bool (decide (a = c) && decide (b = d))) := by
 have e : sBin .eql (.agg 2) (.agg [I a, I b]) (.agg [I c, I d]) K = K (.bool (ieq a c && ieq b d)) := by
  have e1 : aggEq [I a, I b] [I c, I d] = some (ieq a c && ieq b d) := by
   show (bif ieq a c then (bif ieq b d then some true else some false) else some false) = _
   cases ieq a c <;> cases ieq b d <;> rfl
  show (match aggEq [I a, I b] [I c, I d] with | some r => eqOut .eql r K | none => Out.no 5) = _
  rw [e1]
  rfl
 rw [e, ieq_eq, ieq_eq]
 congr 3
theorem sSliceP {n i : Nat} {l : List AV} {op : AV → OP} (hn : 1 ≤ n) (hi : i ≤ n) : sSlice 2 (.lst 2 n l) none (some (I (i : Int))) none op = op (.lst 2 i (l.take (i * 2))) := by
 show (bif Nat.beq 2 2 && Nat.ble 1 n then (match bnd (some (I (i : Int))) n n with | none => Out.no 17 | some h => match bnd none h 0 with | none => .no 17 | some q => op (.lst 2 (h - q) ((l.drop (q * 2)).take ((h - q) * 2)))) else .no 17) = _
 rw [Nat.ble_eq_true_of_le hn]
 have : bnd (some (I (i : Int))) n n = some i := by
  show (bif Nat.ble i n then some i else none) = _
  rw [Nat.ble_eq_true_of_le hi]; rfl
 rw [this]
 show op (.lst 2 (i - 0) ((l.drop (0 * 2)).take ((i - 0) * 2))) = _
 simp
theorem encP_take {E : List (Int × Int)} {i : Nat} (h : i ≤ E.length) : AV.lst 2 i ((flat2 E).take (i * 2)) = encP (E.take i) := by
 rw [flat2_take]
 show _ = AV.lst 2 (E.take i).length (flat2 (E.take i))
 rw [List.length_take, Nat.min_eq_left h]
end Go.Ev
namespace Go.Ev
open Go Go.RowKit Go.ChangeShapes Go.WideShapes Go.Deep Go.Joins
variable {H : Type} {enc : TypeId × Value → H} {P : Program}
theorem flatP_get : ∀ (q : List (Int × Int)) (i : Nat), (flat2 q)[i]? = (q[i / 2]?).map fun p => if i % 2 = 0 then I p.1 else I p.2
 | [], i => by simp [flat2]
 | p :: q, 0 => rfl
 | p :: q, 1 => rfl
 | p :: q, i + 2 => by
  show (I p.1 :: I p.2 :: flat2 q)[i + 2]? = _
  rw [List.getElem?_cons_succ, List.getElem?_cons_succ, flatP_get q i, show (i + 2) / 2 = i / 2 + 1 by omega, show (i + 2) % 2 = i % 2 by omega, List.getElem?_cons_succ]
theorem open_listP {t e q : TypeId} {w : World} {hl : LaidW w} {base : Nat} {held : Bool} {fuel : Nat} {cs : List Value} {x : DataW H × List MemPlace} (ht : P.underlying t = some (.slice e)) (he : P.underlying e = some (.array 2 q)) (hq : P.underlying q = some (.int .i64))
  (ce : P.cellsOf e = 2) (cq : P.cellsOf q = 1) (h : DataW.trod enc P w base (fun _ => true) held fuel t cs = some x) :
  ∃ (l : List (Int × Int)) (v : Value), cs = [v] ∧ VR (allE w hl) (encP l) v ∧ l.length ≤ maxLen := by
 rcases open_slice ht h with ⟨rfl, _⟩ | ⟨a, len, cap, m, n, D, Pl, rfl, hb, hl, hm, hmm, _, hx⟩
 ·exact ⟨[], _, rfl, by simp only [VR]; exact ⟨rfl, rfl, none, 0, rfl, .inl ⟨rfl, fun _ => rfl⟩⟩, by simp⟩
 ·have each : ∀ i, i < len → ∃ p : Int × Int, w.cell? (a.add (i * 2)) = some (.int .i64 p.1) ∧ w.cell? (a.add (i * 2 + 1)) = some (.int .i64 p.2) := by
   intro i hi
   obtain ⟨cs', h1, h2⟩ := hx i (by rw [hmm, if_pos rfl]; omega)
   rw [ce] at h1
   obtain ⟨_, hlen, hcell⟩ := World.cells?_some h1
   obtain ⟨xs, k, hk, _, _, hxl, hf⟩ := DataW.trod_array he h2
   match xs, hxl, cs', hlen with
   | [y0, y1], _, [v0, v1], _ =>
    have g0 := hf 0 (by omega)
    have g1 := hf 1 (by omega)
    simp [cq] at g0 g1
    obtain ⟨p0, q0, _⟩ := DataW.trod_int hq g0
    obtain ⟨p1, q1, _⟩ := DataW.trod_int hq g1
    simp only [List.cons.injEq, and_true] at q0 q1
    subst q0 q1
    have e0 := hcell 0 (by omega)
    have e1 := hcell 1 (by omega)
    rw [add_add] at e0 e1
    exact ⟨(p0, p1), by simpa using e0, by simpa using e1⟩
  obtain ⟨Q, hQ⟩ := choose_lt each
  refine ⟨(List.range len).map Q, _, rfl, ?_, by simp; omega⟩
  simp only [VR]
  refine ⟨scal_flat2, flat2_len _, some a, cap, by simp, ?_⟩
  by_cases h0 : len = 0
  ·exact .inl ⟨by simp [h0], by intro q; cases q⟩
  ·obtain ⟨_, hs, _⟩ := cellOf_of_cell (hQ 0 (by omega)).1
   obtain ⟨b, off, sp⟩ := a
   have : sp = none := hs (by omega)
   subst this
   refine .inr ⟨b, off, rfl, by simpa using hl, VRF_mk fun i x hx => ?_⟩
   rw [flatP_get] at hx
   have hi : i / 2 < len := by
    cases e : ((List.range len).map Q)[i / 2]? with
    | none => rw [e] at hx; cases hx
    | some y => have := (List.getElem?_eq_some_iff.1 e).1; simpa using this
   rw [List.getElem?_map, List.getElem?_range hi] at hx
   have hx := Option.some.inj hx
   obtain ⟨g0, g1⟩ := hQ (i / 2) hi
   by_cases c : i % 2 = 0
   ·simp only [if_pos c] at hx
    obtain ⟨_, _, h3⟩ := cellOf_of_cell g0
    subst hx
    refine ⟨_, (show off + i = off + i / 2 * 2 by omega) ▸ h3, by simp only [VR]⟩
   ·simp only [if_neg c] at hx
    obtain ⟨_, _, h3⟩ := cellOf_of_cell g1
    subst hx
    refine ⟨_, (show off + i = off + (i / 2 * 2 + 1) by omega) ▸ h3, by simp only [VR]⟩
theorem open_graph {r : Reach} {b0 base : Nat} {held : Bool} {w : World} {hl : LaidW w} {t ti tl tr : TypeId} {f0 f1 : Field} {v : Value} {d : DataW H} {p : List MemPlace} (hs : P.underlying t = some (.struct #[f0, f1])) (hone : oneCellFields P #[f0, f1] = true) (hC : P.cellsOf t = 2)
  (e0 : f0.type = ti) (e1 : f1.type = tl) (u0 : P.underlying ti = some (.int .i64)) (u1 : P.underlying tl = some (.slice tr)) (u2 : P.underlying tr = some (.array 2 ti)) (c1 : P.cellsOf tr = 2) (c2 : P.cellsOf ti = 1)
  (hv : Value.okWide P w r b0 t v) (h : DataW.Trod enc P w base (fun _ => true) held t v d p) :
  ∃ (c : Int) (l : List (Int × Int)), VR (allE w hl) (.agg [I c, encP l]) v ∧ (Lit.int .i64 c).wf = true ∧ l.length ≤ maxLen := by
 obtain ⟨v0, v1, y0, y1, n, rfl, _, _, h0, h1⟩ := open_agg2 hs hone hC hv h
 rw [e0] at h0
 rw [e1] at h1
 obtain ⟨x, hx, _, hw⟩ := DataW.trod_int u0 h0
 simp only [List.cons.injEq, and_true] at hx
 subst hx
 obtain ⟨l, v', hv', g1, g2⟩ := open_listP u1 u2 u0 c1 c2 h1
 simp only [List.cons.injEq, and_true] at hv'
 subst hv'
 refine ⟨x, l, ?_, hw, g2⟩
 simp only [VR]
 exact ⟨rfl, _, rfl, VRL.cons (by simp only [VR]) (VRL.cons g1 VRL.nil)⟩
end Go.Ev
namespace Go.Ev
open Go Go.Proofs
theorem dreg {B : Nat} : DregAll Tryz.prog B Prop := dreg_all mixed
variable {B : Nat}
theorem sameInts35 {a b : List Int} (ha : a.length ≤ 1000000000) : Pure Tryz.prog B 49 [encI a, encI b] (· = .bool (decide (a = b))) := by
 intro p h nx K hK
 refine by_body tbl_ok dreg (a.length + 2) fun hf => ?_
 rw [F49.go]
 simp (disch := omega) only [sAdd, sSub, sMul, sEql, sNeq, sLss, sLeq, sGtr, sGeq, sPick_t, sPick_f, sCond_t, sCond_f, sG_tt, sG_ff, sG_tf, sG_ft, sNot_b, sExt0, sExt1, sExt2, sPart0, sPart1, sPart2, sLen_lst, sLen_sl, sLen_nils, sSame_refl, decide_true, decide_false, Bool.not_true, Bool.not_false, sChk_t]
 by_cases hl : a.length = b.length
 ·simp only [hl, decide_true, Bool.not_true, sCond_f]
  refine F49.L2 (fun m z3 h' nx' => ∃ i : Nat, z3 = I i ∧ m = a.length - i ∧ i ≤ a.length ∧ h' = h ∧ nx' = nx ∧ a.take i = b.take i) (m := a.length) (by omega) ⟨0, rfl, by simp, by omega, rfl, rfl, by simp⟩ ?_
  rintro m z2 z3 z5 z6 _ _ R ⟨i, rfl, rfl, hi, rfl, rfl, htk⟩ hR
  simp (disch := omega) only [sAdd, sSub, sMul, sEql, sNeq, sLss, sLeq, sGtr, sGeq, sPick_t, sPick_f, sCond_t, sCond_f, sG_tt, sG_ff, sG_tf, sG_ft, sNot_b, sExt0, sExt1, sExt2, sPart0, sPart1, sPart2, sLen_lst, sLen_sl, sLen_nils, sSame_refl, decide_true, decide_false, Bool.not_true, Bool.not_false, sChk_t]
  by_cases hlt : i < a.length
  ·have h1 : (i : Int) < a.length := by omega
   have hb : i < b.length := by omega
   simp only [h1, decide_true, sCond_t]
   rw [sIxL rfl hlt, ldL (getI (List.getElem?_eq_getElem hlt)), sIxL rfl hb, ldL (getI (List.getElem?_eq_getElem hb))]
   simp (disch := omega) only [sAdd, sSub, sMul, sEql, sNeq, sLss, sLeq, sGtr, sGeq, sPick_t, sPick_f, sCond_t, sCond_f, sG_tt, sG_ff, sG_tf, sG_ft, sNot_b, sExt0, sExt1, sExt2, sPart0, sPart1, sPart2, sLen_lst, sLen_sl, sLen_nils, sSame_refl, decide_true, decide_false, Bool.not_true, Bool.not_false, sChk_t]
   by_cases he : a[i] = b[i]
   ·simp only [he, decide_true, Bool.not_true, sCond_f]
    refine hR (a.length - (i + 1)) _ _ _ _ _ _ (by omega) ⟨i + 1, rfl, rfl, by omega, rfl, rfl, ?_⟩
    rw [List.take_add_one, List.take_add_one, htk, List.getElem?_eq_getElem hlt, List.getElem?_eq_getElem hb, he]
   ·simp only [he, decide_false, Bool.not_false, sCond_t]
    refine hK _ ?_ hf
    rw [decide_eq_false]
    rintro rfl
    exact he rfl
  ·have h1 : ¬ (i : Int) < a.length := by omega
   simp only [h1, decide_false, sCond_f]
   rw [F49.k9]
   refine hK _ ?_ hf
   rw [List.take_of_length_le (by omega), List.take_of_length_le (by omega)] at htk
   rw [decide_eq_true htk]
 ·have h1 : ¬ (a.length : Int) = b.length := by omega
  simp only [h1, decide_false, Bool.not_false, sCond_t]
  refine hK _ ?_ hf
  rw [decide_eq_false]
  rintro rfl; exact hl rfl
end Go.Ev
namespace Go.Ev
open Go Go.Proofs
variable {B : Nat}
theorem when123 (b : Bool) (e : Int) : Pure Tryz.prog B 88 [.bool b, I e] (· = I (if b then e else 0)) := by
 intro p h nx K hK
 refine by_body tbl_ok dreg 9 fun hf => ?_
 rw [F88.go]
 cases b <;> simp (disch := omega) only [sAdd, sSub, sMul, sEql, sNeq, sLss, sLeq, sGtr, sGeq, sPick_t, sPick_f, sCond_t, sCond_f, sG_tt, sG_ff, sG_tf, sG_ft, sNot_b, sExt0, sExt1, sExt2, sPart0, sPart1, sPart2, sLen_lst, sLen_sl, sLen_nils, sSame_refl, decide_true, decide_false, Bool.not_true, Bool.not_false, sChk_t] <;> exact hK _ rfl hf
def firstE : List Int → Int
 | [] => 0
 | e :: l => if e ≠ 0 then e else firstE l
theorem firstE_skip : ∀ (l : List Int) (i : Nat), (∀ e ∈ l.take i, e = 0) → firstE l = firstE (l.drop i)
 | l, 0, _ => rfl
 | [], _ + 1, _ => rfl
 | e :: l, i + 1, h => by
  have h0 : e = 0 := h e (by simp)
  rw [firstE, if_neg (by simp [h0]), List.drop_succ_cons]
  exact firstE_skip l i fun x hx => h x (by simp [hx])
theorem first121 {l : List Int} (hl : l.length ≤ 1000000) : Pure Tryz.prog B 86 [encI l] (· = I (firstE l)) := by
 intro p h nx K hK
 refine by_body tbl_ok dreg 10000000 fun hf => ?_
 rw [F86.go]
 simp (disch := omega) only [sAdd, sSub, sMul, sEql, sNeq, sLss, sLeq, sGtr, sGeq, sPick_t, sPick_f, sCond_t, sCond_f, sG_tt, sG_ff, sG_tf, sG_ft, sNot_b, sExt0, sExt1, sExt2, sPart0, sPart1, sPart2, sLen_lst, sLen_sl, sLen_nils, sSame_refl, decide_true, decide_false, Bool.not_true, Bool.not_false, sChk_t]
 refine F86.L1 (fun m z5 h' nx' => ∃ i : Nat, z5 = I i ∧ l.length - i = m ∧ i ≤ l.length ∧ h' = h ∧ nx' = nx ∧ ∀ e ∈ l.take i, e = 0) (m := l.length) (by omega) ⟨0, rfl, rfl, by omega, rfl, rfl, by simp⟩ ?_
 rintro m z1 z2 z5 z6 z7 _ _ R ⟨i, rfl, rfl, hi, rfl, rfl, htk⟩ hR
 simp (disch := omega) only [sAdd, sSub, sMul, sEql, sNeq, sLss, sLeq, sGtr, sGeq, sPick_t, sPick_f, sCond_t, sCond_f, sG_tt, sG_ff, sG_tf, sG_ft, sNot_b, sExt0, sExt1, sExt2, sPart0, sPart1, sPart2, sLen_lst, sLen_sl, sLen_nils, sSame_refl, decide_true, decide_false, Bool.not_true, Bool.not_false, sChk_t]
 by_cases hlt : i < l.length
 ·simp only [show (i : Int) < (l.length : Int) by omega, decide_true, sCond_t]
  have hx : l[i]? = some l[i] := List.getElem?_eq_getElem hlt
  rw [sIxL rfl hlt, ldL (getI hx)]
  simp (disch := omega) only [sAdd, sSub, sMul, sEql, sNeq, sLss, sLeq, sGtr, sGeq, sPick_t, sPick_f, sCond_t, sCond_f, sG_tt, sG_ff, sG_tf, sG_ft, sNot_b, sExt0, sExt1, sExt2, sPart0, sPart1, sPart2, sLen_lst, sLen_sl, sLen_nils, sSame_refl, decide_true, decide_false, Bool.not_true, Bool.not_false, sChk_t]
  have hd : l.drop i = l[i] :: l.drop (i + 1) := List.drop_eq_getElem_cons hlt
  by_cases h0 : l[i] = 0
  ·simp only [h0, decide_true, Bool.not_true, sCond_f]
   refine hR _ _ _ _ _ _ _ _ (by omega) ⟨i + 1, rfl, rfl, by omega, rfl, rfl, fun e he => ?_⟩
   rw [List.take_add_one, hx] at he
   rcases List.mem_append.1 he with q | q
   ·exact htk e q
   ·simp at q; rw [q]; exact h0
  ·simp only [h0, decide_false, Bool.not_false, sCond_t]
   refine hK _ ?_ hf
   rw [firstE_skip l i htk, hd, firstE, if_pos h0]
 ·simp only [show ¬ (i : Int) < (l.length : Int) by omega, decide_false, sCond_f]
  rw [F86.k8]
  refine hK _ ?_ hf
  rw [firstE_skip l i htk, List.drop_of_length_le (by omega)]; rfl
theorem equal150 {a b : List Int} (ha : a.length ≤ 1000000000) : Pure Tryz.prog B 177 [encI a, encI b] (· = .bool (decide (a = b))) := by
 intro p h nx K hK
 refine by_body tbl_ok dreg (a.length + 2) fun hf => ?_
 rw [F177.go]
 simp (disch := omega) only [sAdd, sSub, sMul, sEql, sNeq, sLss, sLeq, sGtr, sGeq, sPick_t, sPick_f, sCond_t, sCond_f, sG_tt, sG_ff, sG_tf, sG_ft, sNot_b, sExt0, sExt1, sExt2, sPart0, sPart1, sPart2, sLen_lst, sLen_sl, sLen_nils, sSame_refl, decide_true, decide_false, Bool.not_true, Bool.not_false, sChk_t]
 by_cases hl : a.length = b.length
 ·simp only [hl, decide_true, Bool.not_true, sCond_f]
  refine F177.L2 (fun m z6 h' nx' => ∃ i : Nat, z6 = I i ∧ a.length - i = m ∧ i ≤ a.length ∧ h' = h ∧ nx' = nx ∧ a.take i = b.take i) (m := a.length) (by omega) ⟨0, rfl, by simp, by omega, rfl, rfl, by simp⟩ ?_
  rintro m z2 z3 z6 z7 z8 _ _ R ⟨i, rfl, rfl, hi, rfl, rfl, htk⟩ hR
  simp (disch := omega) only [sAdd, sSub, sMul, sEql, sNeq, sLss, sLeq, sGtr, sGeq, sPick_t, sPick_f, sCond_t, sCond_f, sG_tt, sG_ff, sG_tf, sG_ft, sNot_b, sExt0, sExt1, sExt2, sPart0, sPart1, sPart2, sLen_lst, sLen_sl, sLen_nils, sSame_refl, decide_true, decide_false, Bool.not_true, Bool.not_false, sChk_t]
  by_cases hlt : i < a.length
  ·have hb : i < b.length := by omega
   simp only [show (i : Int) < (b.length : Int) by omega, decide_true, sCond_t]
   rw [sIxL rfl hlt, ldL (getI (List.getElem?_eq_getElem hlt)), sIxL rfl hb, ldL (getI (List.getElem?_eq_getElem hb))]
   simp (disch := omega) only [sAdd, sSub, sMul, sEql, sNeq, sLss, sLeq, sGtr, sGeq, sPick_t, sPick_f, sCond_t, sCond_f, sG_tt, sG_ff, sG_tf, sG_ft, sNot_b, sExt0, sExt1, sExt2, sPart0, sPart1, sPart2, sLen_lst, sLen_sl, sLen_nils, sSame_refl, decide_true, decide_false, Bool.not_true, Bool.not_false, sChk_t]
   by_cases he : a[i] = b[i]
   ·simp only [he, decide_true, Bool.not_true, sCond_f]
    refine hR (a.length - (i + 1)) _ _ _ _ _ _ _ (by omega) ⟨i + 1, rfl, rfl, by omega, rfl, rfl, ?_⟩
    rw [List.take_add_one, List.take_add_one, htk, List.getElem?_eq_getElem hlt, List.getElem?_eq_getElem hb, he]
   ·simp only [he, decide_false, Bool.not_false, sCond_t]
    refine hK _ ?_ hf
    rw [decide_eq_false]
    rintro rfl
    exact he rfl
  ·simp only [show ¬ (i : Int) < (b.length : Int) by omega, decide_false, sCond_f]
   rw [F177.k9]
   refine hK _ ?_ hf
   rw [List.take_of_length_le (by omega), List.take_of_length_le (by omega)] at htk
   rw [decide_eq_true htk]
 ·have h1 : ¬ (a.length : Int) = b.length := by omega
  simp only [h1, decide_false, Bool.not_false, sCond_t]
  refine hK _ ?_ hf
  rw [decide_eq_false]
  rintro rfl; exact hl rfl
theorem contains148 {h0 h : T Blk} {nx : Pa} {L : List Ob} {k : Nat} {x p : Pa} {l : List Int} {prev : List (List Int)} {K : Kw Prop} (H : Hp h0 h nx L) (hk : L[k]? = some (.arr x [encI l])) (hp : prev.length ≤ 1000000) (hw : ∀ q ∈ prev, q.length ≤ 1000000)
  (hK : K (.bool (decide (l ∈ prev))) h nx = .ok True) : (CS Tryz.prog B).fn 175 p [encT prev, .fn 176 (.of 176) [.ptr x 0]] h nx K = .ok True := by
 refine CS_fn_mono (p := .of 175) (K := K) (by_body tbl_ok dreg 9 fun hf => ?_) fun _ _ _ _ q => q
 rw [F175.go]
 refine CS_fn_mono (p := .of 245) (K := fun v1 h2 n3 => sBin .geq .int v1 (I 0) fun v4 => K v4 h2 n3) (by_body tbl_ok dreg 10000000 fun hf => ?_) fun _ _ _ _ q => q
 rw [F245.go]
 simp (disch := omega) only [sAdd, sSub, sMul, sEql, sNeq, sLss, sLeq, sGtr, sGeq, sPick_t, sPick_f, sCond_t, sCond_f, sG_tt, sG_ff, sG_tf, sG_ft, sNot_b, sExt0, sExt1, sExt2, sPart0, sPart1, sPart2, sLen_lst, sLen_sl, sLen_nils, sSame_refl, decide_true, decide_false, Bool.not_true, Bool.not_false, sChk_t]
 refine F245.L1 (fun m z5 h' nx' => ∃ i : Nat, z5 = I i ∧ prev.length - i = m ∧ i ≤ prev.length ∧ h' = h ∧ nx' = nx ∧ l ∉ prev.take i) (m := prev.length) (by omega) ⟨0, rfl, rfl, by omega, rfl, rfl, by simp⟩ ?_
 rintro m z2 z3 z5 z6 z7 _ _ R ⟨i, rfl, rfl, hi, rfl, rfl, htk⟩ hR
 simp (disch := omega) only [sAdd, sSub, sMul, sEql, sNeq, sLss, sLeq, sGtr, sGeq, sPick_t, sPick_f, sCond_t, sCond_f, sG_tt, sG_ff, sG_tf, sG_ft, sNot_b, sExt0, sExt1, sExt2, sPart0, sPart1, sPart2, sLen_lst, sLen_sl, sLen_nils, sSame_refl, decide_true, decide_false, Bool.not_true, Bool.not_false, sChk_t]
 by_cases hlt : i < prev.length
 ·simp only [show (i : Int) < (prev.length : Int) by omega, decide_true, sCond_t]
  have hx : prev[i]? = some prev[i] := List.getElem?_eq_getElem hlt
  rw [sIxL rfl hlt, ldL (getT hx), sCall_fn]
  refine CS_fn_mono (p := .of 176) (by_body tbl_ok dreg 9 fun hf => ?_) fun _ _ _ _ q => q
  show callFn tbl 9 _ (Pa.of 176) [encI prev[i], .ptr x 0] _ _ _ = _
  rw [F176.go, H.load (k := k) (i := 0) hk rfl]
  refine equal150 (Nat.le_trans (hw _ (List.getElem_mem hlt)) (by omega)) _ _ _ _ ?_
  rintro _ rfl _
  by_cases he : prev[i] = l
  ·simp only [he, decide_true, sCond_t, sGeq, show (0 : Int) ≤ (i : Int) by omega]
   rw [decide_eq_true (he ▸ List.getElem_mem hlt)] at hK
   exact hK
  ·simp only [he, decide_false, sCond_f]
   refine hR _ _ _ _ _ _ _ _ (by omega) ⟨i + 1, rfl, rfl, by omega, rfl, rfl, fun q => ?_⟩
   rw [List.take_add_one, hx] at q
   rcases List.mem_append.1 q with q | q
   ·exact htk q
   ·simp at q; exact he q.symm
 ·simp only [show ¬ (i : Int) < (prev.length : Int) by omega, decide_false, sCond_f]
  rw [F245.k8]
  rw [List.take_of_length_le (by omega)] at htk
  rw [decide_eq_false htk] at hK
  simp only [sGeq, show ¬ (0 : Int) ≤ -1 by omega, decide_false]
  exact hK
end Go.Ev
namespace Go.Ev
open Go Go.Proofs
variable {B : Nat}
def cellsErr (cells : Int) : Option Int → List Int → Int
 | _, [] => 0
 | p, c :: l => if c < 0 ∨ cells ≤ c then 10 else if p.any (fun q => decide (c ≤ q)) then 11 else cellsErr cells (some c) l
def lineErr (cells : Int) (prev : List (List Int)) (l : List Int) : Int := if l = [] then 12 else if cellsErr cells none l ≠ 0 then cellsErr cells none l else if l ∈ prev then 9 else 0
def linesErr (cells : Int) : List (List Int) → List (List Int) → Int
 | _, [] => 0
 | prev, l :: r => if lineErr cells prev l ≠ 0 then lineErr cells prev l else linesErr cells (prev ++ [l]) r
def sysErr (cells : Int) (lines : List (List Int)) : Int := if cells < 1 ∨ 256 < cells then 3 else if 128 < lines.length then 5 else linesErr cells [] lines
def pv (l : List Int) (k : Nat) : Option Int := if k = 0 then none else l[k - 1]?
theorem pv_succ {l : List Int} {k : Nat} (h : k < l.length) : pv l (k + 1) = some l[k] := by simp [pv, h]
theorem short25 {cells a b : Int} {lines : List (List Int)} (hb : b ≤ 1000000) : Pure Tryz.prog B 16 [.agg [I cells, encT lines], I a, I b] (· = .bool (decide ((lines.length : Int) ≤ b ∧ ∀ l ∈ lines, (l.length : Int) ≤ a))) := by
 refine pure_hp fun h nx K H0 hK => by_body tbl_ok dreg 10000000 fun hf => ?_
 rw [F16.go]
 refine H0.box (l := [I cells, encT lines]) rfl fun bx h1 nx1 H1 => ?_
 rw [sFx, H1.load (k := 0) (i := 0 + 1) rfl rfl]
 simp (disch := omega) only [sAdd, sSub, sMul, sEql, sNeq, sLss, sLeq, sGtr, sGeq, sPick_t, sPick_f, sCond_t, sCond_f, sG_tt, sG_ff, sG_tf, sG_ft, sNot_b, sExt0, sExt1, sExt2, sPart0, sPart1, sPart2, sLen_lst, sLen_sl, sLen_nils, sSame_refl, decide_true, decide_false, Bool.not_true, Bool.not_false, sChk_t]
 have ret : ∀ v : Bool, v = decide ((lines.length : Int) ≤ b ∧ ∀ l ∈ lines, (l.length : Int) ≤ a) → K (.bool v) h1 nx1 = .ok True := fun v hv => by rw [hv]; exact hK _ _ _ _ _ H1 (frz_fixd rfl) rfl
 by_cases hlen : b < (lines.length : Int)
 ·simp only [hlen, decide_true, sCond_t]
  refine ret _ ?_
  rw [decide_eq_false]
  rintro ⟨q, _⟩; omega
 simp only [hlen, decide_false, sCond_f]
 refine F16.L2 (fun m z5 h' nx' => ∃ i : Nat, z5 = I i ∧ lines.length - i = m ∧ i ≤ lines.length ∧ h' = h1 ∧ nx' = nx1 ∧ ∀ l ∈ lines.take i, (l.length : Int) ≤ a) (m := lines.length) (by omega) ⟨0, rfl, rfl, by omega, rfl, rfl, by simp⟩ ?_
 rintro m z4 z5 z7 z8 _ _ R ⟨i, rfl, rfl, hi, rfl, rfl, htk⟩ hR
 rw [sFx, H1.load (k := 0) (i := 0 + 1) rfl rfl]
 simp (disch := omega) only [sAdd, sSub, sMul, sEql, sNeq, sLss, sLeq, sGtr, sGeq, sPick_t, sPick_f, sCond_t, sCond_f, sG_tt, sG_ff, sG_tf, sG_ft, sNot_b, sExt0, sExt1, sExt2, sPart0, sPart1, sPart2, sLen_lst, sLen_sl, sLen_nils, sSame_refl, decide_true, decide_false, Bool.not_true, Bool.not_false, sChk_t]
 by_cases hlt : i < lines.length
 ·simp only [show (i : Int) < (lines.length : Int) by omega, decide_true, sCond_t]
  have hx : lines[i]? = some lines[i] := List.getElem?_eq_getElem hlt
  rw [sFx, H1.load (k := 0) (i := 0 + 1) rfl rfl, sIxL rfl hlt, ldL (getT hx)]
  simp (disch := omega) only [sAdd, sSub, sMul, sEql, sNeq, sLss, sLeq, sGtr, sGeq, sPick_t, sPick_f, sCond_t, sCond_f, sG_tt, sG_ff, sG_tf, sG_ft, sNot_b, sExt0, sExt1, sExt2, sPart0, sPart1, sPart2, sLen_lst, sLen_sl, sLen_nils, sSame_refl, decide_true, decide_false, Bool.not_true, Bool.not_false, sChk_t]
  by_cases hw : a < (lines[i].length : Int)
  ·simp only [hw, decide_true, sCond_t]
   refine ret _ ?_
   rw [decide_eq_false]
   rintro ⟨_, q⟩
   have := q _ (List.getElem_mem hlt)
   omega
  ·simp only [hw, decide_false, sCond_f]
   refine hR _ _ _ _ _ _ _ (by omega) ⟨i + 1, rfl, rfl, by omega, rfl, rfl, fun l hl => ?_⟩
   rw [List.take_add_one, hx] at hl
   rcases List.mem_append.1 hl with q | q
   ·exact htk l q
   ·simp at q; rw [q]; omega
 ·simp only [show ¬ (i : Int) < (lines.length : Int) by omega, decide_false, sCond_f]
  rw [F16.k9]
  rw [List.take_of_length_le (by omega)] at htk
  refine ret _ ?_
  rw [decide_eq_true ⟨by omega, htk⟩]
theorem hasLine84 {prev : List (List Int)} {l : List Int} (hp : prev.length ≤ 1000000) (hw : ∀ q ∈ prev, q.length ≤ 1000000000) : Pure Tryz.prog B 90 [encT prev, encI l] (· = .bool (decide (l ∈ prev))) := by
 intro p h nx K hK
 refine by_body tbl_ok dreg 10000000 fun hf => ?_
 rw [F90.go]
 refine F90.L1 (fun m z3 h' nx' => ∃ i : Nat, z3 = I i ∧ prev.length - i = m ∧ i ≤ prev.length ∧ h' = h ∧ nx' = nx ∧ l ∉ prev.take i) (m := prev.length) (by omega) ⟨0, rfl, rfl, by omega, rfl, rfl, by simp⟩ ?_
 rintro m z2 z3 z4 z5 _ _ R ⟨i, rfl, rfl, hi, rfl, rfl, htk⟩ hR
 simp (disch := omega) only [sAdd, sSub, sMul, sEql, sNeq, sLss, sLeq, sGtr, sGeq, sPick_t, sPick_f, sCond_t, sCond_f, sG_tt, sG_ff, sG_tf, sG_ft, sNot_b, sExt0, sExt1, sExt2, sPart0, sPart1, sPart2, sLen_lst, sLen_sl, sLen_nils, sSame_refl, decide_true, decide_false, Bool.not_true, Bool.not_false, sChk_t]
 by_cases hlt : i < prev.length
 ·simp only [show (i : Int) < (prev.length : Int) by omega, decide_true, sCond_t]
  have hx : prev[i]? = some prev[i] := List.getElem?_eq_getElem hlt
  rw [sIxL rfl hlt, ldL (getT hx)]
  refine sameInts35 (hw _ (List.getElem_mem hlt)) _ _ _ _ ?_
  rintro _ rfl _
  by_cases he : prev[i] = l
  ·simp only [he, decide_true, sCond_t]
   refine hK _ ?_ hf
   rw [decide_eq_true (he ▸ List.getElem_mem hlt)]
  ·simp only [he, decide_false, sCond_f]
   refine hR _ _ _ _ _ _ _ (by omega) ⟨i + 1, rfl, rfl, by omega, rfl, rfl, fun q => ?_⟩
   rw [List.take_add_one, hx] at q
   rcases List.mem_append.1 q with q | q
   ·exact htk q
   ·simp at q; exact he q.symm
 ·simp only [show ¬ (i : Int) < (prev.length : Int) by omega, decide_false, sCond_f]
  rw [F90.k8]
  rw [List.take_of_length_le (by omega)] at htk
  refine hK _ ?_ hf
  rw [decide_eq_false htk]
end Go.Ev
namespace Go.Ev
open Go Go.Proofs
variable {B : Nat}
theorem sSliceF {n i : Nat} {l : List AV} {op : AV → OP} (hn : 1 ≤ n) (hi : i ≤ n) : sSlice 1 (.lst 1 n l) none (some (I (i : Int))) none op = op (.lst 1 i (l.take i)) := by
 show (bif Nat.beq 1 1 && Nat.ble 1 n then (match bnd (some (I (i : Int))) n n with | none => Out.no 17 | some h => match bnd none h 0 with | none => .no 17 | some q => op (.lst 1 (h - q) ((l.drop (q * 1)).take ((h - q) * 1)))) else .no 17) = _
 rw [Nat.ble_eq_true_of_le hn]
 have : bnd (some (I (i : Int))) n n = some i := by
  show (bif Nat.ble i n then some i else none) = _
  rw [Nat.ble_eq_true_of_le hi]; rfl
 rw [this]
 show op (.lst 1 (i - 0) ((l.drop (0 * 1)).take ((i - 0) * 1))) = _
 simp
theorem sysErr27 {cells : Int} {lines : List (List Int)} (hw : ∀ q ∈ lines, q.length ≤ 1000000) : Pure Tryz.prog B 19 [.agg [I cells, encT lines]] (· = I (sysErr cells lines)) := by
 refine pure_hp fun h nx K H0 hK => by_body tbl_ok dreg 10000000 fun hf => ?_
 rw [F19.go]
 refine H0.box (l := [I cells, encT lines]) rfl fun bx h1 nx1 H1 => ?_
 rw [sFx, H1.load (k := 0) (i := 0) rfl rfl]
 have ret : ∀ v : Int, v = sysErr cells lines → K (I v) h1 nx1 = .ok True := fun v hv => by rw [hv]; exact hK _ _ _ _ _ H1 (frz_fixd rfl) rfl
 by_cases hc : cells < 1 ∨ 256 < cells
 ·have hv : (3 : Int) = sysErr cells lines := by rw [sysErr, if_pos hc]
  by_cases c1 : cells < 1
  ·simp only [sLss, c1, decide_true, sG_tf, sPick_t, sCond_t]
   exact ret 3 hv
  ·simp only [sLss, c1, decide_false, sG_ff]
   rw [sFx, H1.load (k := 0) (i := 0) rfl rfl]
   simp only [sGtr, show (256 : Int) < cells by omega, decide_true, sPick_f, sCond_t]
   exact ret 3 hv
 simp only [sLss, show ¬ cells < 1 by omega, decide_false, sG_ff]
 rw [sFx, H1.load (k := 0) (i := 0) rfl rfl]
 simp only [sGtr, show ¬ (256 : Int) < cells by omega, decide_false, sPick_f, sCond_f]
 rw [sFx, H1.load (k := 0) (i := 0 + 1) rfl rfl]
 simp (disch := omega) only [sAdd, sSub, sMul, sEql, sNeq, sLss, sLeq, sGtr, sGeq, sPick_t, sPick_f, sCond_t, sCond_f, sG_tt, sG_ff, sG_tf, sG_ft, sNot_b, sExt0, sExt1, sExt2, sPart0, sPart1, sPart2, sLen_lst, sLen_sl, sLen_nils, sSame_refl, decide_true, decide_false, Bool.not_true, Bool.not_false, sChk_t]
 by_cases hm : 128 < lines.length
 ·simp only [show (128 : Int) < (lines.length : Int) by omega, decide_true, sCond_t]
  exact ret 5 (by rw [sysErr, if_neg hc, if_pos hm])
 simp only [show ¬ (128 : Int) < (lines.length : Int) by omega, decide_false, sCond_f]
 have hs : sysErr cells lines = linesErr cells [] lines := by rw [sysErr, if_neg hc, if_neg hm]
 refine F19.L3 (fun m z3 h' nx' => ∃ i : Nat, z3 = I i ∧ lines.length - i = m ∧ i ≤ lines.length ∧ h' = h1 ∧ nx' = nx1 ∧ sysErr cells lines = linesErr cells (lines.take i) (lines.drop i)) (m := lines.length) (by omega) ⟨0, rfl, rfl, by omega, rfl, rfl, by simpa using hs⟩ ?_
 rintro m z2 z3 z4 z5 z8 z9 z10 z11 z12 z13 h1 nx1 R ⟨i, rfl, rfl, hi, rfl, rfl, he⟩ hR
 rw [sFx, H1.load (k := 0) (i := 0 + 1) rfl rfl]
 simp (disch := omega) only [sAdd, sSub, sMul, sEql, sNeq, sLss, sLeq, sGtr, sGeq, sPick_t, sPick_f, sCond_t, sCond_f, sG_tt, sG_ff, sG_tf, sG_ft, sNot_b, sExt0, sExt1, sExt2, sPart0, sPart1, sPart2, sLen_lst, sLen_sl, sLen_nils, sSame_refl, decide_true, decide_false, Bool.not_true, Bool.not_false, sChk_t]
 by_cases hlt : i < lines.length
 case neg =>
  simp only [show ¬ (i : Int) < (lines.length : Int) by omega, decide_false, sCond_f]
  rw [F19.k20]
  exact ret 0 (by rw [he, List.drop_of_length_le (by omega)]; rfl)
 simp only [show (i : Int) < (lines.length : Int) by omega, decide_true, sCond_t]
 obtain ⟨l, hx⟩ : ∃ l, lines[i]? = some l := ⟨_, List.getElem?_eq_getElem hlt⟩
 have hmem := List.mem_of_getElem? hx
 have hd : lines.drop i = l :: lines.drop (i + 1) := by
  rw [List.drop_eq_getElem_cons hlt]
  rw [List.getElem?_eq_getElem hlt] at hx
  rw [Option.some.inj hx]
 have htake : lines.take (i + 1) = lines.take i ++ [l] := by rw [List.take_add_one, hx]; rfl
 rw [sFx, H1.load (k := 0) (i := 0 + 1) rfl rfl, sIxL rfl hlt, ldL (getT hx)]
 simp (disch := omega) only [sAdd, sSub, sMul, sEql, sNeq, sLss, sLeq, sGtr, sGeq, sPick_t, sPick_f, sCond_t, sCond_f, sG_tt, sG_ff, sG_tf, sG_ft, sNot_b, sExt0, sExt1, sExt2, sPart0, sPart1, sPart2, sLen_lst, sLen_sl, sLen_nils, sSame_refl, decide_true, decide_false, Bool.not_true, Bool.not_false, sChk_t]
 have hlw := hw l hmem
 have hline : lineErr cells (lines.take i) l ≠ 0 → sysErr cells lines = lineErr cells (lines.take i) l := fun h => by rw [he, hd, linesErr, if_pos h]
 by_cases h0 : l.length = 0
 ·simp only [show (l.length : Int) = 0 by omega, decide_true, sCond_t]
  have hl0 : l = [] := List.eq_nil_of_length_eq_zero h0
  have e12 : lineErr cells (lines.take i) l = 12 := by rw [lineErr, if_pos hl0]
  exact ret 12 (by rw [hline (by rw [e12]; decide), e12])
 simp only [show ¬ (l.length : Int) = 0 by omega, decide_false, sCond_f]
 have hl0 : l ≠ [] := fun q => h0 (by rw [q]; rfl)
 have hcell : cellsErr cells none l ≠ 0 → sysErr cells lines = cellsErr cells none l := fun h => by
  have e : lineErr cells (lines.take i) l = cellsErr cells none l := by rw [lineErr, if_neg hl0, if_pos h]
  rw [hline (by rw [e]; exact h), e]
 refine F19.L10 (fun m z5 h' nx' => ∃ k : Nat, z5 = I k ∧ l.length - k = m ∧ k ≤ l.length ∧ h' = h1 ∧ nx' = nx1 ∧ cellsErr cells none l = cellsErr cells (pv l k) (l.drop k)) (m := l.length) (by omega) ⟨0, rfl, rfl, by omega, rfl, rfl, rfl⟩ ?_
 rintro m y2 y5 y10 y11 y12 h1 nx1 R2 ⟨k, rfl, rfl, hk, rfl, rfl, hce⟩ hR2
 simp (disch := omega) only [sAdd, sSub, sMul, sEql, sNeq, sLss, sLeq, sGtr, sGeq, sPick_t, sPick_f, sCond_t, sCond_f, sG_tt, sG_ff, sG_tf, sG_ft, sNot_b, sExt0, sExt1, sExt2, sPart0, sPart1, sPart2, sLen_lst, sLen_sl, sLen_nils, sSame_refl, decide_true, decide_false, Bool.not_true, Bool.not_false, sChk_t]
 by_cases hkt : k < l.length
 case neg =>
  simp only [show ¬ (k : Int) < (l.length : Int) by omega, decide_false, sCond_f]
  have hz : cellsErr cells none l = 0 := by rw [hce, List.drop_of_length_le (by omega)]; rfl
  rw [F19.k18, sFx, H1.load (k := 0) (i := 0 + 1) rfl rfl, sSliceF (by omega) (by omega)]
  have ep : AV.lst 1 i ((lines.map encI).take i) = encT (lines.take i) := by
   rw [← List.map_take]
   simp [encT, Nat.min_eq_left (Nat.le_of_lt hlt)]
  rw [ep]
  refine hasLine84 (by rw [List.length_take]; omega) (fun q hq => Nat.le_trans (hw q (List.mem_of_mem_take hq)) (by omega)) _ _ _ _ ?_
  rintro _ rfl _
  by_cases hin : l ∈ lines.take i
  ·simp only [hin, decide_true, sCond_t]
   have e9 : lineErr cells (lines.take i) l = 9 := by rw [lineErr, if_neg hl0, if_neg (by rw [hz]; simp), if_pos hin]
   exact ret 9 (by rw [hline (by rw [e9]; decide), e9])
  ·simp only [hin, decide_false, sCond_f]
   rw [F19.k19, sAdd (by omega)]
   have e0 : lineErr cells (lines.take i) l = 0 := by rw [lineErr, if_neg hl0, if_neg (by rw [hz]; simp), if_neg hin]
   refine hR _ _ _ _ _ _ _ _ _ _ _ _ _ (by omega) ⟨i + 1, rfl, rfl, by omega, rfl, rfl, ?_⟩
   rw [he, hd, linesErr, if_neg (by rw [e0]; simp), htake]
 simp only [show (k : Int) < (l.length : Int) by omega, decide_true, sCond_t]
 have hxk : l[k]? = some l[k] := List.getElem?_eq_getElem hkt
 have hdk : l.drop k = l[k] :: l.drop (k + 1) := List.drop_eq_getElem_cons hkt
 rw [sIxL rfl hkt, ldL (getI hxk)]
 by_cases hbad : l[k] < 0 ∨ cells ≤ l[k]
 ·have e10 : cellsErr cells none l = 10 := by rw [hce, hdk, cellsErr, if_pos hbad]
  have fin := ret 10 (by rw [hcell (by rw [e10]; decide), e10])
  by_cases hneg : l[k] < 0
  ·simp only [sLss, hneg, decide_true, sG_tf, sPick_t, sCond_t]
   exact fin
  ·simp only [sLss, hneg, decide_false, sG_ff]
   rw [sIxL rfl hkt, ldL (getI hxk), sFx, H1.load (k := 0) (i := 0) rfl rfl]
   simp only [sGeq, show cells ≤ l[k] by omega, decide_true, sPick_f, sCond_t]
   exact fin
 simp only [sLss, show ¬ l[k] < 0 by omega, decide_false, sG_ff]
 rw [sIxL rfl hkt, ldL (getI hxk), sFx, H1.load (k := 0) (i := 0) rfl rfl]
 simp only [sGeq, show ¬ cells ≤ l[k] by omega, decide_false, sPick_f, sCond_f]
 rw [F19.k16]
 have next : ∀ z12, (pv l k).any (fun q => decide (l[k] ≤ q)) = false → R2 (F19.fr (.agg [I cells, encT lines]) (.ptr bx 0) y2 (I i) (encI l) (I ((k : Int) + 1)) (.bool false) (.bool false) (.bool true) (.bool false) (.bool true) (.bool false) z12 z13) h1 nx1 = .ok True := fun z12 hany => by
  refine hR2 _ _ _ _ _ _ _ _ (by omega) ⟨k + 1, rfl, rfl, by omega, rfl, rfl, ?_⟩
  rw [hce, hdk, cellsErr, if_neg hbad, hany]
  simp [pv_succ hkt]
 by_cases hk0 : 0 < k
 ·obtain ⟨k, rfl⟩ : ∃ j, k = j + 1 := ⟨k - 1, by omega⟩
  have hk1 : k < l.length := by omega
  have hxk1 : l[k]? = some l[k] := List.getElem?_eq_getElem hk1
  simp only [sGtr, show (0 : Int) < ((k + 1 : Nat) : Int) by omega, decide_true, sG_tt]
  rw [sIxL rfl hkt, ldL (getI hxk), sSub (by omega), sIxL (i := k) (by omega) hk1, ldL (getI hxk1)]
  rw [pv_succ hk1] at next
  by_cases hle : l[k + 1] ≤ l[k]
  ·simp only [sLeq, hle, decide_true, sPick_t, sCond_t]
   have e11 : cellsErr cells none l = 11 := by rw [hce, hdk, cellsErr, if_neg hbad, pv_succ hk1, if_pos (by simp [hle])]
   exact ret 11 (by rw [hcell (by rw [e11]; decide), e11])
  ·simp only [sLeq, hle, decide_false, sPick_t, sCond_f]
   rw [F19.k17, sAdd (by omega)]
   exact next _ (by simp [hle])
 ·obtain rfl : k = 0 := by omega
  simp only [sGtr, show ¬ (0 : Int) < ((0 : Nat) : Int) by omega, decide_false, sG_ft, sPick_f, sCond_f]
  rw [F19.k17, sAdd (by omega)]
  exact next _ (by simp [pv])
end Go.Ev
namespace Go.Ev
open Go Go.Proofs
variable {B : Nat}
theorem own_plain {P : Program} {f : Nat} {p id : Pa} {h0 h : T Blk} {nx : Pa} {L : List Ob} {k : Nat} {l : List Int} {K : Kw Prop} {Q : AV → Prop} (H : Hp h0 h nx L) (hk : L[k]? = some (.arr id (l.map I))) (hq : ∀ B, Pure P B f [encI l] Q) (hpl : ∀ v, Q v → Plain v)
  (hK : ∀ v, Q v → K v h nx = .ok True) : (CS P B).fn f p [.sl id 0 l.length (some l.length) 1] h nx K = .ok True :=
 CS_plain (.cons (HasArr.frz (H.own _ (List.mem_of_getElem? hk)) (T.get_e _ id) (Nat.le_refl _) (by simp) fun v hv => by obtain ⟨x, _, rfl⟩ := List.mem_map.1 hv; rfl) .nil) (by
  have := fixd_encI l
  simp only [nns, fixd.nn this, Bool.and_self]) hq hpl fun v hv _ => hK v hv
theorem contF131 {h : T Blk} {nx : Pa} {l : List Int} {g : Nat} {p q : Pa} {cap : List AV} {pr : Int → Bool} {K : Kw Prop} (hl : l.length ≤ 1000000) (hcl : ∀ x ∈ l, ∀ K : Kw Prop, K (.bool (pr x)) h nx = .ok True → (CS Tryz.prog B).fn g q (I x :: cap) h nx K = .ok True)
  (hK : K (.bool (l.any pr)) h nx = .ok True) : (CS Tryz.prog B).fn 173 p [encI l, .fn g q cap] h nx K = .ok True := by
 refine CS_fn_mono (p := .of 173) (K := K) (by_body tbl_ok dreg 9 fun hf => ?_) fun _ _ _ _ q => q
 rw [F173.go]
 refine CS_fn_mono (p := .of 184) (K := fun v1 h2 n3 => sBin .geq .int v1 (I 0) fun v4 => K v4 h2 n3) (by_body tbl_ok dreg 10000000 fun hf => ?_) fun _ _ _ _ q => q
 rw [F184.go]
 simp (disch := omega) only [sAdd, sSub, sMul, sEql, sNeq, sLss, sLeq, sGtr, sGeq, sPick_t, sPick_f, sCond_t, sCond_f, sG_tt, sG_ff, sG_tf, sG_ft, sNot_b, sExt0, sExt1, sExt2, sPart0, sPart1, sPart2, sLen_lst, sLen_sl, sLen_nils, sSame_refl, decide_true, decide_false, Bool.not_true, Bool.not_false, sChk_t]
 refine F184.L1 (fun m z5 h' nx' => ∃ i : Nat, z5 = I i ∧ l.length - i = m ∧ i ≤ l.length ∧ h' = h ∧ nx' = nx ∧ (l.take i).any pr = false) (m := l.length) (by omega) ⟨0, rfl, rfl, by omega, rfl, rfl, by simp⟩ ?_
 rintro m z2 z3 z5 z6 z7 _ _ R ⟨i, rfl, rfl, hi, rfl, rfl, htk⟩ hR
 simp (disch := omega) only [sAdd, sSub, sMul, sEql, sNeq, sLss, sLeq, sGtr, sGeq, sPick_t, sPick_f, sCond_t, sCond_f, sG_tt, sG_ff, sG_tf, sG_ft, sNot_b, sExt0, sExt1, sExt2, sPart0, sPart1, sPart2, sLen_lst, sLen_sl, sLen_nils, sSame_refl, decide_true, decide_false, Bool.not_true, Bool.not_false, sChk_t]
 by_cases hlt : i < l.length
 ·simp only [show (i : Int) < (l.length : Int) by omega, decide_true, sCond_t]
  have hx : l[i]? = some l[i] := List.getElem?_eq_getElem hlt
  rw [sIxL rfl hlt, ldL (getI hx), sCall_fn]
  refine hcl _ (List.getElem_mem hlt) _ ?_
  cases he : pr l[i] with
  | true =>
   simp only [sCond_t, sGeq, show (0 : Int) ≤ (i : Int) by omega, decide_true]
   rw [List.any_eq_true.2 ⟨_, List.getElem_mem hlt, he⟩] at hK
   exact hK
  | false =>
   simp only [sCond_f]
   refine hR _ _ _ _ _ _ _ _ (by omega) ⟨i + 1, rfl, rfl, by omega, rfl, rfl, ?_⟩
   rw [List.take_add_one, hx, List.any_append, htk]
   simp [he]
 ·simp only [show ¬ (i : Int) < (l.length : Int) by omega, decide_false, sCond_f]
  rw [F184.k8]
  rw [List.take_of_length_le (by omega)] at htk
  rw [htk] at hK
  simp only [sGeq, show ¬ (0 : Int) ≤ -1 by omega, decide_false]
  exact hK
theorem from122 {a b : Int} {l : List Int} (hl : l.length ≤ 1000000) : Pure Tryz.prog B 87 [I a, I b, encI l] (· = I (if l.any (fun x => decide (x < a) || decide (b < x)) then 3 else 0)) := by
 refine pure_hp fun h nx K H0 hK => by_body tbl_ok dreg 1000 fun hf => ?_
 rw [F87.go]
 refine H0.box (l := [I a]) rfl fun x1 h1 nx1 H1 => ?_
 refine H1.box (l := [I b]) rfl fun x2 h2 nx2 H2 => ?_
 refine contF131 (pr := fun x => decide (x < a) || decide (b < x)) hl (fun x _ K hK => ?_) ?_
 ·refine CS_fn_mono (p := .of 174) (K := K) (by_body tbl_ok dreg 9 fun hf => ?_) fun _ _ _ _ q => q
  show callFn tbl 9 _ (Pa.of 174) [I x, .ptr x1 0, .ptr x2 0] _ _ _ = _
  rw [F174.go, H2.load (k := 1) (i := 0) rfl rfl]
  by_cases c : x < a
  ·simp only [sLss, c, decide_true, sG_tf, sPick_t]
   simpa [c] using hK
  ·simp only [sLss, c, decide_false, sG_ff]
   rw [H2.load (k := 0) (i := 0) rfl rfl]
   simp only [sGtr, sPick_f]
   simpa [c] using hK
 ·refine when123 _ _ _ _ _ _ ?_
  rintro _ rfl _
  exact hK _ _ _ _ _ H2 (frz_fixd rfl) rfl
theorem line124 {cells : Int} {lines : List (List Int)} {i : Nat} {l : List Int} (hi : lines[i]? = some l) (hn : lines.length ≤ 1000000) (hw : ∀ q ∈ lines, q.length ≤ 1000000) : Pure Tryz.prog B 89 [.agg [I cells, encT lines], I i] (· = I (lineErr cells (lines.take i) l)) := by
 refine pure_hp fun h nx K H0 hK => by_body tbl_ok dreg 10000000 fun hf => ?_
 have hlt : i < lines.length := (List.getElem?_eq_some_iff.1 hi).1
 have hlw := hw l (List.mem_of_getElem? hi)
 rw [F89.go]
 refine H0.box (l := [I cells, encT lines]) rfl fun bx h1 nx1 H1 => ?_
 rw [sFx, H1.load (k := 0) (i := 0 + 1) rfl rfl, sIxL rfl hlt, ldL (getT hi)]
 refine H1.alloc fun x h2 nx2 H2 => ?_
 refine H2.store (k := 0) rfl (by decide) rfl fun h3 H3 => ?_
 rw [H3.load (k := 0) (i := 0) rfl rfl]
 simp (disch := omega) only [sAdd, sSub, sMul, sEql, sNeq, sLss, sLeq, sGtr, sGeq, sPick_t, sPick_f, sCond_t, sCond_f, sG_tt, sG_ff, sG_tf, sG_ft, sNot_b, sExt0, sExt1, sExt2, sPart0, sPart1, sPart2, sLen_lst, sLen_sl, sLen_nils, sSame_refl, decide_true, decide_false, Bool.not_true, Bool.not_false, sChk_t]
 have ret : ∀ (v : Int) h' nx' L, v = lineErr cells (lines.take i) l → Hp h h' nx' L → K (I v) h' nx' = .ok True := fun v h' nx' L hv H' => by rw [hv]; exact hK _ _ _ _ _ H' (frz_fixd rfl) rfl
 by_cases h0 : l.length = 0
 ·simp only [show (l.length : Int) = 0 by omega, decide_true, sCond_t]
  have hl0 : l = [] := List.eq_nil_of_length_eq_zero h0
  exact ret 12 _ _ _ (by rw [lineErr, if_pos hl0]) H3
 simp only [show ¬ (l.length : Int) = 0 by omega, decide_false, sCond_f]
 have hl0 : l ≠ [] := fun q => h0 (by rw [q]; rfl)
 have hcell : cellsErr cells none l ≠ 0 → cellsErr cells none l = lineErr cells (lines.take i) l := fun h => by rw [lineErr, if_neg hl0, if_pos h]
 rw [H3.load (k := 0) (i := 0) rfl rfl]
 simp (disch := omega) only [sAdd, sSub, sMul, sEql, sNeq, sLss, sLeq, sGtr, sGeq, sPick_t, sPick_f, sCond_t, sCond_f, sG_tt, sG_ff, sG_tf, sG_ft, sNot_b, sExt0, sExt1, sExt2, sPart0, sPart1, sPart2, sLen_lst, sLen_sl, sLen_nils, sSame_refl, decide_true, decide_false, Bool.not_true, Bool.not_false, sChk_t]
 refine F89.L2 (fun m z11 h' nx' => ∃ k : Nat, z11 = I k ∧ l.length - k = m ∧ k ≤ l.length ∧ Hp h h' nx' [.arr x [encI l], .arr bx [I cells, encT lines]] ∧ cellsErr cells none l = cellsErr cells (pv l k) (l.drop k)) (m := l.length) (by omega) ⟨0, rfl, rfl, by omega, H3, rfl⟩ ?_
 rintro m z3 z5 z6 z7 z11 z12 z13 h1 nx1 R ⟨k, rfl, rfl, hk, H1, hce⟩ hR
 simp (disch := omega) only [sAdd, sSub, sMul, sEql, sNeq, sLss, sLeq, sGtr, sGeq, sPick_t, sPick_f, sCond_t, sCond_f, sG_tt, sG_ff, sG_tf, sG_ft, sNot_b, sExt0, sExt1, sExt2, sPart0, sPart1, sPart2, sLen_lst, sLen_sl, sLen_nils, sSame_refl, decide_true, decide_false, Bool.not_true, Bool.not_false, sChk_t]
 by_cases hkt : k < l.length
 case neg =>
  simp only [show ¬ (k : Int) < (l.length : Int) by omega, decide_false, sCond_f]
  have hz : cellsErr cells none l = 0 := by rw [hce, List.drop_of_length_le (by omega)]; rfl
  rw [F89.k9, sFx, H1.load (k := 1) (i := 0 + 1) rfl rfl, sSliceF (by omega) (by omega)]
  have ep : AV.lst 1 i ((lines.map encI).take i) = encT (lines.take i) := by
   rw [← List.map_take]
   simp [encT, Nat.min_eq_left (Nat.le_of_lt hlt)]
  rw [ep]
  refine contains148 H1 (k := 0) rfl (by rw [List.length_take]; omega) (fun q hq => hw q (List.mem_of_mem_take hq)) ?_
  refine when123 _ _ _ _ _ _ ?_
  rintro _ rfl _
  refine ret _ _ _ _ ?_ H1
  have e9 : lineErr cells (lines.take i) l = if l ∈ lines.take i then 9 else 0 := by rw [lineErr, if_neg hl0, if_neg (by rw [hz]; simp)]
  rw [e9]
  by_cases hin : l ∈ lines.take i <;> simp [hin]
 simp only [show (k : Int) < (l.length : Int) by omega, decide_true, sCond_t]
 have hxk : l[k]? = some l[k] := List.getElem?_eq_getElem hkt
 have hdk : l.drop k = l[k] :: l.drop (k + 1) := List.drop_eq_getElem_cons hkt
 rw [sIxL rfl hkt, ldL (getI hxk)]
 have tail : ∀ (b1 b2 : Bool) (z : AV) (z' : AV) (Z : AV → T Blk → Pa → Out Prop), b1 = (decide (l[k] < 0 ∨ cells ≤ l[k])) → b2 = (pv l k).any (fun q => decide (l[k] ≤ q)) →
   (∀ (e : Int) h' nx', e = (if l[k] < 0 ∨ cells ≤ l[k] then 10 else if (pv l k).any (fun q => decide (l[k] ≤ q)) then 11 else 0) → Hp h h' nx' [.arr x [encI l], .arr bx [I cells, encT lines]] → Z (I e) h' nx' = .ok True) →
   (CS Tryz.prog B).fn 88 (.of 88) [.bool b2, I 11] h1 nx1 (fun v22 h23 n24 => sBslice 1 2 [(I 0)] [(0, 1, I (if b1 then 10 else 0)), (1, 1, v22)] h23 n24 fun v25 h26 n27 => (CS Tryz.prog B).fn 86 (.of 86) [v25] h26 n27 Z) = .ok True := by
  intro b1 b2 z z' Z e1 e2 hZ
  refine when123 _ _ _ _ _ _ ?_
  rintro _ rfl _
  refine H1.bslice (l := [I (if b1 then 10 else 0), I (if b2 then 11 else 0)]) rfl fun id h4 nx4 H4 => ?_
  refine own_plain (l := [if b1 then 10 else 0, if b2 then 11 else 0]) H4 (k := 0) rfl (fun B => first121 (by simp)) (fun v hv => by rw [hv]; exact .int _ _) ?_
  rintro _ rfl
  refine hZ _ _ _ ?_ H4.drop
  subst e1 e2
  by_cases c1 : l[k] < 0 ∨ cells ≤ l[k]
  ·simp [c1, firstE]
  ·cases c2 : (pv l k).any (fun q => decide (l[k] ≤ q)) <;> simp [c1, firstE]
 have fin : ∀ (e : Int) h' nx', e = (if l[k] < 0 ∨ cells ≤ l[k] then 10 else if (pv l k).any (fun q => decide (l[k] ≤ q)) then 11 else 0) → Hp h h' nx' [.arr x [encI l], .arr bx [I cells, encT lines]] →
   (sBin .neq .int (I e) (I 0) fun v31 => sCond v31 (K (I e) h' nx') (R (F89.fr (.agg [I cells, encT lines]) (I i) (.ptr bx 0) z3 (.ptr x 0) (I k) (I l[k]) (I e) (.bool false) (encI l) (I l.length) (I ((k : Int) + 1)) (.bool true) v31) h' nx')) = .ok True := by
  intro e h' nx' he H'
  have hstep : cellsErr cells none l = if e ≠ 0 then e else cellsErr cells (some l[k]) (l.drop (k + 1)) := by
   rw [hce, hdk, cellsErr, he]
   by_cases c1 : l[k] < 0 ∨ cells ≤ l[k]
   ·simp [c1]
   ·cases c2 : (pv l k).any (fun q => decide (l[k] ≤ q)) <;> simp [c1]
  simp (disch := omega) only [sAdd, sSub, sMul, sEql, sNeq, sLss, sLeq, sGtr, sGeq, sPick_t, sPick_f, sCond_t, sCond_f, sG_tt, sG_ff, sG_tf, sG_ft, sNot_b, sExt0, sExt1, sExt2, sPart0, sPart1, sPart2, sLen_lst, sLen_sl, sLen_nils, sSame_refl, decide_true, decide_false, Bool.not_true, Bool.not_false, sChk_t]
  by_cases c : e = 0
  ·simp only [c, decide_true, Bool.not_true, sCond_f]
   refine hR _ _ _ _ _ _ _ _ _ _ (by omega) ⟨k + 1, rfl, rfl, by omega, H', ?_⟩
   rw [hstep, if_neg (by simp [c]), pv_succ hkt]
  ·simp only [c, decide_false, Bool.not_false, sCond_t]
   rw [if_pos c] at hstep
   exact ret _ _ _ _ (by rw [← hcell (by rw [hstep]; exact c), hstep]) H'
 have mid : ∀ b1 : Bool, b1 = decide (l[k] < 0 ∨ cells ≤ l[k]) →
   (CS Tryz.prog B).fn 88 (.of 88) [.bool b1, I 10] h1 nx1 (fun v10 h11 n12 =>
    sG (.bool (decide (0 < (k : Int)))) true (fun k => sLoad (.ptr x 0) h11 k) fun v14 => sG (.bool (decide (0 < (k : Int)))) true (fun q => q (I (k : Int))) fun v15 => sG (.bool (decide (0 < (k : Int)))) true (fun k => sBin .sub .int v15 (I 1) k) fun v16 => sG (.bool (decide (0 < (k : Int)))) true (fun k => sIaddr 1 v14 v16 k) fun v17 => sG (.bool (decide (0 < (k : Int)))) true (fun k => sLoad v17 h11 k) fun v18 =>
    sG (.bool (decide (0 < (k : Int)))) true (fun q => q (I l[k])) fun v19 => sG (.bool (decide (0 < (k : Int)))) true (fun k => sBin .geq .int v18 v19 k) fun v20 => sPick (.bool (decide (0 < (k : Int)))) v20 (.bool false) fun v21 =>
    (CS Tryz.prog B).fn 88 (.of 88) [v21, I 11] h11 n12 fun v22 h23 n24 => sBslice 1 2 [(I 0)] [(0, 1, v10), (1, 1, v22)] h23 n24 fun v25 h26 n27 => (CS Tryz.prog B).fn 86 (.of 86) [v25] h26 n27 fun v28 h29 n30 =>
    sBin .neq .int v28 (I 0) fun v31 => sCond v31 (K v28 h29 n30) (R (F89.fr (.agg [I cells, encT lines]) (I i) (.ptr bx 0) z3 (.ptr x 0) (I k) (I l[k]) v28 (.bool false) (encI l) (I l.length) (I ((k : Int) + 1)) (.bool true) v31) h29 n30)) = .ok True := by
  intro b1 e1
  refine when123 _ _ _ _ _ _ ?_
  rintro _ rfl _
  by_cases ck : 0 < k
  ·obtain ⟨k, rfl⟩ : ∃ j, k = j + 1 := ⟨k - 1, by omega⟩
   have hk1 : k < l.length := by omega
   have hxk1 : l[k]? = some l[k] := List.getElem?_eq_getElem hk1
   simp only [show (0 : Int) < ((k + 1 : Nat) : Int) by omega, decide_true, sG_tt, sPick_t]
   rw [H1.load (k := 0) (i := 0) rfl rfl, sSub (by omega), sIxL (i := k) (by omega) hk1, ldL (getI hxk1)]
   simp only [sGeq]
   exact tail _ _ .undef .undef _ e1 (by rw [pv_succ hk1]; rfl) fin
  ·obtain rfl : k = 0 := by omega
   simp only [show ¬ (0 : Int) < ((0 : Nat) : Int) by omega, decide_false, sG_ft, sPick_f]
   exact tail _ _ .undef .undef _ e1 rfl fin
 by_cases c : l[k] < 0
 ·simp only [sLss, c, decide_true, sG_tf, sPick_t]
  exact mid true (by simp [c])
 ·simp only [sLss, c, decide_false, sG_ff, sFx]
  rw [H1.load (k := 1) (i := 0) rfl rfl]
  simp only [sGeq, sPick_f]
  exact mid _ (by simp [c])
theorem sys81 {cells : Int} {lines : List (List Int)} (hw : ∀ q ∈ lines, q.length ≤ 1000000) : Pure Tryz.prog B 18 [.agg [I cells, encT lines]] (· = I (sysErr cells lines)) := by
 refine pure_hp fun h nx K H0 hK => by_body tbl_ok dreg 10000000 fun hf => ?_
 rw [F18.go]
 refine H0.box (l := [I cells, encT lines]) rfl fun bx h1 nx1 H1 => ?_
 rw [sFx, H1.load (k := 0) (i := 0) rfl rfl, sFx, H1.load (k := 0) (i := 0 + 1) rfl rfl]
 simp only [sLen_lst, sGtr]
 refine H1.bslice (l := [I cells]) rfl fun id h2 nx2 H2 => ?_
 simp only [sSame_refl, sLen_lst]
 rw [H2.load (k := 1) (i := 0 + 1) rfl rfl]
 simp only [sSame_refl, sFx]
 refine CS_plain (args' := [I 1, I 256, encI [cells]]) (.cons (.int _ _) (.cons (.int _ _) (.cons (HasArr.frz (H2.own (.arr id [I cells]) (by simp)) (T.get_e _ id) (Nat.le_refl _) rfl (fun v hv => by simp at hv; subst hv; rfl)) .nil))) rfl (fun B => from122 (l := [cells]) (by simp)) (fun v hv => by rw [hv]; exact .int _ _) ?_
 rintro _ rfl _
 rw [H2.load (k := 1) (i := 0 + 1) rfl rfl]
 simp only [sSame_refl, sLen_lst]
 refine when123 _ _ _ _ _ _ ?_
 rintro _ rfl _
 refine H2.bslice (l := [I (if [cells].any (fun x => decide (x < 1) || decide (256 < x)) then 3 else 0), I (if decide (128 < (lines.length : Int)) then 5 else 0)]) rfl fun id3 h3 nx3 H3 => ?_
 refine own_plain (l := [if [cells].any (fun x => decide (x < 1) || decide (256 < x)) then 3 else 0, if decide (128 < (lines.length : Int)) then 5 else 0]) H3 (k := 0) rfl (fun B => first121 (by simp)) (fun v hv => by rw [hv]; exact .int _ _) ?_
 rintro _ rfl
 have ret : ∀ (v : Int) h' nx' L, v = sysErr cells lines → Hp h h' nx' L → K (I v) h' nx' = .ok True := fun v h' nx' L hv H' => by rw [hv]; exact hK _ _ _ _ _ H' (frz_fixd rfl) rfl
 have ef : firstE [if [cells].any (fun x => decide (x < 1) || decide (256 < x)) then 3 else 0, if decide (128 < (lines.length : Int)) then 5 else 0] = if cells < 1 ∨ 256 < cells then 3 else if 128 < lines.length then 5 else 0 := by
  by_cases c : cells < 1 ∨ 256 < cells
  ·simp [firstE, c]
  ·by_cases c2 : 128 < lines.length
   ·have : (128 : Int) < (lines.length : Int) := by omega
    simp [firstE, c, c2, this]
   ·have : ¬ (128 : Int) < (lines.length : Int) := by omega
    simp [firstE, c, c2, this]
 rw [ef]
 simp only [sNeq]
 by_cases hc : cells < 1 ∨ 256 < cells
 ·simp only [hc, if_true]
  simp only [show ¬ (3 : Int) = 0 by omega, decide_false, Bool.not_false, sCond_t]
  exact ret 3 _ _ _ (by rw [sysErr, if_pos hc]) H3
 simp only [hc, if_false]
 by_cases hm : 128 < lines.length
 ·simp only [hm, if_true]
  simp only [show ¬ (5 : Int) = 0 by omega, decide_false, Bool.not_false, sCond_t]
  exact ret 5 _ _ _ (by rw [sysErr, if_neg hc, if_pos hm]) H3
 simp only [hm, if_false, decide_true, Bool.not_true, sCond_f]
 rw [H3.load (k := 2) (i := 0 + 1) rfl rfl]
 simp only [sLen_lst]
 have hs : sysErr cells lines = linesErr cells [] lines := by rw [sysErr, if_neg hc, if_neg hm]
 refine F18.L2 (fun m z8 h' nx' => ∃ i : Nat, z8 = I i ∧ lines.length - i = m ∧ i ≤ lines.length ∧ Hp h h' nx' [.arr bx [I cells, encT lines]] ∧ sysErr cells lines = linesErr cells (lines.take i) (lines.drop i)) (m := lines.length) (by omega) ⟨0, rfl, rfl, by omega, H3.drop.drop, by simpa using hs⟩ ?_
 rintro m z2 z4 z5 z8 z9 z10 h4 nx4 R ⟨i, rfl, rfl, hi, H4, he⟩ hR
 simp (disch := omega) only [sAdd, sSub, sMul, sEql, sNeq, sLss, sLeq, sGtr, sGeq, sPick_t, sPick_f, sCond_t, sCond_f, sG_tt, sG_ff, sG_tf, sG_ft, sNot_b, sExt0, sExt1, sExt2, sPart0, sPart1, sPart2, sLen_lst, sLen_sl, sLen_nils, sSame_refl, decide_true, decide_false, Bool.not_true, Bool.not_false, sChk_t]
 by_cases hlt : i < lines.length
 case neg =>
  simp only [show ¬ (i : Int) < (lines.length : Int) by omega, decide_false, sCond_f]
  rw [F18.k9]
  exact ret 0 _ _ _ (by rw [he, List.drop_of_length_le (by omega)]; rfl) H4
 simp only [show (i : Int) < (lines.length : Int) by omega, decide_true, sCond_t]
 obtain ⟨l, hx⟩ : ∃ l, lines[i]? = some l := ⟨_, List.getElem?_eq_getElem hlt⟩
 have hd : lines.drop i = l :: lines.drop (i + 1) := by
  rw [List.drop_eq_getElem_cons hlt]
  rw [List.getElem?_eq_getElem hlt] at hx
  rw [Option.some.inj hx]
 have htake : lines.take (i + 1) = lines.take i ++ [l] := by rw [List.take_add_one, hx]; rfl
 rw [H4.loadN (k := 0) (n := 2) rfl rfl]
 refine line124 hx (by omega) hw _ _ _ _ ?_
 rintro _ rfl _
 simp only [sNeq]
 by_cases c : lineErr cells (lines.take i) l = 0
 ·simp only [c, decide_true, Bool.not_true, sCond_f]
  refine hR _ _ _ _ _ _ _ _ _ (by omega) ⟨i + 1, rfl, rfl, by omega, H4, ?_⟩
  rw [he, hd, linesErr, if_neg (by rw [c]; simp), htake]
 ·simp only [c, decide_false, Bool.not_false, sCond_t]
  exact ret _ _ _ _ (by rw [he, hd, linesErr, if_pos c]) H4
end Go.Ev
namespace Go.Ev
end Go.Ev
namespace Go.Ev
open Go Go.Proofs
variable {B : Nat}
end Go.Ev
namespace Go.Ev
open Go Go.Proofs
variable {B : Nat}
def edgeErr (V : Int) (seen : List (Int × Int)) (e : Int × Int) : Int := if ¬ (0 ≤ e.1 ∧ e.1 < V ∧ 0 ≤ e.2 ∧ e.2 < V) then 10 else if e.2 ≤ e.1 then 11 else if e ∈ seen then 9 else 0
def edgesErr (V : Int) : List (Int × Int) → List (Int × Int) → Int
 | _, [] => 0
 | seen, e :: es => if edgeErr V seen e ≠ 0 then edgeErr V seen e else edgesErr V (seen ++ [e]) es
def graphErr (V : Int) (E : List (Int × Int)) : Int := if V < 1 ∨ 16 < V then 3 else if 32 < E.length then 5 else edgesErr V [] E
theorem edges_step {V : Int} {E : List (Int × Int)} {i : Nat} (h : i < E.length) : edgesErr V (E.take i) (E.drop i) = if edgeErr V (E.take i) E[i] ≠ 0 then edgeErr V (E.take i) E[i] else edgesErr V (E.take (i + 1)) (E.drop (i + 1)) := by
 rw [List.drop_eq_getElem_cons h, edgesErr, List.take_add_one, List.getElem?_eq_getElem h]; rfl
theorem refGraph42 {V : Int} {E : List (Int × Int)} (hE : E.length ≤ 1000000) : Pure Tryz.prog B 21 [.agg [I V, encP E]] (· = I (graphErr V E)) := by
 refine pure_hp fun h nx K H0 hK => by_body tbl_ok dreg 10000000 fun hf => ?_
 rw [F21.go]
 refine H0.box (l := [I V, encP E]) rfl fun bx h1 nx1 H1 => ?_
 have ret : ∀ (v : Int) h' nx' L, v = graphErr V E → Hp h h' nx' L → K (I v) h' nx' = .ok True := fun v h' nx' L hv H' => by rw [hv]; exact hK _ _ _ _ _ H' (frz_fixd rfl) rfl
 rw [sFx, H1.load (k := 0) (i := 0) rfl rfl]
 simp only [sLss]
 by_cases c1 : V < 1
 ·simp only [c1, decide_true, sG_tf, sPick_t, sCond_t]
  exact ret 3 _ _ _ (by rw [graphErr, if_pos (.inl c1)]) H1
 simp only [c1, decide_false, sG_ff, sFx]
 rw [H1.load (k := 0) (i := 0) rfl rfl]
 simp only [sGtr, sPick_f]
 by_cases c2 : 16 < V
 ·simp only [c2, decide_true, sCond_t]
  exact ret 3 _ _ _ (by rw [graphErr, if_pos (.inr c2)]) H1
 simp only [c2, decide_false, sCond_f, sFx]
 rw [H1.load (k := 0) (i := 0 + 1) rfl rfl]
 simp only [sLen_lst, sGtr]
 by_cases c3 : 32 < E.length
 ·simp only [show (32 : Int) < (E.length : Int) by omega, decide_true, sCond_t]
  exact ret 5 _ _ _ (by rw [graphErr, if_neg (by omega), if_pos c3]) H1
 simp only [show ¬ (32 : Int) < (E.length : Int) by omega, decide_false, sCond_f]
 have hg : graphErr V E = edgesErr V (E.take 0) (E.drop 0) := by rw [graphErr, if_neg (by omega), if_neg c3]; rfl
 refine F21.L3 (fun m x3 h' nx' => ∃ (i : Nat) (X : List Ob), x3 = I i ∧ E.length - i = m ∧ i ≤ E.length ∧ graphErr V E = edgesErr V (E.take i) (E.drop i) ∧ Hp h h' nx' (.arr bx [I V, encP E] :: X)) (m := E.length) (by omega) ⟨0, _, rfl, rfl, by omega, hg, H1⟩ ?_
 rintro m z2 z3 z4 z5 z8 z9 z10 z11 z12 h2 nx2 R ⟨i, X, rfl, rfl, hi, hg, H2⟩ hR
 rw [sFx, H2.load (k := 0) (i := 0 + 1) rfl rfl]
 simp only [sLen_lst, sLss]
 by_cases hlt : i < E.length
 case neg =>
  simp only [show ¬ (i : Int) < (E.length : Int) by omega, decide_false, sCond_f]
  rw [F21.k19]
  exact ret 0 _ _ _ (by rw [hg, List.drop_of_length_le (by omega)]; rfl) H2
 simp only [show (i : Int) < (E.length : Int) by omega, decide_true, sCond_t]
 rw [edges_step hlt] at hg
 rw [sFx, H2.load (k := 0) (i := 0 + 1) rfl rfl, sIxL rfl hlt, flat2_cons hlt, sLoadNP]
 refine H2.alloc fun b3 h3 nx3 H3 => ?_
 refine H3.storeN (k := 0) (n := 2) rfl rfl rfl fun h4 H4 => ?_
 have bad : ∀ (v : Int), v ≠ 0 → edgeErr V (E.take i) E[i] = v → K (I v) h4 nx3 = .ok True := fun v h0 he => ret v _ _ _ (by rw [hg, he, if_pos h0]) H4
 have out : ¬ (0 ≤ E[i].1 ∧ E[i].1 < V ∧ 0 ≤ E[i].2 ∧ E[i].2 < V) → K (I 10) h4 nx3 = .ok True := fun c => bad 10 (by omega) (by rw [edgeErr, if_pos c])
 rw [sAx0, H4.load (k := 0) (i := 0) rfl rfl]
 simp only [sLss]
 by_cases d1 : E[i].1 < 0
 ·simp only [d1, decide_true, sG_tf, sPick_t, sCond_t]
  exact out (by omega)
 simp only [d1, decide_false, sG_ff]
 rw [sAx0, H4.load (k := 0) (i := 0) rfl rfl, sFx, H4.load (k := 1) (i := 0) rfl rfl]
 simp only [sGeq, sPick_f]
 by_cases d2 : V ≤ E[i].1
 ·simp only [d2, decide_true, sG_tf, sPick_t, sCond_t]
  exact out (by omega)
 simp only [d2, decide_false, sG_ff]
 rw [sAx1, H4.load (k := 0) (i := 0 + 1) rfl rfl]
 simp only [sLss, sPick_f]
 by_cases d3 : E[i].2 < 0
 ·simp only [d3, decide_true, sG_tf, sPick_t, sCond_t]
  exact out (by omega)
 simp only [d3, decide_false, sG_ff]
 rw [sAx1, H4.load (k := 0) (i := 0 + 1) rfl rfl, sFx, H4.load (k := 1) (i := 0) rfl rfl]
 simp only [sGeq, sPick_f]
 by_cases d4 : V ≤ E[i].2
 ·simp only [d4, decide_true, sCond_t]
  exact out (by omega)
 simp only [d4, decide_false, sCond_f]
 rw [F21.k9, sAx0, H4.load (k := 0) (i := 0) rfl rfl, sAx1, H4.load (k := 0) (i := 0 + 1) rfl rfl]
 simp only [sGeq]
 by_cases d5 : E[i].2 ≤ E[i].1
 ·simp only [d5, decide_true, sCond_t]
  exact bad 11 (by omega) (by rw [edgeErr, if_neg (by omega), if_pos d5])
 simp only [d5, decide_false, sCond_f]
 refine F21.L11 (fun m x5 h' nx' => ∃ k : Nat, x5 = I k ∧ i - k = m ∧ k ≤ i ∧ h' = h4 ∧ nx' = nx3 ∧ ∀ j p, j < k → E[j]? = some p → p ≠ E[i]) (m := i) (by omega) ⟨0, rfl, rfl, by omega, rfl, rfl, fun j p hj => by omega⟩ ?_
 rintro m y2 y5 y11 y12 h4 nx3 R2 ⟨k, rfl, rfl, hk, rfl, rfl, hne⟩ hR2
 simp only [sLss]
 by_cases hkt : k < i
 ·simp only [show (k : Int) < (i : Int) by omega, decide_true, sCond_t]
  have hkE : k < E.length := by omega
  rw [sFx, H4.load (k := 1) (i := 0 + 1) rfl rfl, sIxL rfl hkE, flat2_cons hkE, sLoadNP, H4.loadN (k := 0) (n := 2) rfl rfl, sEqlP]
  by_cases e : E[k] = E[i]
  ·rw [e]
   simp only [decide_true, Bool.and_self, sCond_t]
   refine bad 9 (by omega) ?_
   rw [edgeErr, if_neg (by omega), if_neg d5, if_pos]
   exact List.mem_of_getElem? (i := k) (by rw [List.getElem?_take_of_lt hkt, List.getElem?_eq_getElem hkE, e])
  ·have hb : (decide (E[k].1 = E[i].1) && decide (E[k].2 = E[i].2)) = false := by
    rw [Bool.eq_false_iff]
    intro q
    simp only [Bool.and_eq_true, decide_eq_true_eq] at q
    exact e (Prod.ext q.1 q.2)
   rw [hb, sCond_f, sAdd (by omega)]
   refine hR2 _ _ _ _ _ _ _ (by omega) ⟨k + 1, rfl, rfl, by omega, rfl, rfl, fun j p hj hp => ?_⟩
   by_cases ej : j = k
   ·subst ej
    rw [List.getElem?_eq_getElem hkE] at hp
    exact (Option.some.inj hp) ▸ e
   ·exact hne j p (by omega) hp
 ·simp only [show ¬ (k : Int) < (i : Int) by omega, decide_false, sCond_f]
  obtain rfl : k = i := by omega
  rw [F21.k18, sAdd (by omega)]
  have hz : edgeErr V (E.take k) E[k] = 0 := by
   rw [edgeErr, if_neg (by omega), if_neg d5, if_neg]
   intro q
   obtain ⟨j, hj⟩ := List.mem_iff_getElem?.1 q
   rw [List.getElem?_take] at hj
   split at hj
   ·exact hne j _ (by assumption) hj rfl
   ·cases hj
  rw [hz, if_neg (by simp)] at hg
  exact hR _ _ _ _ _ _ _ _ _ _ _ _ (by omega) ⟨k + 1, X, rfl, rfl, by omega, hg, H4.drop⟩
theorem index180 {q : List (Int × Int)} {e : Int × Int} (hq : q.length ≤ 1000000) : Pure Tryz.prog B 178 [encP q, .agg [I e.1, I e.2]] (fun v => ∃ r : Int, v = I r ∧ (0 ≤ r ↔ e ∈ q)) := by
 refine pure_hp fun h nx K H0 hK => by_body tbl_ok dreg 10000000 fun hf => ?_
 rw [F178.go]
 refine H0.box (l := [I e.1, I e.2]) rfl fun bx h1 nx1 H1 => ?_
 simp only [sLen_lst]
 refine F178.L1 (fun m z6 h' nx' => ∃ i : Nat, z6 = I i ∧ q.length - i = m ∧ i ≤ q.length ∧ h' = h1 ∧ nx' = nx1 ∧ e ∉ q.take i) (m := q.length) (by omega) ⟨0, rfl, rfl, by omega, rfl, rfl, by simp⟩ ?_
 rintro m z3 z4 z6 z7 z8 h1 nx1 R ⟨i, rfl, rfl, hi, rfl, rfl, hn⟩ hR
 simp only [sLss]
 by_cases hlt : i < q.length
 ·simp only [show (i : Int) < (q.length : Int) by omega, decide_true, sCond_t]
  rw [H1.loadN (k := 0) (n := 2) rfl rfl, sIxL rfl hlt, flat2_cons hlt, sLoadNP, sEqlP]
  by_cases c : e = q[i]
  ·rw [c]
   simp only [decide_true, Bool.and_self, sCond_t]
   refine hK _ _ _ _ _ H1 (frz_fixd rfl) ⟨_, rfl, ?_⟩
   exact ⟨fun _ => by rw [c]; exact List.getElem_mem hlt, fun _ => by omega⟩
  ·have hb : (decide (e.1 = q[i].1) && decide (e.2 = q[i].2)) = false := by
    rw [Bool.eq_false_iff]
    intro q
    simp only [Bool.and_eq_true, decide_eq_true_eq] at q
    exact c (Prod.ext q.1 q.2)
   rw [hb, sCond_f, sAdd (by omega)]
   refine hR _ _ _ _ _ _ _ _ (by omega) ⟨i + 1, rfl, rfl, by omega, rfl, rfl, ?_⟩
   rw [List.take_add_one, List.getElem?_eq_getElem hlt, Option.toList_some]
   intro h
   rcases List.mem_append.1 h with q1 | q1
   ·exact hn q1
   ·simp at q1; exact c q1
 ·simp only [show ¬ (i : Int) < (q.length : Int) by omega, decide_false, sCond_f]
  rw [F178.k8]
  rw [List.take_of_length_le (by omega)] at hn
  refine hK _ _ _ _ _ H1 (frz_fixd rfl) ⟨_, rfl, ?_⟩
  exact ⟨fun h => by omega, fun h => absurd h hn⟩
theorem contains166 {q : List (Int × Int)} {e : Int × Int} (hq : q.length ≤ 1000000) : Pure Tryz.prog B 91 [encP q, .agg [I e.1, I e.2]] (· = .bool (decide (e ∈ q))) := by
 refine pure_hp fun h nx K H0 hK => by_body tbl_ok dreg 1000 fun hf => ?_
 rw [F91.go]
 refine H0.box (l := [I e.1, I e.2]) rfl fun bx h1 nx1 H1 => ?_
 rw [H1.loadN (k := 0) (n := 2) rfl rfl]
 refine index180 hq _ _ _ _ ?_
 rintro _ ⟨r, rfl, hr⟩ _
 simp only [sGeq]
 refine hK _ _ _ _ _ H1 (frz_fixd rfl) ?_
 exact congrArg AV.bool (decide_eq_decide.2 hr)
theorem checkGraph133 {V : Int} {E : List (Int × Int)} (hE : E.length ≤ 1000000) : Pure Tryz.prog B 20 [.agg [I V, encP E]] (· = I (graphErr V E)) := by
 refine pure_hp fun h nx K H0 hK => by_body tbl_ok dreg 10000000 fun hf => ?_
 rw [F20.go]
 refine H0.box (l := [I V, encP E]) rfl fun bx h1 nx1 H1 => ?_
 rw [sFx, H1.load (k := 0) (i := 0) rfl rfl, sFx, H1.load (k := 0) (i := 0 + 1) rfl rfl]
 simp only [sLen_lst, sGtr]
 refine H1.bslice (l := [I V]) rfl fun id h2 nx2 H2 => ?_
 simp only [sSame_refl, sLen_lst]
 rw [H2.load (k := 1) (i := 0 + 1) rfl rfl]
 simp only [sSame_refl, sFx]
 refine CS_plain (args' := [I 1, I 16, encI [V]]) (.cons (.int _ _) (.cons (.int _ _) (.cons (HasArr.frz (H2.own (.arr id [I V]) (by simp)) (T.get_e _ id) (Nat.le_refl _) rfl (fun v hv => by simp at hv; subst hv; rfl)) .nil))) rfl (fun B => from122 (l := [V]) (by simp)) (fun v hv => by rw [hv]; exact .int _ _) ?_
 rintro _ rfl _
 rw [H2.load (k := 1) (i := 0 + 1) rfl rfl]
 simp only [sSame_refl, sLen_lst]
 refine when123 _ _ _ _ _ _ ?_
 rintro _ rfl _
 refine H2.bslice (l := [I (if [V].any (fun x => decide (x < 1) || decide (16 < x)) then 3 else 0), I (if decide (32 < (E.length : Int)) then 5 else 0)]) rfl fun id3 h3 nx3 H3 => ?_
 refine own_plain (l := [if [V].any (fun x => decide (x < 1) || decide (16 < x)) then 3 else 0, if decide (32 < (E.length : Int)) then 5 else 0]) H3 (k := 0) rfl (fun B => first121 (by simp)) (fun v hv => by rw [hv]; exact .int _ _) ?_
 rintro _ rfl
 have ret : ∀ (v : Int) h' nx' L, v = graphErr V E → Hp h h' nx' L → K (I v) h' nx' = .ok True := fun v h' nx' L hv H' => by rw [hv]; exact hK _ _ _ _ _ H' (frz_fixd rfl) rfl
 have ef : firstE [if [V].any (fun x => decide (x < 1) || decide (16 < x)) then 3 else 0, if decide (32 < (E.length : Int)) then 5 else 0] = if V < 1 ∨ 16 < V then 3 else if 32 < E.length then 5 else 0 := by
  by_cases c : V < 1 ∨ 16 < V
  ·simp [firstE, c]
  ·by_cases c2 : 32 < E.length
   ·have : (32 : Int) < (E.length : Int) := by omega
    simp [firstE, c, c2, this]
   ·have : ¬ (32 : Int) < (E.length : Int) := by omega
    simp [firstE, c, c2, this]
 rw [ef]
 simp only [sNeq]
 by_cases c1 : V < 1 ∨ 16 < V
 ·simp only [c1, if_true, show ¬ (3 : Int) = 0 by omega, decide_false, Bool.not_false, sCond_t]
  exact ret 3 _ _ _ (by rw [graphErr, if_pos c1]) H3
 simp only [c1, if_false]
 by_cases c3 : 32 < E.length
 ·simp only [c3, if_true, show ¬ (5 : Int) = 0 by omega, decide_false, Bool.not_false, sCond_t]
  exact ret 5 _ _ _ (by rw [graphErr, if_neg c1, if_pos c3]) H3
 simp only [c3, if_false, decide_true, Bool.not_true, sCond_f, sFx]
 rw [H3.load (k := 2) (i := 0 + 1) rfl rfl]
 simp only [sLen_lst]
 have hg : graphErr V E = edgesErr V (E.take 0) (E.drop 0) := by rw [graphErr, if_neg c1, if_neg c3]; rfl
 have H3' : Hp h h3 nx3 (.arr bx [I V, encP E] :: []) := H3.drop.drop
 clear H3
 refine F20.L2 (fun m x11 h' nx' => ∃ (i : Nat), x11 = I i ∧ E.length - i = m ∧ i ≤ E.length ∧ graphErr V E = edgesErr V (E.take i) (E.drop i) ∧ Hp h h' nx' (.arr bx [I V, encP E] :: [])) (m := E.length) (by omega) ⟨0, rfl, rfl, by omega, hg, H3'⟩ ?_
 rintro m z2 z4 z5 z6 z7 z11 z12 z13 h4 nx4 R ⟨i, rfl, rfl, hi, hg, H4⟩ hR
 simp only [sLss]
 by_cases hlt : i < E.length
 case neg =>
  simp only [show ¬ (i : Int) < (E.length : Int) by omega, decide_false, sCond_f]
  rw [F20.k10]
  exact ret 0 _ _ _ (by rw [hg, List.drop_of_length_le (by omega)]; rfl) H4
 simp only [show (i : Int) < (E.length : Int) by omega, decide_true, sCond_t]
 rw [edges_step hlt] at hg
 rw [sIxL rfl hlt, flat2_cons hlt, sLoadNP]
 refine H4.alloc fun b5 h5 nx5 H5 => ?_
 refine H5.storeN (k := 0) (n := 2) rfl rfl rfl fun h6 H6 => ?_
 have H6 : Hp h h6 nx5 (.arr b5 [I E[i].1, I E[i].2] :: .arr bx [I V, encP E] :: []) := H6
 have tail : ∀ (kn : Bool) (z13 : AV), kn = decide (0 ≤ E[i].1 ∧ E[i].1 < V ∧ 0 ≤ E[i].2 ∧ E[i].2 < V) → IR.run F20.b8 (CS Tryz.prog B) 10000000 (((fnO F20.res K).blk 0 (IR.run F20.b10 (CS Tryz.prog B) 10000000 (fnO F20.res K) (retK F20.res K))).blk 1 (IR.run F20.b9 (CS Tryz.prog B) 10000000 ((fnO F20.res K).blk 0 (IR.run F20.b10 (CS Tryz.prog B) 10000000 (fnO F20.res K) (retK F20.res K))) R)) (IR.run F20.b9 (CS Tryz.prog B) 10000000 ((fnO F20.res K).blk 0 (IR.run F20.b10 (CS Tryz.prog B) 10000000 (fnO F20.res K) (retK F20.res K))) R) (F20.fr (.agg [I V, encP E]) (.ptr bx 0) z2 (I 0) (I i) (.ptr b5 0) (.bool kn) z7 (.bool false) (encP E) (I E.length) (I i) (.bool true) z13) h6 nx5 = .ok True := by
  intro kn z13 hkn
  rw [F20.k8]
  simp only [sNot_b]
  rw [sAx0, H6.load (k := 0) (i := 0) rfl rfl, sAx1, H6.load (k := 0) (i := 0 + 1) rfl rfl]
  simp only [sGeq, sFx]
  rw [H6.load (k := 1) (i := 0 + 1) rfl rfl, sSliceP (by omega) (by omega), encP_take hi, H6.loadN (k := 0) (n := 2) rfl rfl]
  refine when123 _ _ _ _ _ _ ?_
  rintro _ rfl _
  rw [H6.loadN (k := 0) (n := 2) rfl rfl, sSame_refl, sSliceP (by omega) (by omega), encP_take hi]
  simp only [sSame_refl]
  rw [H6.load (k := 1) (i := 0 + 1) rfl rfl]
  simp only [sSame_refl, sFx, sGeq]
  rw [H6.load (k := 0) (i := 0 + 1) rfl rfl, sSame_refl, sAx1, sSame_refl, H6.load (k := 0) (i := 0) rfl rfl, sSame_refl, sAx0, sSame_refl]
  refine when123 _ _ _ _ _ _ ?_
  rintro _ rfl _
  rw [H6.loadN (k := 0) (n := 2) rfl rfl, sSame_refl, sSliceP (by omega) (by omega), encP_take hi]
  simp only [sSame_refl]
  rw [H6.load (k := 1) (i := 0 + 1) rfl rfl]
  simp only [sSame_refl, sFx]
  refine contains166 (e := E[i]) (by rw [List.length_take]; omega) _ _ _ _ ?_
  rintro _ rfl _
  refine when123 _ _ _ _ _ _ ?_
  rintro _ rfl _
  refine H6.bslice (l := [I (if (!kn) then 10 else 0), I (if decide (E[i].2 ≤ E[i].1) then 11 else 0), I (if decide (E[i] ∈ E.take i) then 9 else 0)]) rfl fun id7 h7 nx7 H7 => ?_
  refine own_plain (l := [if (!kn) then 10 else 0, if decide (E[i].2 ≤ E[i].1) then 11 else 0, if decide (E[i] ∈ E.take i) then 9 else 0]) H7 (k := 0) rfl (fun B => first121 (by simp)) (fun v hv => by rw [hv]; exact .int _ _) ?_
  rintro _ rfl
  have ee : firstE [if (!kn) then 10 else 0, if decide (E[i].2 ≤ E[i].1) then 11 else 0, if decide (E[i] ∈ E.take i) then 9 else 0] = edgeErr V (E.take i) E[i] := by
   by_cases d1 : 0 ≤ E[i].1 ∧ E[i].1 < V ∧ 0 ≤ E[i].2 ∧ E[i].2 < V
   ·have e0 : edgeErr V (E.take i) E[i] = if E[i].2 ≤ E[i].1 then 11 else if E[i] ∈ E.take i then 9 else 0 := by rw [edgeErr, if_neg (fun q => q d1)]
    rw [hkn, decide_eq_true d1, e0]
    by_cases d2 : E[i].2 ≤ E[i].1
    ·rw [if_pos d2, decide_eq_true d2]; rfl
    ·rw [if_neg d2, decide_eq_false d2]
     by_cases d3 : E[i] ∈ E.take i
     ·rw [if_pos d3, decide_eq_true d3]; rfl
     ·rw [if_neg d3, decide_eq_false d3]; rfl
   ·have e0 : edgeErr V (E.take i) E[i] = 10 := by rw [edgeErr, if_pos d1]
    rw [hkn, decide_eq_false d1, e0]; rfl
  rw [ee]
  simp only [sNeq]
  by_cases c : edgeErr V (E.take i) E[i] = 0
  ·simp only [c, decide_true, Bool.not_true, sCond_f]
   rw [F20.k9, sAdd (by omega)]
   rw [c, if_neg (by simp)] at hg
   exact hR _ _ _ _ _ _ _ _ _ _ _ (by omega) ⟨i + 1, rfl, rfl, by omega, hg, H7.drop.drop⟩
  ·simp only [c, decide_false, Bool.not_false, sCond_t]
   rw [if_pos c] at hg
   exact ret _ _ _ _ hg.symm H7
 rw [sAx0, H6.load (k := 0) (i := 0) rfl rfl]
 simp only [sGeq]
 by_cases d1 : 0 ≤ E[i].1
 case neg =>
  simp only [d1, decide_false, sG_ft, sPick_f]
  exact tail false _ (decide_eq_false (by omega)).symm
 simp only [d1, decide_true, sG_tt]
 rw [sAx0, H6.load (k := 0) (i := 0) rfl rfl, sFx, H6.load (k := 1) (i := 0) rfl rfl]
 simp only [sLss, sPick_t]
 by_cases d2 : E[i].1 < V
 case neg =>
  simp only [d2, decide_false, sG_ft, sPick_f]
  exact tail false _ (decide_eq_false (by omega)).symm
 simp only [d2, decide_true, sG_tt]
 rw [sAx1, H6.load (k := 0) (i := 0 + 1) rfl rfl]
 simp only [sGeq, sPick_t]
 by_cases d3 : 0 ≤ E[i].2
 case neg =>
  simp only [d3, decide_false, sG_ft, sPick_f]
  exact tail false _ (decide_eq_false (by omega)).symm
 simp only [d3, decide_true, sG_tt]
 rw [sAx1, H6.load (k := 0) (i := 0 + 1) rfl rfl, sFx, H6.load (k := 1) (i := 0) rfl rfl]
 simp only [sLss, sPick_t]
 exact tail _ _ (decide_eq_decide.2 (by omega))
end Go.Ev
namespace Go.Ev
open Go Go.Proofs
variable {B : Nat}
theorem gOk_ttL : gOk (.bool true) true = true := rfl
theorem sGW_ttL (op : KW3 → OP) (h : T Blk) (nx : Pa) (k : KW3) : sGW (.bool true) true op h nx k = op k := nr rfl
theorem law3 {cells V : Int} {lines : List (List Int)} {E : List (Int × Int)} (haw : ∀ {B}, Pure Tryz.prog B 17 [] (· = .bool true)) : Pure Tryz.prog B 3 [.agg [I cells, encT lines], .agg [I V, encP E]] (· = .bool true) := by
 refine pure_hp fun h nx K H0 hK => by_body tbl_ok dreg 1000 fun hf => ?_
 rw [F3.go]
 refine H0.box (l := [I cells, encT lines]) rfl fun bx h1 nx1 H1 => ?_
 refine H1.box (l := [I V, encP E]) rfl fun bg h2 nx2 H2 => ?_
 have awk : ∀ (h : T Blk) (nx : Pa) (Z : Kw Prop), Z (.bool true) h nx = .ok True → (CS Tryz.prog B).fn 17 (.of 17) [] h nx Z = .ok True := fun h nx Z hZ => haw _ _ _ _ fun v hv _ => by rw [hv]; exact hZ
 have ret : K (.bool true) h2 nx2 = .ok True := hK _ _ _ _ _ H2 (frz_fixd rfl) rfl
 rw [H2.loadN (k := 1) (n := 2) rfl rfl]
 refine short25 (by decide) _ _ _ _ ?_
 rintro _ rfl _
 by_cases hs : (lines.length : Int) ≤ 130 ∧ ∀ l ∈ lines, (l.length : Int) ≤ 40
 case neg =>
  rw [decide_eq_false hs]
  simp only [sNot_b, Bool.not_false, sG_tf, sPick_t, sCond_t]
  exact awk _ _ _ ret
 rw [decide_eq_true hs]
 obtain ⟨hs1, hs2⟩ := hs
 have hw : ∀ q ∈ lines, q.length ≤ 1000000 := fun q hq => by have := hs2 q hq; omega
 simp only [sNot_b, Bool.not_true, sG_ff, sFx]
 rw [H2.load (k := 0) (i := 0 + 1) rfl rfl]
 simp only [sLen_lst, sGtr, sPick_f]
 by_cases c40 : 40 < E.length
 ·simp only [show (40 : Int) < (E.length : Int) by omega, decide_true, sCond_t]
  exact awk _ _ _ ret
 simp only [show ¬ (40 : Int) < (E.length : Int) by omega, decide_false, sCond_f]
 rw [F3.k1, H2.loadN (k := 1) (n := 2) rfl rfl, H2.loadN (k := 1) (n := 2) rfl rfl]
 refine sys81 hw _ _ _ _ ?_
 rintro _ rfl _
 rw [H2.loadN (k := 1) (n := 2) rfl rfl]
 simp only [sSame_refl]
 refine sysErr27 hw _ _ _ _ ?_
 rintro _ rfl _
 simp only [sEql, decide_true, sG_tt, gOk_ttL, cond_true, sGW_ttL]
 rw [H2.loadN (k := 0) (n := 2) rfl rfl, H2.loadN (k := 0) (n := 2) rfl rfl]
 refine checkGraph133 (by omega) _ _ _ _ ?_
 rintro _ rfl _
 rw [H2.loadN (k := 0) (n := 2) rfl rfl]
 simp only [sSame_refl]
 refine refGraph42 (by omega) _ _ _ _ ?_
 rintro _ rfl _
 simp only [sEql, decide_true, sPick_t, sGW_ttL]
 exact awk _ _ _ ret
end Go.Ev
