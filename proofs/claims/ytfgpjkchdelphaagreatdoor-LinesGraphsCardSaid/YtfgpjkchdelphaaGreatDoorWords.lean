import Derived.Test.YtfgpjkchdelphaaGreatDoorEvD
import Derived.Deep.Matrix
import Derived.Lib.SmallJoins
import Derived.Test.YtfgpjkchdelphaaGreatDoorCode
import GoSem.Core.Next
import Derived.Test.YtfgpjkchdelphaaGreatDoorLaws
import Derived.Test.YtfgpjkchdelphaaGreatDoorIrT
import Derived.KernelRfl
import Derived.IntWalk
set_option linter.unusedSimpArgs false
set_option linter.unusedVariables false
namespace Go.Ev
open Go Go.RowKit Go.ChangeShapes Go.WideShapes Go.Deep Go.Joins
variable {H : Type} {enc : TypeId × Value → H} {P : Program}
theorem cellOf_of_cell {w : World} {a : Addr} {i : Nat} {v : Value} (h : w.cell? (a.add i) = some v) : a = ⟨a.block, a.off, a.spot⟩ ∧ (i = 0 → a.spot = none) ∧ cellOf w a.block (a.off + i) = some v := by
 unfold Addr.add at h
 by_cases hi : i = 0
 ·subst hi
  rw [if_pos rfl] at h
  unfold World.cell? at h
  split at h
  ·rename_i c ty fr hb
   split at h
   ·cases h
   ·rename_i hs
    refine ⟨rfl, fun _ => by cases e : a.spot <;> simp_all, ?_⟩
    simp [cellOf, hb, h]
  ·cases h
 ·rw [if_neg hi] at h
  unfold World.cell? at h
  split at h
  ·rename_i c ty fr hb
   refine ⟨rfl, fun q => absurd q hi, ?_⟩
   simp at h hb
   simp [cellOf, hb, h]
  ·cases h
theorem VRF_mk {E : Env} {b : Nat} : ∀ {l : List AV} {off : Nat}, (∀ i a, l[i]? = some a → ∃ v, E.fz b (off + i) = some v ∧ VR E a v) → VRF E l b off
 | [], _, _ => by simp only [VRF]
 | a :: l, off, h => by
  simp only [VRF]
  obtain ⟨v, h1, h2⟩ := h 0 a rfl
  refine ⟨v, h1, h2, VRF_mk fun i x hx => ?_⟩
  obtain ⟨v', h3, h4⟩ := h (i + 1) x (by simpa using hx)
  exact ⟨v', by rw [Nat.add_assoc, Nat.add_comm 1 i]; exact h3, h4⟩
theorem scalI2 (l : List Int) : (l.map I).all scal = true := by
 rw [List.all_eq_true]; intro v hv
 obtain ⟨x, _, rfl⟩ := List.mem_map.1 hv; rfl
theorem vr_row {w : World} {hl : LaidW w} {p : Option Addr} {L C : Nat} {Z : List Int} (hL : L ≤ C) (hZ : Z.length = C) (h0 : p = none → C = 0) (hc : ∀ a, p = some a → ∀ c, c < C → w.cell? (a.add c) = some (.int .i64 (Z.getD c 0))) :
  VR (allE w hl) (encI (Z.take L)) (.slice p L C) := by
 have hlen : (Z.take L).length = L := by rw [List.length_take]; omega
 simp only [VR]
 refine ⟨scalI2 _, by simp, p, C, by rw [hlen], ?_⟩
 rw [hlen]
 cases p with
 | none => exact .inl ⟨by have := h0 rfl; omega, fun _ => h0 rfl⟩
 | some a =>
  by_cases hL0 : L = 0
  ·exact .inl ⟨hL0, by intro q; cases q⟩
  ·obtain ⟨_, hs, _⟩ := cellOf_of_cell (hc a rfl 0 (by omega))
   obtain ⟨b, off, sp⟩ := a
   have : sp = none := hs rfl
   subst this
   refine .inr ⟨b, off, rfl, hL, VRF_mk fun i x hx => ?_⟩
   rw [List.getElem?_map] at hx
   have hi : i < L := by
    cases e : (Z.take L)[i]? with
    | none => rw [e] at hx; cases hx
    | some y => have := (List.getElem?_eq_some_iff.1 e).1; omega
   obtain ⟨_, _, h3⟩ := cellOf_of_cell (hc _ rfl i (by omega))
   refine ⟨_, h3, ?_⟩
   rw [List.getElem?_take, if_pos hi] at hx
   cases e : Z[i]? with
   | none => rw [e] at hx; cases hx
   | some y =>
    rw [e] at hx
    have hx := Option.some.inj hx
    subst hx
    rw [List.getD_eq_getElem?_getD, e]
    simp only [VR, Option.getD_some]
theorem open_listI {t e : TypeId} {w : World} {hl : LaidW w} {base : Nat} {held : Bool} {fuel : Nat} {cs : List Value} {x : DataW H × List MemPlace} (ht : P.underlying t = some (.slice e)) (he : P.underlying e = some (.int .i64)) (hc : P.cellsOf e = 1)
  (h : DataW.trod enc P w base (fun _ => true) held fuel t cs = some x) : ∃ (l : List Int) (v : Value), cs = [v] ∧ VR (allE w hl) (encI l) v ∧ l.length ≤ maxLen ∧ ∀ n ∈ l, (Lit.int .i64 n).wf = true := by
 rcases open_ints ht he hc h with ⟨rfl, _⟩ | ⟨a, len, cap, zs, rfl, hb, hl, hm, hz, _, hcell, hwz⟩
 ·exact ⟨[], _, rfl, by simp only [VR]; exact ⟨rfl, rfl, none, 0, rfl, .inl ⟨rfl, fun _ => rfl⟩⟩, by simp, by simp⟩
 ·simp only [if_true] at hz
  refine ⟨zs.take len, _, rfl, vr_row hl hz (fun q => by cases q) (fun a' q c hc => by cases q; exact hcell c (by rw [hz]; exact hc)), by rw [List.length_take]; omega, fun n hn => hwz n (List.mem_of_mem_take hn)⟩
theorem open_listV {r : Reach} {b0 : Nat} {t e : TypeId} {w : World} {hl : LaidW w} {base : Nat} {held : Bool} {v : Value} {d : DataW H} {p : List MemPlace} (ht : P.underlying t = some (.slice e)) (he : P.underlying e = some (.int .i64)) (hc : P.cellsOf e = 1)
  (hval : Value.okWide P w r b0 t v) (h : DataW.Trod enc P w base (fun _ => true) held t v d p) : ∃ l : List Int, VR (allE w hl) (encI l) v ∧ l.length ≤ maxLen ∧ ∀ n ∈ l, (Lit.int .i64 n).wf = true := by
 obtain ⟨fuel, hf⟩ := h
 obtain ⟨a, len, cap, rfl⟩ := okWide_slice ht hval
 obtain ⟨l, v', hv, h1, h2, h3⟩ := open_listI ht he hc hf
 simp only [Value.cells, List.cons.injEq, and_true] at hv
 subst hv
 exact ⟨l, h1, h2, h3⟩
end Go.Ev
namespace Go.Ev
open Go
def flat2 (q : List (Int × Int)) : List AV := q.flatMap fun p => [I p.1, I p.2]
abbrev encP (q : List (Int × Int)) : AV := .lst 2 q.length (flat2 q)
theorem flat2_len (q : List (Int × Int)) : (flat2 q).length = q.length * 2 := by
 induction q with
 | nil => rfl
 | cons p q ih => rw [flat2, List.flatMap_cons, List.length_append, ← flat2, ih]; simp; omega
theorem flat2_drop : ∀ (q : List (Int × Int)) (i : Nat), (flat2 q).drop (i * 2) = flat2 (q.drop i)
 | q, 0 => by simp
 | [], i + 1 => by simp [flat2]
 | p :: q, i + 1 => by
  rw [List.drop_succ_cons, ← flat2_drop q i, show (i + 1) * 2 = i * 2 + 1 + 1 by omega]
  rfl
theorem flat2_take : ∀ (q : List (Int × Int)) (i : Nat), (flat2 q).take (i * 2) = flat2 (q.take i)
 | q, 0 => by simp [flat2]
 | [], i + 1 => by simp [flat2]
 | p :: q, i + 1 => by
  rw [List.take_succ_cons, show (i + 1) * 2 = i * 2 + 1 + 1 by omega]
  show I p.1 :: I p.2 :: (flat2 q).take (i * 2) = _
  rw [flat2_take q i]
  rfl
theorem flat2_mem {q : List (Int × Int)} : ∀ v ∈ flat2 q, ∃ x, v = I x := fun v hv => by
 obtain ⟨p, _, h⟩ := List.mem_flatMap.1 hv
 simp only [List.mem_cons, List.not_mem_nil, or_false] at h
 rcases h with rfl | rfl
 ·exact ⟨_, rfl⟩
 ·exact ⟨_, rfl⟩
theorem scal_flat2 {q : List (Int × Int)} : (flat2 q).all scal = true := List.all_eq_true.2 fun v hv => by obtain ⟨x, rfl⟩ := flat2_mem v hv; rfl
theorem flat2_cons {q : List (Int × Int)} {i : Nat} (h : i < q.length) : (flat2 q).drop (i * 2) = I q[i].1 :: I q[i].2 :: (flat2 q).drop ((i + 1) * 2) := by
 rw [flat2_drop, flat2_drop, List.drop_eq_getElem_cons h]; rfl
theorem sAx0 {K : AV → OP} {id : Pa} {off : Nat} : sAaddr 1 2 (.ptr id off) (I 0) K = K (.ptr id off) := by
 show (bif Nat.ble (0 + 1) 2 then natK (off + 0 * 1) (fun o => K (.ptr id o)) else .no 14) = _
 rw [Nat.ble_eq_true_of_le (by omega), natK_eq]; simp
theorem sAx1 {K : AV → OP} {id : Pa} {off : Nat} : sAaddr 1 2 (.ptr id off) (I 1) K = K (.ptr id (off + 1)) := by
 show (bif Nat.ble (1 + 1) 2 then natK (off + 1 * 1) (fun o => K (.ptr id o)) else .no 14) = _
 rw [Nat.ble_eq_true_of_le (by omega), natK_eq]; simp
theorem sAxF0 {a b : AV} {l : List AV} {K : AV → OP} : sAaddr 1 2 (.fp (a :: b :: l)) (I 0) K = K (.fp (a :: b :: l)) := nr rfl
theorem sAxF1 {a b : AV} {l : List AV} {K : AV → OP} : sAaddr 1 2 (.fp (a :: b :: l)) (I 1) K = K (.fp (b :: l)) := nr rfl
theorem sLdF {a : AV} {l : List AV} {h : T Blk} {K : AV → OP} : sLoad (.fp (a :: l)) h K = K a := nr rfl
theorem sLoadNP {a b : AV} {l : List AV} {h : T Blk} {K : AV → OP} : sLoadN 2 (.fp (a :: b :: l)) h K = K (.agg [a, b]) := nr rfl
theorem sEqlP {a b c d : Int} {K : AV → OP} : sBin .eql (.agg 2) (.agg [I a, I b]) (.agg [I c, I d]) K = K (.bool (decide (a = c) && decide (b = d))) := by
 have e : sBin .eql (.agg 2) (.agg [I a, I b]) (.agg [I c, I d]) K = K (.bool (ieq a c && ieq b d)) := by
  have e1 : aggEq [I a, I b] [I c, I d] = some (ieq a c && ieq b d) := by
   show (bif ieq a c then (bif ieq b d then some true else some false) else some false) = _
   cases ieq a c <;> cases ieq b d <;> rfl
  show (match aggEq [I a, I b] [I c, I d] with | some r => eqOut .eql r K | none => Out.no 5) = _
  rw [e1]
  rfl
 rw [e, ieq_eq, ieq_eq]
 congr 3
theorem sSliceP {n i : Nat} {l : List AV} {op : AV → OP} (hn : 1 ≤ n) (hi : i ≤ n) : sSlice 2 (.lst 2 n l) none (some (I (i : Int))) none op = op (.lst 2 i (l.take (i * 2))) := by
 show (bif Nat.beq 2 2 && Nat.ble 1 n then (match bnd (some (I (i : Int))) n n with | none => Out.no 17 | some h => match bnd none h 0 with | none => .no 17 | some q => op (.lst 2 (h - q) ((l.drop (q * 2)).take ((h - q) * 2)))) else .no 17) = _
 rw [Nat.ble_eq_true_of_le hn]
 have : bnd (some (I (i : Int))) n n = some i := by
  show (bif Nat.ble i n then some i else none) = _
  rw [Nat.ble_eq_true_of_le hi]; rfl
 rw [this]
 show op (.lst 2 (i - 0) ((l.drop (0 * 2)).take ((i - 0) * 2))) = _
 simp
theorem encP_take {E : List (Int × Int)} {i : Nat} (h : i ≤ E.length) : AV.lst 2 i ((flat2 E).take (i * 2)) = encP (E.take i) := by
 rw [flat2_take]
 show _ = AV.lst 2 (E.take i).length (flat2 (E.take i))
 rw [List.length_take, Nat.min_eq_left h]
end Go.Ev
namespace Go.Ev
open Go Go.RowKit Go.ChangeShapes Go.WideShapes Go.Deep Go.Joins
variable {H : Type} {enc : TypeId × Value → H} {P : Program}
theorem flatP_get : ∀ (q : List (Int × Int)) (i : Nat), (flat2 q)[i]? = (q[i / 2]?).map fun p => if i % 2 = 0 then I p.1 else I p.2
 | [], i => by simp [flat2]
 | p :: q, 0 => rfl
 | p :: q, 1 => rfl
 | p :: q, i + 2 => by
  show (I p.1 :: I p.2 :: flat2 q)[i + 2]? = _
  rw [List.getElem?_cons_succ, List.getElem?_cons_succ, flatP_get q i, show (i + 2) / 2 = i / 2 + 1 by omega, show (i + 2) % 2 = i % 2 by omega, List.getElem?_cons_succ]
theorem open_listP {t e q : TypeId} {w : World} {hl : LaidW w} {base : Nat} {held : Bool} {fuel : Nat} {cs : List Value} {x : DataW H × List MemPlace} (ht : P.underlying t = some (.slice e)) (he : P.underlying e = some (.array 2 q)) (hq : P.underlying q = some (.int .i64))
  (ce : P.cellsOf e = 2) (cq : P.cellsOf q = 1) (h : DataW.trod enc P w base (fun _ => true) held fuel t cs = some x) :
  ∃ (l : List (Int × Int)) (v : Value), cs = [v] ∧ VR (allE w hl) (encP l) v ∧ l.length ≤ maxLen := by
 rcases open_slice ht h with ⟨rfl, _⟩ | ⟨a, len, cap, m, n, D, Pl, rfl, hb, hl, hm, hmm, _, hx⟩
 ·exact ⟨[], _, rfl, by simp only [VR]; exact ⟨rfl, rfl, none, 0, rfl, .inl ⟨rfl, fun _ => rfl⟩⟩, by simp⟩
 ·have each : ∀ i, i < len → ∃ p : Int × Int, w.cell? (a.add (i * 2)) = some (.int .i64 p.1) ∧ w.cell? (a.add (i * 2 + 1)) = some (.int .i64 p.2) := by
   intro i hi
   obtain ⟨cs', h1, h2⟩ := hx i (by rw [hmm, if_pos rfl]; omega)
   rw [ce] at h1
   obtain ⟨_, hlen, hcell⟩ := World.cells?_some h1
   obtain ⟨xs, k, hk, _, _, hxl, hf⟩ := DataW.trod_array he h2
   match xs, hxl, cs', hlen with
   | [y0, y1], _, [v0, v1], _ =>
    have g0 := hf 0 (by omega)
    have g1 := hf 1 (by omega)
    simp [cq] at g0 g1
    obtain ⟨p0, q0, _⟩ := DataW.trod_int hq g0
    obtain ⟨p1, q1, _⟩ := DataW.trod_int hq g1
    simp only [List.cons.injEq, and_true] at q0 q1
    subst q0 q1
    have e0 := hcell 0 (by omega)
    have e1 := hcell 1 (by omega)
    rw [add_add] at e0 e1
    exact ⟨(p0, p1), by simpa using e0, by simpa using e1⟩
  obtain ⟨Q, hQ⟩ := choose_lt each
  refine ⟨(List.range len).map Q, _, rfl, ?_, by simp; omega⟩
  simp only [VR]
  refine ⟨scal_flat2, flat2_len _, some a, cap, by simp, ?_⟩
  by_cases h0 : len = 0
  ·exact .inl ⟨by simp [h0], by intro q; cases q⟩
  ·obtain ⟨_, hs, _⟩ := cellOf_of_cell (hQ 0 (by omega)).1
   obtain ⟨b, off, sp⟩ := a
   have : sp = none := hs (by omega)
   subst this
   refine .inr ⟨b, off, rfl, by simpa using hl, VRF_mk fun i x hx => ?_⟩
   rw [flatP_get] at hx
   have hi : i / 2 < len := by
    cases e : ((List.range len).map Q)[i / 2]? with
    | none => rw [e] at hx; cases hx
    | some y => have := (List.getElem?_eq_some_iff.1 e).1; simpa using this
   rw [List.getElem?_map, List.getElem?_range hi] at hx
   have hx := Option.some.inj hx
   obtain ⟨g0, g1⟩ := hQ (i / 2) hi
   by_cases c : i % 2 = 0
   ·simp only [if_pos c] at hx
    obtain ⟨_, _, h3⟩ := cellOf_of_cell g0
    subst hx
    refine ⟨_, (show off + i = off + i / 2 * 2 by omega) ▸ h3, by simp only [VR]⟩
   ·simp only [if_neg c] at hx
    obtain ⟨_, _, h3⟩ := cellOf_of_cell g1
    subst hx
    refine ⟨_, (show off + i = off + (i / 2 * 2 + 1) by omega) ▸ h3, by simp only [VR]⟩
theorem open_graph {r : Reach} {b0 base : Nat} {held : Bool} {w : World} {hl : LaidW w} {t ti tl tr : TypeId} {f0 f1 : Field} {v : Value} {d : DataW H} {p : List MemPlace} (hs : P.underlying t = some (.struct #[f0, f1])) (hone : oneCellFields P #[f0, f1] = true) (hC : P.cellsOf t = 2)
  (e0 : f0.type = ti) (e1 : f1.type = tl) (u0 : P.underlying ti = some (.int .i64)) (u1 : P.underlying tl = some (.slice tr)) (u2 : P.underlying tr = some (.array 2 ti)) (c1 : P.cellsOf tr = 2) (c2 : P.cellsOf ti = 1)
  (hv : Value.okWide P w r b0 t v) (h : DataW.Trod enc P w base (fun _ => true) held t v d p) :
  ∃ (c : Int) (l : List (Int × Int)), VR (allE w hl) (.agg [I c, encP l]) v ∧ (Lit.int .i64 c).wf = true ∧ l.length ≤ maxLen := by
 obtain ⟨v0, v1, y0, y1, n, rfl, _, _, h0, h1⟩ := open_agg2 hs hone hC hv h
 rw [e0] at h0
 rw [e1] at h1
 obtain ⟨x, hx, _, hw⟩ := DataW.trod_int u0 h0
 simp only [List.cons.injEq, and_true] at hx
 subst hx
 obtain ⟨l, v', hv', g1, g2⟩ := open_listP u1 u2 u0 c1 c2 h1
 simp only [List.cons.injEq, and_true] at hv'
 subst hv'
 refine ⟨x, l, ?_, hw, g2⟩
 simp only [VR]
 exact ⟨rfl, _, rfl, VRL.cons (by simp only [VR]) (VRL.cons g1 VRL.nil)⟩
end Go.Ev
namespace Go.Ev
open Go Go.Proofs
theorem dreg {B : Nat} : DregAll Tryz.prog B Prop := dreg_all mixed
variable {B : Nat}
theorem sameInts35 {a b : List Int} (ha : a.length ≤ 1000000000) : Pure Tryz.prog B 49 [encI a, encI b] (· = .bool (decide (a = b))) := by
 intro p h nx K hK
 refine by_body tbl_ok dreg (a.length + 2) fun hf => ?_
 rw [F49.go]
 simp (disch := omega) only [sAdd, sSub, sMul, sEql, sNeq, sLss, sLeq, sGtr, sGeq, sPick_t, sPick_f, sCond_t, sCond_f, sG_tt, sG_ff, sG_tf, sG_ft, sNot_b, sExt0, sExt1, sExt2, sPart0, sPart1, sPart2, sLen_lst, sLen_sl, sLen_nils, sSame_refl, decide_true, decide_false, Bool.not_true, Bool.not_false, sChk_t]
 by_cases hl : a.length = b.length
 ·simp only [hl, decide_true, Bool.not_true, sCond_f]
  refine F49.L2 (fun m z3 h' nx' => ∃ i : Nat, z3 = I i ∧ m = a.length - i ∧ i ≤ a.length ∧ h' = h ∧ nx' = nx ∧ a.take i = b.take i) (m := a.length) (by omega) ⟨0, rfl, by simp, by omega, rfl, rfl, by simp⟩ ?_
  rintro m z2 z3 z5 z6 _ _ R ⟨i, rfl, rfl, hi, rfl, rfl, htk⟩ hR
  simp (disch := omega) only [sAdd, sSub, sMul, sEql, sNeq, sLss, sLeq, sGtr, sGeq, sPick_t, sPick_f, sCond_t, sCond_f, sG_tt, sG_ff, sG_tf, sG_ft, sNot_b, sExt0, sExt1, sExt2, sPart0, sPart1, sPart2, sLen_lst, sLen_sl, sLen_nils, sSame_refl, decide_true, decide_false, Bool.not_true, Bool.not_false, sChk_t]
  by_cases hlt : i < a.length
  ·have h1 : (i : Int) < a.length := by omega
   have hb : i < b.length := by omega
   simp only [h1, decide_true, sCond_t]
   rw [sIxL rfl hlt, ldL (getI (List.getElem?_eq_getElem hlt)), sIxL rfl hb, ldL (getI (List.getElem?_eq_getElem hb))]
   simp (disch := omega) only [sAdd, sSub, sMul, sEql, sNeq, sLss, sLeq, sGtr, sGeq, sPick_t, sPick_f, sCond_t, sCond_f, sG_tt, sG_ff, sG_tf, sG_ft, sNot_b, sExt0, sExt1, sExt2, sPart0, sPart1, sPart2, sLen_lst, sLen_sl, sLen_nils, sSame_refl, decide_true, decide_false, Bool.not_true, Bool.not_false, sChk_t]
   by_cases he : a[i] = b[i]
   ·simp only [he, decide_true, Bool.not_true, sCond_f]
    refine hR (a.length - (i + 1)) _ _ _ _ _ _ (by omega) ⟨i + 1, rfl, rfl, by omega, rfl, rfl, ?_⟩
    rw [List.take_add_one, List.take_add_one, htk, List.getElem?_eq_getElem hlt, List.getElem?_eq_getElem hb, he]
   ·simp only [he, decide_false, Bool.not_false, sCond_t]
    refine hK _ ?_ hf
    rw [decide_eq_false]
    rintro rfl
    exact he rfl
  ·have h1 : ¬ (i : Int) < a.length := by omega
   simp only [h1, decide_false, sCond_f]
   rw [F49.k9]
   refine hK _ ?_ hf
   rw [List.take_of_length_le (by omega), List.take_of_length_le (by omega)] at htk
   rw [decide_eq_true htk]
 ·have h1 : ¬ (a.length : Int) = b.length := by omega
  simp only [h1, decide_false, Bool.not_false, sCond_t]
  refine hK _ ?_ hf
  rw [decide_eq_false]
  rintro rfl; exact hl rfl
end Go.Ev
namespace Go.Ev
open Go Go.Proofs
variable {B : Nat}
theorem when123 (b : Bool) (e : Int) : Pure Tryz.prog B 88 [.bool b, I e] (· = I (if b then e else 0)) := by
 intro p h nx K hK
 refine by_body tbl_ok dreg 9 fun hf => ?_
 rw [F88.go]
 cases b <;> simp (disch := omega) only [sAdd, sSub, sMul, sEql, sNeq, sLss, sLeq, sGtr, sGeq, sPick_t, sPick_f, sCond_t, sCond_f, sG_tt, sG_ff, sG_tf, sG_ft, sNot_b, sExt0, sExt1, sExt2, sPart0, sPart1, sPart2, sLen_lst, sLen_sl, sLen_nils, sSame_refl, decide_true, decide_false, Bool.not_true, Bool.not_false, sChk_t] <;> exact hK _ rfl hf
def firstE : List Int → Int
 | [] => 0
 | e :: l => if e ≠ 0 then e else firstE l
theorem firstE_skip : ∀ (l : List Int) (i : Nat), (∀ e ∈ l.take i, e = 0) → firstE l = firstE (l.drop i)
 | l, 0, _ => rfl
 | [], _ + 1, _ => rfl
 | e :: l, i + 1, h => by
  have h0 : e = 0 := h e (by simp)
  rw [firstE, if_neg (by simp [h0]), List.drop_succ_cons]
  exact firstE_skip l i fun x hx => h x (by simp [hx])
theorem first121 {l : List Int} (hl : l.length ≤ 1000000) : Pure Tryz.prog B 86 [encI l] (· = I (firstE l)) := by
 intro p h nx K hK
 refine by_body tbl_ok dreg 10000000 fun hf => ?_
 rw [F86.go]
 simp (disch := omega) only [sAdd, sSub, sMul, sEql, sNeq, sLss, sLeq, sGtr, sGeq, sPick_t, sPick_f, sCond_t, sCond_f, sG_tt, sG_ff, sG_tf, sG_ft, sNot_b, sExt0, sExt1, sExt2, sPart0, sPart1, sPart2, sLen_lst, sLen_sl, sLen_nils, sSame_refl, decide_true, decide_false, Bool.not_true, Bool.not_false, sChk_t]
 refine F86.L1 (fun m z5 h' nx' => ∃ i : Nat, z5 = I i ∧ l.length - i = m ∧ i ≤ l.length ∧ h' = h ∧ nx' = nx ∧ ∀ e ∈ l.take i, e = 0) (m := l.length) (by omega) ⟨0, rfl, rfl, by omega, rfl, rfl, by simp⟩ ?_
 rintro m z1 z2 z5 z6 z7 _ _ R ⟨i, rfl, rfl, hi, rfl, rfl, htk⟩ hR
 simp (disch := omega) only [sAdd, sSub, sMul, sEql, sNeq, sLss, sLeq, sGtr, sGeq, sPick_t, sPick_f, sCond_t, sCond_f, sG_tt, sG_ff, sG_tf, sG_ft, sNot_b, sExt0, sExt1, sExt2, sPart0, sPart1, sPart2, sLen_lst, sLen_sl, sLen_nils, sSame_refl, decide_true, decide_false, Bool.not_true, Bool.not_false, sChk_t]
 by_cases hlt : i < l.length
 ·simp only [show (i : Int) < (l.length : Int) by omega, decide_true, sCond_t]
  have hx : l[i]? = some l[i] := List.getElem?_eq_getElem hlt
  rw [sIxL rfl hlt, ldL (getI hx)]
  simp (disch := omega) only [sAdd, sSub, sMul, sEql, sNeq, sLss, sLeq, sGtr, sGeq, sPick_t, sPick_f, sCond_t, sCond_f, sG_tt, sG_ff, sG_tf, sG_ft, sNot_b, sExt0, sExt1, sExt2, sPart0, sPart1, sPart2, sLen_lst, sLen_sl, sLen_nils, sSame_refl, decide_true, decide_false, Bool.not_true, Bool.not_false, sChk_t]
  have hd : l.drop i = l[i] :: l.drop (i + 1) := List.drop_eq_getElem_cons hlt
  by_cases h0 : l[i] = 0
  ·simp only [h0, decide_true, Bool.not_true, sCond_f]
   refine hR _ _ _ _ _ _ _ _ (by omega) ⟨i + 1, rfl, rfl, by omega, rfl, rfl, fun e he => ?_⟩
   rw [List.take_add_one, hx] at he
   rcases List.mem_append.1 he with q | q
   ·exact htk e q
   ·simp at q; rw [q]; exact h0
  ·simp only [h0, decide_false, Bool.not_false, sCond_t]
   refine hK _ ?_ hf
   rw [firstE_skip l i htk, hd, firstE, if_pos h0]
 ·simp only [show ¬ (i : Int) < (l.length : Int) by omega, decide_false, sCond_f]
  rw [F86.k8]
  refine hK _ ?_ hf
  rw [firstE_skip l i htk, List.drop_of_length_le (by omega)]; rfl
end Go.Ev
namespace Go.Ev
open Go Go.Proofs
variable {B : Nat}
theorem hasLine84 {prev : List (List Int)} {l : List Int} (hp : prev.length ≤ 1000000) (hw : ∀ q ∈ prev, q.length ≤ 1000000000) : Pure Tryz.prog B 90 [encT prev, encI l] (· = .bool (decide (l ∈ prev))) := by
 intro p h nx K hK
 refine by_body tbl_ok dreg 10000000 fun hf => ?_
 rw [F90.go]
 refine F90.L1 (fun m z3 h' nx' => ∃ i : Nat, z3 = I i ∧ prev.length - i = m ∧ i ≤ prev.length ∧ h' = h ∧ nx' = nx ∧ l ∉ prev.take i) (m := prev.length) (by omega) ⟨0, rfl, rfl, by omega, rfl, rfl, by simp⟩ ?_
 rintro m z2 z3 z4 z5 _ _ R ⟨i, rfl, rfl, hi, rfl, rfl, htk⟩ hR
 simp (disch := omega) only [sAdd, sSub, sMul, sEql, sNeq, sLss, sLeq, sGtr, sGeq, sPick_t, sPick_f, sCond_t, sCond_f, sG_tt, sG_ff, sG_tf, sG_ft, sNot_b, sExt0, sExt1, sExt2, sPart0, sPart1, sPart2, sLen_lst, sLen_sl, sLen_nils, sSame_refl, decide_true, decide_false, Bool.not_true, Bool.not_false, sChk_t]
 by_cases hlt : i < prev.length
 ·simp only [show (i : Int) < (prev.length : Int) by omega, decide_true, sCond_t]
  have hx : prev[i]? = some prev[i] := List.getElem?_eq_getElem hlt
  rw [sIxL rfl hlt, ldL (getT hx)]
  refine sameInts35 (hw _ (List.getElem_mem hlt)) _ _ _ _ ?_
  rintro _ rfl _
  by_cases he : prev[i] = l
  ·simp only [he, decide_true, sCond_t]
   refine hK _ ?_ hf
   rw [decide_eq_true (he ▸ List.getElem_mem hlt)]
  ·simp only [he, decide_false, sCond_f]
   refine hR _ _ _ _ _ _ _ (by omega) ⟨i + 1, rfl, rfl, by omega, rfl, rfl, fun q => ?_⟩
   rw [List.take_add_one, hx] at q
   rcases List.mem_append.1 q with q | q
   ·exact htk q
   ·simp at q; exact he q.symm
 ·simp only [show ¬ (i : Int) < (prev.length : Int) by omega, decide_false, sCond_f]
  rw [F90.k8]
  rw [List.take_of_length_le (by omega)] at htk
  refine hK _ ?_ hf
  rw [decide_eq_false htk]
end Go.Ev
namespace Go.Ev
open Go Go.Proofs
variable {B : Nat}
end Go.Ev
namespace Go.Ev
open Go Go.Proofs
variable {B : Nat}
theorem own_plain {P : Program} {f : Nat} {p id : Pa} {h0 h : T Blk} {nx : Pa} {L : List Ob} {k : Nat} {l : List Int} {K : Kw Prop} {Q : AV → Prop} (H : Hp h0 h nx L) (hk : L[k]? = some (.arr id (l.map I))) (hq : ∀ B, Pure P B f [encI l] Q) (hpl : ∀ v, Q v → Plain v)
  (hK : ∀ v, Q v → K v h nx = .ok True) : (CS P B).fn f p [.sl id 0 l.length (some l.length) 1] h nx K = .ok True :=
 CS_plain (.cons (HasArr.frz (H.own _ (List.mem_of_getElem? hk)) (T.get_e _ id) (Nat.le_refl _) (by simp) fun v hv => by obtain ⟨x, _, rfl⟩ := List.mem_map.1 hv; rfl) .nil) (by
  have := fixd_encI l
  simp only [nns, fixd.nn this, Bool.and_self]) hq hpl fun v hv _ => hK v hv
theorem contF131 {h : T Blk} {nx : Pa} {l : List Int} {g : Nat} {p q : Pa} {cap : List AV} {pr : Int → Bool} {K : Kw Prop} (hl : l.length ≤ 1000000) (hcl : ∀ x ∈ l, ∀ K : Kw Prop, K (.bool (pr x)) h nx = .ok True → (CS Tryz.prog B).fn g q (I x :: cap) h nx K = .ok True)
  (hK : K (.bool (l.any pr)) h nx = .ok True) : (CS Tryz.prog B).fn 173 p [encI l, .fn g q cap] h nx K = .ok True := by
 refine CS_fn_mono (p := .of 173) (K := K) (by_body tbl_ok dreg 9 fun hf => ?_) fun _ _ _ _ q => q
 rw [F173.go]
 refine CS_fn_mono (p := .of 184) (K := fun v1 h2 n3 => sBin .geq .int v1 (I 0) fun v4 => K v4 h2 n3) (by_body tbl_ok dreg 10000000 fun hf => ?_) fun _ _ _ _ q => q
 rw [F184.go]
 simp (disch := omega) only [sAdd, sSub, sMul, sEql, sNeq, sLss, sLeq, sGtr, sGeq, sPick_t, sPick_f, sCond_t, sCond_f, sG_tt, sG_ff, sG_tf, sG_ft, sNot_b, sExt0, sExt1, sExt2, sPart0, sPart1, sPart2, sLen_lst, sLen_sl, sLen_nils, sSame_refl, decide_true, decide_false, Bool.not_true, Bool.not_false, sChk_t]
 refine F184.L1 (fun m z5 h' nx' => ∃ i : Nat, z5 = I i ∧ l.length - i = m ∧ i ≤ l.length ∧ h' = h ∧ nx' = nx ∧ (l.take i).any pr = false) (m := l.length) (by omega) ⟨0, rfl, rfl, by omega, rfl, rfl, by simp⟩ ?_
 rintro m z2 z3 z5 z6 z7 _ _ R ⟨i, rfl, rfl, hi, rfl, rfl, htk⟩ hR
 simp (disch := omega) only [sAdd, sSub, sMul, sEql, sNeq, sLss, sLeq, sGtr, sGeq, sPick_t, sPick_f, sCond_t, sCond_f, sG_tt, sG_ff, sG_tf, sG_ft, sNot_b, sExt0, sExt1, sExt2, sPart0, sPart1, sPart2, sLen_lst, sLen_sl, sLen_nils, sSame_refl, decide_true, decide_false, Bool.not_true, Bool.not_false, sChk_t]
 by_cases hlt : i < l.length
 ·simp only [show (i : Int) < (l.length : Int) by omega, decide_true, sCond_t]
  have hx : l[i]? = some l[i] := List.getElem?_eq_getElem hlt
  rw [sIxL rfl hlt, ldL (getI hx), sCall_fn]
  refine hcl _ (List.getElem_mem hlt) _ ?_
  cases he : pr l[i] with
  | true =>
   simp only [sCond_t, sGeq, show (0 : Int) ≤ (i : Int) by omega, decide_true]
   rw [List.any_eq_true.2 ⟨_, List.getElem_mem hlt, he⟩] at hK
   exact hK
  | false =>
   simp only [sCond_f]
   refine hR _ _ _ _ _ _ _ _ (by omega) ⟨i + 1, rfl, rfl, by omega, rfl, rfl, ?_⟩
   rw [List.take_add_one, hx, List.any_append, htk]
   simp [he]
 ·simp only [show ¬ (i : Int) < (l.length : Int) by omega, decide_false, sCond_f]
  rw [F184.k8]
  rw [List.take_of_length_le (by omega)] at htk
  rw [htk] at hK
  simp only [sGeq, show ¬ (0 : Int) ≤ -1 by omega, decide_false]
  exact hK
theorem from122 {a b : Int} {l : List Int} (hl : l.length ≤ 1000000) : Pure Tryz.prog B 87 [I a, I b, encI l] (· = I (if l.any (fun x => decide (x < a) || decide (b < x)) then 3 else 0)) := by
 refine pure_hp fun h nx K H0 hK => by_body tbl_ok dreg 1000 fun hf => ?_
 rw [F87.go]
 refine H0.box (l := [I a]) rfl fun x1 h1 nx1 H1 => ?_
 refine H1.box (l := [I b]) rfl fun x2 h2 nx2 H2 => ?_
 refine contF131 (pr := fun x => decide (x < a) || decide (b < x)) hl (fun x _ K hK => ?_) ?_
 ·refine CS_fn_mono (p := .of 174) (K := K) (by_body tbl_ok dreg 9 fun hf => ?_) fun _ _ _ _ q => q
  show callFn tbl 9 _ (Pa.of 174) [I x, .ptr x1 0, .ptr x2 0] _ _ _ = _
  rw [F174.go, H2.load (k := 1) (i := 0) rfl rfl]
  by_cases c : x < a
  ·simp only [sLss, c, decide_true, sG_tf, sPick_t]
   simpa [c] using hK
  ·simp only [sLss, c, decide_false, sG_ff]
   rw [H2.load (k := 0) (i := 0) rfl rfl]
   simp only [sGtr, sPick_f]
   simpa [c] using hK
 ·refine when123 _ _ _ _ _ _ ?_
  rintro _ rfl _
  exact hK _ _ _ _ _ H2 (frz_fixd rfl) rfl
end Go.Ev
namespace Go.Ev
def AscL (cells : Nat) (l : List Int) : Prop := l ≠ [] ∧ l.Pairwise (· < ·) ∧ ∀ c ∈ l, 0 ≤ c ∧ c < (cells : Int)
end Go.Ev
namespace Go.Ev
open Go Go.Proofs
variable {B : Nat}
theorem sGW_tt (op : KW3 → OP) (h : T Blk) (nx : Pa) (k : KW3) : sGW (.bool true) true op h nx k = op k := nr rfl
theorem sGW_ft (op : KW3 → OP) (h : T Blk) (nx : Pa) (k : KW3) : sGW (.bool false) true op h nx k = k .undef h nx := nr rfl
end Go.Ev
namespace Go.Ev
open Go Go.Proofs
variable {B : Nat}
end Go.Ev
namespace Go.Ev
open Go Go.Proofs
variable {B : Nat}
set_option maxRecDepth 100000
theorem sLoad_fp1 {h : T Blk} (a : AV) (l : List AV) (K : AV → OP) : sLoad (.fp (a :: l)) h K = K a := nr rfl
theorem sCall_yld {P : Program} {id : Pa} {args : List AV} {h : T Blk} {nx : Pa} {K : Kw Prop} : sCall (CS P B) (.yld id) args h nx K = (CS P B).yld id args h nx K := nr rfl
theorem iter153 {h : T Blk} {nx : Pa} {p id : Pa} {l : List Int} {K : Kw Prop} (J : Nat → T Blk → Pa → Prop) (hl : l.length ≤ 1000000) (hJ : J 0 h nx)
  (step : ∀ (i : Nat) (x : Int) (h : T Blk) (nx : Pa) (K : Kw Prop), l[i]? = some x → J i h nx → Fr h nx → (∀ h' nx', J (i + 1) h' nx' → K (.bool true) h' nx' = .ok True) → (CS Tryz.prog B).yld id [I x] h nx K = .ok True)
  (fr : ∀ i h nx, J i h nx → Fr h nx) (hK : ∀ h' nx', J l.length h' nx' → K (.tup []) h' nx' = .ok True) : (CS Tryz.prog B).fn 244 p [.yld id, .fp [encI l]] h nx K = .ok True := by
 refine CS_fn_mono (p := .of 244) (K := K) (by_body tbl_ok dreg 10000000 fun hf => ?_) fun _ _ _ _ q => q
 rw [F244.go, sLoad_fp1]
 simp only [sLen_lst]
 refine F244.L1 (fun m z5 h' nx' => ∃ i : Nat, z5 = I i ∧ l.length - i = m ∧ i ≤ l.length ∧ J i h' nx') (m := l.length) (by omega) ⟨0, rfl, rfl, by omega, hJ⟩ ?_
 rintro m z2 z5 z6 z7 h1 nx1 R ⟨i, rfl, rfl, hi, hJ1⟩ hR
 simp (disch := omega) only [sAdd, sSub, sMul, sEql, sNeq, sLss, sLeq, sGtr, sGeq, sPick_t, sPick_f, sCond_t, sCond_f, sG_tt, sG_ff, sG_tf, sG_ft, sNot_b, sExt0, sExt1, sExt2, sPart0, sPart1, sPart2, sLen_lst, sLen_sl, sLen_nils, sSame_refl, decide_true, decide_false, Bool.not_true, Bool.not_false, sChk_t]
 by_cases hlt : i < l.length
 ·simp only [show (i : Int) < (l.length : Int) by omega, decide_true, sCond_t]
  have hx : l[i]? = some l[i] := List.getElem?_eq_getElem hlt
  rw [sIxL rfl hlt, ldL (getI hx), sCall_yld]
  refine step i _ _ _ _ hx hJ1 (fr _ _ _ hJ1) fun h2 nx2 hJ2 => ?_
  simp only [sNot_b, Bool.not_true, sCond_f]
  try rw [sAdd (by omega)]
  exact hR _ _ _ _ _ _ _ (by omega) ⟨i + 1, rfl, rfl, by omega, hJ2⟩
 ·simp only [show ¬ (i : Int) < (l.length : Int) by omega, decide_false, sCond_f]
  obtain rfl : i = l.length := by omega
  exact hK _ _ hJ1
theorem Hp.addGro {h0 h : T Blk} {nx : Pa} {L : List Ob} (H : Hp h0 h nx L) (e : Nat) : Hp h0 h nx (.gro none e 0 [] :: L) :=
  ⟨H.keep, fun x hx => by rcases List.mem_cons.1 hx with rfl | q; · exact ⟨rfl, rfl⟩
                          · exact H.own x q, fun n hn => H.off n (by simpa [Ob.names] using hn), by have := H.nd; simpa [Ob.names] using this, H.fr⟩
theorem getLoop {h0 h : T Blk} {nx : Pa} {L : List Ob} {id : Pa} {b : Blk} {k : Nat} (H : Hp h0 h nx L) (hk : L[k]? = some (.raw id b)) : T.get .no id h = b := (H.own _ (List.mem_of_getElem? hk)).1
theorem Hp.setRaw {h0 h : T Blk} {nx : Pa} {L : List Ob} {id : Pa} {b b' : Blk} {k : Nat} (H : Hp h0 h nx L) (hk : L[k]? = some (.raw id b)) (hb : b' ≠ .no) : Hp h0 (T.set .no b' id h) nx (L.set k (.raw id b')) :=
 H.upd hk (by simp [Ob.names]) rfl ⟨T.get_set_same _ _ _ _, hb⟩
theorem append173 {h0 h : T Blk} {nx : Pa} {L : List Ob} {p q : Pa} {l : List Int} {K : Kw Prop} (hl : l.length ≤ 100000) (H : Hp h0 h nx L)
  (hK : ∀ o h' nx', Hp h0 h' nx' (.gro o 1 l.length (l.map I) :: L) → K (rowV o 1 l.length) h' nx' = .ok True) : (CS Tryz.prog B).fn 282 p [.nils, .fn 244 q [.fp [encI l]]] h nx K = .ok True := by
 refine CS_fn_mono (p := .of 282) (K := K) (by_body tbl_ok dreg 10000000 fun hf => ?_) fun _ _ _ _ q => q
 rw [F282.go]
 refine H.box (l := [.nils]) rfl fun bx h1 nx1 H1 => ?_
 refine H1.rf (g := 244) (p := q) (cap := [.fp [encI l]]) rfl fun id h2 nx2 H2 => ?_
 refine iter153 (fun i h' nx' => ∃ o, Hp h0 h' nx' (.raw id (.loop .ready .none (F282.fr .nils (.fn 244 q [.fp [encI l]]) (.ptr bx 0) .nils .undef (.fn 244 q [.fp [encI l]]) .undef) [.of 6] F282.b3 F282.b4) :: .arr bx [rowV o 1 i] :: .gro o 1 i ((l.take i).map I) :: L)) (by omega) ⟨none, ?_⟩ ?_ (fun _ _ _ ⟨_, q⟩ => q.fr) ?_
 ·have := H2.addGro 1
  exact this.perm ((List.Perm.swap _ _ _).trans (.cons _ (.swap _ _ _)))
 ·rintro i x h3 nx3 K3 hx ⟨o, H3⟩ _ hnext
  have hi : i < l.length := (List.getElem?_eq_some_iff.1 hx).1
  refine by_round (fns := tbl) dreg 100 fun hf => ?_
  rw [F282.y4 (getLoop H3 (k := 0) rfl) rfl]
  have H4 := H3.setRaw (k := 0) rfl (b' := .loop .busy .none (F282.fr .nils (.fn 244 q [.fp [encI l]]) (.ptr bx 0) .nils .undef (.fn 244 q [.fp [encI l]]) .undef) [.of 6] F282.b3 F282.b4) (by intro e; cases e)
  rw [H4.load (k := 1) (i := 0) rfl rfl]
  refine H4.bslice (l := [I x]) rfl fun e5 h5 nx5 H5 => ?_
  refine H5.appN (k := 3) (o := o) (c := 1) (new := [I x]) rfl (HasArr.rd (l := [I x]) (n := 1) (H5.own _ (List.mem_cons_self ..)) rfl) rfl rfl (by decide) (by decide) (by omega) fun o' h6 nx6 ho H6 => ?_
  refine H6.store (k := 2) rfl (by simp) (rowV_cells _ _ _) fun h7 H7 => ?_
  refine H7.rend (k := 1) rfl fun h8 H8 => ?_
  refine hnext _ _ ⟨o', (H8.drop).cast ?_⟩
  have e1 : (l.take (i + 1)).map I = (l.take i).map I ++ [I x] := by rw [List.take_add_one, hx]; simp
  rw [e1]; rfl
 ·rintro h3 nx3 ⟨o, H3⟩
  rw [List.take_length] at H3
  refine H3.rfEnd fun h4 H4 => ?_
  rw [rfEnd_on, F282.k6, H4.load (k := 0) (i := 0) rfl rfl]
  exact hK _ _ _ H4.drop
theorem values126 {l : List Int} : Pure Tryz.prog B 171 [encI l] (· = .fn 244 (.of 244) [.fp [encI l]]) := by
 refine pure_hp fun h nx K H0 hK => by_body tbl_ok dreg 10000000 fun hf => ?_
 rw [F171.go]
 refine H0.box (l := [encI l]) rfl fun bx h1 nx1 H1 => ?_
 obtain ⟨op, t, g1, g2⟩ : HasArr h1 bx [encI l] := H1.own _ (List.mem_cons_self ..)
 refine hK _ _ _ _ (.fn 244 (.of 244) [.fp [encI l]]) H1 (.fn _ _ _ _ rfl fun i v v' h2 h3 => ?_) rfl
 match i with
 | 0 =>
  simp only [List.getElem?_cons_zero, Option.some.injEq] at h2 h3
  subst h2 h3
  refine .ptr _ _ op _ t _ (H1.off bx (by simp [Ob.names])) g1 (by simp) (by simp [scal]) fun i v hv => ?_
  match i with
  | 0 =>
   simp only [List.getElem?_cons_zero, Option.some.injEq] at hv
   subst hv
   have := rdList_get t 0 1 0 (by omega)
   have g2 : rdList t 0 1 = [encI l] := g2
   rw [g2] at this
   simp only [List.getElem?_cons_zero, Option.some.injEq] at this
   rw [← this]
   exact frz_fixd (fixd_encI l)
  | i + 1 => simp at hv
 | i + 1 => simp at h2
end Go.Ev
namespace Go.Ev
open Go Go.Proofs
variable {B : Nat}
theorem sort152 {h0 h : T Blk} {nx p : Pa} {L : List Ob} {k n : Nat} {o : Option Pa} {l : List Int} {K : Kw Prop} (hj : ∀ B, JOk Tryz.prog B hookS) (H : Hp h0 h nx L) (hk : L[k]? = some (.gro o 1 n (l.map I))) (hn : n ≤ 1000000)
  (hK : ∀ h', Hp h0 h' nx (L.set k (.gro o 1 n ((srt l).map I))) → K (.tup []) h' nx = .ok True) : (CS Tryz.prog B).fn 243 p [rowV o 1 n] h nx K = .ok True := by
 have own := H.own _ (List.mem_of_getElem? hk)
 cases o with
 | none =>
  obtain ⟨q1, rfl⟩ := own
  obtain rfl : l = [] := by simpa using q1
  refine CS_hook (hj B) (v := .tup []) (h2 := h) rfl (hK h (H.cast ?_))
  have e : (srt ([] : List Int)).map I = [] := by simp [srt]
  rw [e, (getSplit hk).2]; exact (getSplit hk).1
 | some id =>
  obtain ⟨t, h1, h2, h3⟩ := own
  rw [Nat.mul_one] at h1 h2 h3
  have e1 : sortJ (.sl id 0 n none 1) h = some (T.set Blk.no (Blk.cells true n (wrList ((srt l).map I) t 0)) id h) := by
   show (match T.get Blk.no id h with
    | .cells op m t => bif Nat.beq 1 1 && Nat.ble (0 + n) m && Nat.ble n 1000000 then (match intsA (rdList t 0 n) with
     | some l => some (T.set Blk.no (Blk.cells op m (wrList ((srt l).map I) t 0)) id h)
     | none => none) else none
    | _ => none) = _
   rw [h1]
   show (bif Nat.beq 1 1 && Nat.ble (0 + n) n && Nat.ble n 1000000 then (match intsA (rdList t 0 n) with
     | some l => some (T.set Blk.no (Blk.cells true n (wrList ((srt l).map I) t 0)) id h)
     | none => none) else none) = _
   rw [Nat.ble_eq_true_of_le (by omega), Nat.ble_eq_true_of_le hn, h3, intsA_map]; rfl
  have e2 : hookS 243 [rowV (some id) 1 n] h = some (.tup [], T.set Blk.no (Blk.cells true n (wrList ((srt l).map I) t 0)) id h) := by
   show (match sortJ (.sl id 0 n none 1) h with
    | some h => some ((.tup [] : AV), h)
    | none => none) = _
   rw [e1]
  refine CS_hook (hj B) e2 (hK _ (H.upd hk (by simp [Ob.names]) rfl ⟨_, by rw [T.get_set_same, Nat.mul_one], by simpa using h2, ?_⟩))
  have := rdList_wr t [] ((srt l).map I) 0 rfl
  rw [Nat.zero_add, List.nil_append] at this
  have hl : ((srt l).map I).length = n := by simpa using h2
  rw [hl] at this
  rw [Nat.mul_one]; exact this
theorem sorted125 {l : List Int} (hj : ∀ B, JOk Tryz.prog B hookS) (hl : l.length ≤ 100000) : Pure Tryz.prog B 170 [.fn 244 (.of 244) [.fp [encI l]]] (· = encI (srt l)) := by
 refine pure_hp fun h nx K H0 hK => by_body tbl_ok dreg 100 fun hf => ?_
 rw [F170.go]
 refine CS_fn_mono (p := .of 242) (K := fun v1 h2 n3 => (CS Tryz.prog B).fn 243 (.of 243) [v1] h2 n3 fun v4 h5 n6 => K v1 h5 n6) (by_body tbl_ok dreg 100 fun hf => ?_) fun _ _ _ _ q => q
 rw [F242.go]
 refine append173 hl H0 fun o h1 nx1 H1 => ?_
 refine sort152 hj H1 (k := 0) rfl (by omega) fun h2 H2 => ?_
 refine hK _ _ _ _ _ H2 (H2.frzGro (k := 0) rfl (by intro v hv; obtain ⟨t, _, rfl⟩ := List.mem_map.1 hv; rfl)) ?_
 show _ = AV.lst 1 _ _
 rw [srt_length]
end Go.Ev
namespace Go.Ev
def addVx (s : List Int) (v x : Int) : List Int := s.set v.toNat (s.getD v.toNat 0 + x)
def vs1 (s : List Int) (e : Int × Int) (x : Int) : List Int := addVx (addVx s e.1 x) e.2 x
def vsG (s : List Int) (E : List (Int × Int)) (ls : List Int) : List Int := (E.zip ls).foldl (fun s p => vs1 s p.1 p.2) s
def vsF (V : Nat) (E : List (Int × Int)) (ls : List Int) : List Int := vsG (List.replicate V 0) E ls
theorem addVx_len (s : List Int) (v x : Int) : (addVx s v x).length = s.length := by simp [addVx]
theorem vs1_len (s : List Int) (e : Int × Int) (x : Int) : (vs1 s e x).length = s.length := by simp [vs1, addVx_len]
theorem vsG_len : ∀ (E : List (Int × Int)) (ls s : List Int), (vsG s E ls).length = s.length
 | [], ls, s => rfl
 | e :: E, [], s => rfl
 | e :: E, x :: ls, s => by
  show (vsG (vs1 s e x) E ls).length = _
  rw [vsG_len E ls, vs1_len]
theorem vsF_len (V : Nat) (E : List (Int × Int)) (ls : List Int) : (vsF V E ls).length = V := by rw [vsF, vsG_len]; simp
theorem vsG_snoc : ∀ (E : List (Int × Int)) (ls : List Int) (s : List Int) (x : Int) (e : Int × Int), E[ls.length]? = some e → vsG s E (ls ++ [x]) = vs1 (vsG s E ls) e x
 | [], ls, s, x, e, h => by simp at h
 | a :: E, [], s, x, e, h => by
  simp at h; subst h; cases E <;> rfl
 | a :: E, y :: ls, s, x, e, h => by
  show vsG (vs1 s a y) E (ls ++ [x]) = vs1 (vsG (vs1 s a y) E ls) e x
  exact vsG_snoc E ls _ x e (by simpa using h)
theorem vsF_snoc {V : Nat} {E : List (Int × Int)} {ls : List Int} {x : Int} {e : Int × Int} (h : E[ls.length]? = some e) : vsF V E (ls ++ [x]) = vs1 (vsF V E ls) e x := vsG_snoc E ls _ x e h
def Sm (s : List Int) (M : Nat) : Prop := ∀ v ∈ s, 0 ≤ v ∧ v ≤ (M : Int)
theorem Sm.get {s : List Int} {M : Nat} (h : Sm s M) (i : Nat) : 0 ≤ s.getD i 0 ∧ s.getD i 0 ≤ (M : Int) := by
 rw [List.getD_eq_getElem?_getD]
 cases e : s[i]? with
 | none => simp
 | some v => exact h v (List.mem_of_getElem? e)
theorem Sm.mono {s : List Int} {M N : Nat} (h : Sm s M) (hm : M ≤ N) : Sm s N := fun v hv => by have := h v hv; omega
theorem Sm.add {s : List Int} {M X : Nat} {v x : Int} (h : Sm s M) (hx : 0 ≤ x ∧ x ≤ (X : Int)) : Sm (addVx s v x) (M + X) := by
 intro u hu
 have g := h.get v.toNat
 rcases List.mem_or_eq_of_mem_set hu with q | rfl
 ·have := h u q; omega
 ·omega
theorem Sm.vs1 {s : List Int} {M X : Nat} {e : Int × Int} {x : Int} (h : Sm s M) (hx : 0 ≤ x ∧ x ≤ (X : Int)) : Sm (Ev.vs1 s e x) (M + 2 * X) := by
 have := (h.add (v := e.1) hx).add (v := e.2) hx
 exact this.mono (by omega)
theorem vsG_sm {X : Nat} : ∀ (E : List (Int × Int)) (ls s : List Int) (M : Nat), Sm s M → (∀ x ∈ ls, 0 ≤ x ∧ x ≤ (X : Int)) → Sm (vsG s E ls) (M + ls.length * (2 * X))
 | [], ls, s, M, h, _ => h.mono (by omega)
 | e :: E, [], s, M, h, _ => h.mono (by omega)
 | e :: E, x :: ls, s, M, h, hl => by
  have := vsG_sm E ls (vs1 s e x) (M + 2 * X) (h.vs1 (hl x (by simp))) fun y hy => hl y (by simp [hy])
  refine Sm.mono this ?_
  rw [List.length_cons, Nat.add_mul]; omega
theorem vsF_sm {V X : Nat} {E : List (Int × Int)} {ls : List Int} (hl : ∀ x ∈ ls, 0 ≤ x ∧ x ≤ (X : Int)) : Sm (vsF V E ls) (ls.length * (2 * X)) := by
 have := vsG_sm E ls (List.replicate V 0) 0 (by intro v hv; simp at hv; omega) hl
 rwa [Nat.zero_add] at this
theorem nodup_snoc {pre : List Int} {x : Int} (h : pre.Nodup) : (pre ++ [x]).Nodup ↔ x ∉ pre := by
 rw [List.nodup_append]
 constructor
 ·intro q hx
  exact q.2.2 x hx x (by simp) rfl
 ·intro q
  exact ⟨h, by simp, fun a ha b hb e => by simp at hb; subst hb; subst e; exact q ha⟩
theorem addVx_get {s : List Int} {v x : Int} {k : Nat} (h : v.toNat < s.length) : (addVx s v x).getD k 0 = s.getD k 0 + if v.toNat = k then x else 0 := by
 unfold addVx
 rw [List.getD_eq_getElem?_getD, List.getElem?_set, List.getD_eq_getElem?_getD, List.getD_eq_getElem?_getD]
 by_cases c : v.toNat = k
 ·subst c; rw [if_pos rfl, if_pos rfl, if_pos h]; rfl
 ·rw [if_neg c, if_neg c]; simp
def vS : List (Int × Int) → List Int → Nat → Int
 | e :: E, x :: ls, v => (if e.1 = (v : Int) ∨ e.2 = (v : Int) then x else 0) + vS E ls v
 | _, _, _ => 0
theorem vs1_get {s : List Int} {e : Int × Int} {x : Int} {k : Nat} (h1 : 0 ≤ e.1 ∧ e.1 < (s.length : Int)) (h2 : 0 ≤ e.2 ∧ e.2 < (s.length : Int)) (hne : e.1 < e.2) : (vs1 s e x).getD k 0 = s.getD k 0 + if e.1 = (k : Int) ∨ e.2 = (k : Int) then x else 0 := by
 unfold vs1
 rw [addVx_get (by rw [addVx_len]; omega), addVx_get (by omega)]
 by_cases c1 : e.1 = (k : Int)
 ·rw [if_pos (by omega), if_neg (by omega), if_pos (.inl c1)]; omega
 ·by_cases c2 : e.2 = (k : Int)
  ·rw [if_neg (by omega), if_pos (by omega), if_pos (.inr c2)]; omega
  ·rw [if_neg (by omega), if_neg (by omega), if_neg (by omega)]; omega
theorem vsG_get {V : Nat} {k : Nat} : ∀ (E : List (Int × Int)) (ls s : List Int), s.length = V → (∀ e ∈ E, (0 ≤ e.1 ∧ e.1 < (V : Int) ∧ 0 ≤ e.2 ∧ e.2 < (V : Int)) ∧ e.1 < e.2) → (vsG s E ls).getD k 0 = s.getD k 0 + vS E ls k
 | [], ls, s, _, _ => by simp [vsG, vS]
 | e :: E, [], s, _, _ => by simp [vsG, vS]
 | e :: E, x :: ls, s, hs, hE => by
  obtain ⟨⟨a1, a2, a3, a4⟩, a5⟩ := hE e (by simp)
  show (vsG (vs1 s e x) E ls).getD k 0 = _
  rw [vsG_get E ls _ (by rw [vs1_len, hs]) (fun e he => hE e (by simp [he])), vs1_get (by omega) (by omega) a5, vS]
  omega
theorem vsF_eq {V : Nat} {E : List (Int × Int)} {ls : List Int} (hE : ∀ e ∈ E, (0 ≤ e.1 ∧ e.1 < (V : Int) ∧ 0 ≤ e.2 ∧ e.2 < (V : Int)) ∧ e.1 < e.2) : vsF V E ls = (List.range V).map fun v => vS E ls v := by
 apply List.ext_getElem?
 intro i
 by_cases h : i < V
 ·have e := vsG_get (k := i) E ls (List.replicate V 0) (by simp) hE
  have hl : i < (vsF V E ls).length := by rw [vsF_len]; exact h
  rw [List.getD_eq_getElem?_getD, show vsG (List.replicate V 0) E ls = vsF V E ls from rfl, List.getElem?_eq_getElem hl] at e
  rw [List.getElem?_eq_getElem hl, List.getElem?_map, List.getElem?_range h]
  simp only [Option.getD_some, Option.map_some] at e ⊢
  rw [e, List.getD_eq_getElem?_getD, List.getElem?_replicate, if_pos h]; simp
 ·rw [List.getElem?_eq_none (by rw [vsF_len]; omega), List.getElem?_eq_none (by simp; omega)]
theorem vS_snoc : ∀ (E : List (Int × Int)) (ls : List Int) (x : Int) (e : Int × Int) (v : Nat), E[ls.length]? = some e → vS E (ls ++ [x]) v = vS E ls v + if e.1 = (v : Int) ∨ e.2 = (v : Int) then x else 0
 | [], ls, x, e, v, h => by simp at h
 | a :: E, [], x, e, v, h => by
  simp at h; subst h
  cases E <;> simp [vS]
 | a :: E, y :: ls, x, e, v, h => by
  show (if a.1 = (v : Int) ∨ a.2 = (v : Int) then y else 0) + vS E (ls ++ [x]) v = _
  rw [vS_snoc E ls x e v (by simpa using h), vS]
  omega
theorem vS_bd {E : List (Int × Int)} {ls : List Int} {v : Nat} (h : ∀ x ∈ ls, 0 ≤ x ∧ x ≤ 1000) : 0 ≤ vS E ls v ∧ vS E ls v ≤ 1000 * (ls.length : Int) := by
 induction ls generalizing E with
 | nil => cases E <;> simp [vS]
 | cons x ls ih =>
  cases E with
  | nil => simp [vS]; omega
  | cons e E =>
   have := ih (E := E) fun y hy => h y (by simp [hy])
   have := h x (by simp)
   rw [vS, List.length_cons]
   split <;> omega
end Go.Ev
namespace Go.Ev
open Go Go.Proofs
set_option maxRecDepth 100000
variable {N : Nat} {C : Calls Prop} {K0 : Kw Prop} {K R : Ks Prop} {h : T Blk} {nx : Pa} {x0 x1 x2 x3 x4 x5 x6 x7 x8 x9 x10 a0 a1 a2 a3 : AV}
theorem F168.tab : T.get none (.of 168) tbl = some F168 := by kernel_rfl
theorem F168.go : callFn tbl N C (.of 168) [a0, a1] h nx K0 =
 sBox a0 h nx fun v1 h2 n3 =>
 sLoadN 2 v1 h2 fun v4 =>
 sLen a1 fun v5 =>
 sFaddr 1 v1 fun v6 =>
 sLoad v6 h2 fun v7 =>
 sLen v7 fun v8 =>
 sBin .neq .int v5 v8 fun v9 =>
 C.fn 20 (.of 20) [v4] h2 n3 fun v10 h11 n12 =>
 sSame a1 a1 ((sBin .neq .int v5 v8 fun v33 => sSame v33 v9 ((sLen v7 fun v32 => sSame v32 v8 ((sLoad v6 h11 fun v31 => sSame v31 v7 ((sFaddr 1 v1 fun v30 => sSame v30 v6 ((sLen a1 fun v29 => sSame v29 v5 (sSame a1 a1 (C.fn 88 (.of 88) [v9, (I 2)] h11 n12 fun v13 h14 n15 =>
 sSame a1 a1 (C.fn 136 (.of 136) [a1] h14 n15 fun v16 h17 n18 =>
 sNot v16 fun v19 =>
 C.fn 88 (.of 88) [v19, (I 14)] h17 n18 fun v20 h21 n22 =>
 sBslice 1 3 [(I 0)] [(0, 1, v10), (1, 1, v13), (2, 1, v20)] h21 n22 fun v23 h24 n25 =>
 C.fn 86 (.of 86) [v23] h24 n25 fun v26 h27 n28 =>
 K0 v26 h27 n28))))))))))))) := by
 rw [callFn_of F168.tab]; kernel_rfl
theorem F169.g1_eq (X2 : IR) (O : Outs Prop) (t : T AV) : IR.run (F169.g1 X2) C N O K t h nx = IR.run X2 C N (O.blk 0 K) K t h nx := by kernel_rfl
theorem F169.tab : T.get none (.of 169) tbl = some F169 := by kernel_rfl
theorem F169.go : callFn tbl N C (.of 169) [a0, a1] h nx K0 =
 sBox a0 h nx fun v1 h2 n3 =>
 sFaddr 0 v1 fun v4 =>
 sLoad v4 h2 fun v5 =>
 sMkslice 1 8 [(I 0)] v5 v5 h2 n3 fun v6 h7 n8 =>
 sFaddr 1 v1 fun v9 =>
 sLoad v9 h7 fun v10 =>
 sLen v10 fun v11 =>
 IR.run F169.b1 C N (fnO F169.res K0) (IR.run F169.b8 C N (fnO F169.res K0) (retK F169.res K0)) (F169.fr a0 a1 v1 .nils v6 .undef .undef v10 v11 (I 0) .undef) h7 n8 := by
 rw [callFn_of F169.tab]; kernel_rfl
theorem F169.L1 (Inv : Nat → AV → T Blk → Pa → Prop) {m : Nat} (hm : m < N) (hi : Inv m x9 h nx)
  (step : ∀ (m : Nat) (z5 z6 z9 z10 : AV) (h : T Blk) (nx : Pa) (R : Ks Prop), Inv m z9 h nx → (∀ (m' : Nat) (w5 w6 w9 w10 : AV) (h' : T Blk) (nx' : Pa), m' < m → Inv m' w9 h' nx' → R (F169.fr x0 x1 x2 x3 x4 w5 w6 x7 x8 w9 w10) h' nx' = .ok True) →
   (sBin .lss .int z9 x8 fun v1 =>
 sCond v1 (sIaddr 2 x7 z9 fun v2 =>
 sLoadN 2 v2 h fun v3 =>
 sAlloc [(I 0), (I 0)] h nx fun v4 h5 n6 =>
 sStore 2 v4 v3 h5 n6 fun v7 h8 n9 =>
 sAaddr 1 2 v4 (I 0) fun v10 =>
 sLoad v10 h8 fun v11 =>
 sIaddr 1 x4 v11 fun v12 =>
 sLoad v12 h8 fun v13 =>
 sIaddr 1 x1 z9 fun v14 =>
 sLoad v14 h8 fun v15 =>
 sBin .add .int v13 v15 fun v16 =>
 sIaddr 1 x4 v11 fun v17 =>
 sStore 1 v17 v16 h8 n9 fun v18 h19 n20 =>
 sAaddr 1 2 v4 (I 1) fun v21 =>
 sLoad v21 h19 fun v22 =>
 sIaddr 1 x4 v22 fun v23 =>
 sLoad v23 h19 fun v24 =>
 sIaddr 1 x1 z9 fun v25 =>
 sLoad v25 h19 fun v26 =>
 sBin .add .int v24 v26 fun v27 =>
 sIaddr 1 x4 v22 fun v28 =>
 sStore 1 v28 v27 h19 n20 fun v29 h30 n31 =>
 sBin .add .int z9 (I 1) fun v32 =>
 R (F169.fr x0 x1 x2 x3 x4 z9 v4 x7 x8 v32 v1) h30 n31) (K (F169.fr x0 x1 x2 x3 x4 z5 z6 x7 x8 z9 v1) h nx)) = .ok True) :
  IR.run F169.b1 C N (fnO F169.res K0) K (F169.fr x0 x1 x2 x3 x4 x5 x6 x7 x8 x9 x10) h nx = .ok True := by
 rw [F169.b1, F169.g1_eq, F169.b2]
 refine loop_ok (fun m tm h nx => ∃ z5 z6 z9 z10, tm = (F169.fr x0 x1 x2 x3 x4 z5 z6 x7 x8 z9 z10) ∧ Inv m z9 h nx) ?_ hm ⟨_, _, _, _, rfl, hi⟩
 rintro m tm h nx R ⟨z5, z6, z9, z10, rfl, hi⟩ hR
 refine Eq.trans ?_ (step m z5 z6 z9 z10 h nx R hi fun m' w5 w6 w9 w10 h' nx' hlt hi' => hR m' _ h' nx' hlt ⟨_, _, _, _, rfl, hi'⟩)
 kernel_rfl
theorem F169.k8 : IR.run F169.b8 C N (fnO F169.res K0) K (F169.fr x0 x1 x2 x3 x4 x5 x6 x7 x8 x9 x10) h nx =
 K0 x4 h nx := by kernel_rfl
theorem F78.tab : T.get none (.of 78) tbl = some F78 := by kernel_rfl
theorem F78.go : callFn tbl N C (.of 78) [a0, a1] h nx K0 =
 sBox a0 h nx fun v1 h2 n3 =>
 sLoadN 2 v1 h2 fun v4 =>
 C.fn 168 (.of 168) [v4, a1] h2 n3 fun v5 h6 n7 =>
 sBin .neq .int v5 (I 0) fun v8 =>
 sCond v8 (K0 (.tup [.nils, v5]) h6 n7) (sLoadN 2 v1 h6 fun v9 =>
 C.fn 169 (.of 169) [v9, a1] h6 n7 fun v10 h11 n12 =>
 K0 (.tup [v10, (I 0)]) h11 n12) := by
 rw [callFn_of F78.tab]; kernel_rfl
theorem F79.tab : T.get none (.of 79) tbl = some F79 := by kernel_rfl
theorem F79.go : callFn tbl N C (.of 79) [a0, a1] h nx K0 =
 sBox a0 h nx fun v1 h2 n3 =>
 sLoadN 2 v1 h2 fun v4 =>
 C.fn 168 (.of 168) [v4, a1] h2 n3 fun v5 h6 n7 =>
 sBin .neq .int v5 (I 0) fun v8 =>
 sCond v8 (K0 (.tup [(.bool false), v5]) h6 n7) (sLoadN 2 v1 h6 fun v9 =>
 C.fn 169 (.of 169) [v9, a1] h6 n7 fun v10 h11 n12 =>
 C.fn 171 (.of 171) [v10] h11 n12 fun v13 h14 n15 =>
 C.fn 170 (.of 170) [v13] h14 n15 fun v16 h17 n18 =>
 sFaddr 0 v1 fun v19 =>
 sLoad v19 h17 fun v20 =>
 C.fn 172 (.of 172) [v16] h17 n18 fun v21 h22 n23 =>
 (sLoad v19 h22 fun v27 => sSame v27 v20 ((sFaddr 0 v1 fun v26 => sSame v26 v19 (sLen v21 fun v24 =>
 sBin .eql .int v24 v20 fun v25 =>
 K0 (.tup [v25, (I 0)]) h22 n23))))) := by
 rw [callFn_of F79.tab]; kernel_rfl
theorem F82.tab : T.get none (.of 82) tbl = some F82 := by kernel_rfl
theorem F82.go : callFn tbl N C (.of 82) [a0, a1] h nx K0 =
 sBox a0 h nx fun v1 h2 n3 =>
 sLen a1 fun v4 =>
 sFaddr 1 v1 fun v5 =>
 sLoad v5 h2 fun v6 =>
 sLen v6 fun v7 =>
 sBin .neq .int v4 v7 fun v8 =>
 sCond v8 (K0 (I 2) h2 n3) (sLen a1 fun v9 =>
 sBin .gtr .int v9 (I 0) fun v10 =>
 sG v10 true (fun k => k a1) fun v11 =>
 sGW v10 true (fun k => C.fn 46 (.of 46) [v11] h2 n3 k) h2 n3 fun v12 h13 n14 =>
 sG v10 true (fun k => sNot v12 k) fun v15 =>
 sPick v10 v15 (.bool false) fun v16 =>
 sCond v16 (K0 (I 14) h13 n14) (K0 (I 0) h13 n14)) := by
 rw [callFn_of F82.tab]; kernel_rfl
theorem F83.g7_eq (X8 : IR) (O : Outs Prop) (t : T AV) : IR.run (F83.g7 X8) C N O K t h nx = IR.run X8 C N (O.blk 2 K) K t h nx := by kernel_rfl
theorem F83.g1_eq (X2 : IR) (O : Outs Prop) (t : T AV) : IR.run (F83.g1 X2) C N O K t h nx = IR.run X2 C N (O.blk 0 K) K t h nx := by kernel_rfl
theorem F83.tab : T.get none (.of 83) tbl = some F83 := by kernel_rfl
theorem F83.go : callFn tbl N C (.of 83) [a0, a1] h nx K0 =
 sBox a0 h nx fun v1 h2 n3 =>
 IR.run F83.b1 C N (fnO F83.res K0) (IR.run F83.b16 C N (fnO F83.res K0) (retK F83.res K0)) (F83.fr a0 a1 v1 .nils .nils (I 0) .undef .undef .undef .undef .undef) h2 n3 := by
 rw [callFn_of F83.tab]; kernel_rfl
theorem F83.L1 (Inv : Nat → AV → AV → T Blk → Pa → Prop) {m : Nat} (hm : m < N) (hi : Inv m x4 x5 h nx)
  (step : ∀ (m : Nat) (z4 z5 z6 z7 z8 z9 z10 : AV) (h : T Blk) (nx : Pa) (R : Ks Prop), Inv m z4 z5 h nx → (∀ (m' : Nat) (w4 w5 w6 w7 w8 w9 w10 : AV) (h' : T Blk) (nx' : Pa), m' < m → Inv m' w4 w5 h' nx' → R (F83.fr x0 x1 x2 x3 w4 w5 w6 w7 w8 w9 w10) h' nx' = .ok True) →
   (sFaddr 0 x2 fun v1 =>
 sLoad v1 h fun v2 =>
 sBin .lss .int z5 v2 fun v3 =>
 sCond v3 (IR.run F83.b7 C N (((fnO F83.res K0).blk 0 K).blk 1 (IR.run F83.b15 C N ((fnO F83.res K0).blk 0 K) R)) (IR.run F83.b14 C N (((fnO F83.res K0).blk 0 K).blk 1 (IR.run F83.b15 C N ((fnO F83.res K0).blk 0 K) R)) (IR.run F83.b15 C N ((fnO F83.res K0).blk 0 K) R)) (F83.fr x0 x1 x2 x3 z4 z5 (I 0) (I 0) v3 z9 z10) h nx) (K (F83.fr x0 x1 x2 x3 z4 z5 z6 z7 v3 z9 z10) h nx)) = .ok True) :
  IR.run F83.b1 C N (fnO F83.res K0) K (F83.fr x0 x1 x2 x3 x4 x5 x6 x7 x8 x9 x10) h nx = .ok True := by
 rw [F83.b1, F83.g1_eq, F83.b2]
 refine loop_ok (fun m tm h nx => ∃ z4 z5 z6 z7 z8 z9 z10, tm = (F83.fr x0 x1 x2 x3 z4 z5 z6 z7 z8 z9 z10) ∧ Inv m z4 z5 h nx) ?_ hm ⟨_, _, _, _, _, _, _, rfl, hi⟩
 rintro m tm h nx R ⟨z4, z5, z6, z7, z8, z9, z10, rfl, hi⟩ hR
 refine Eq.trans ?_ (step m z4 z5 z6 z7 z8 z9 z10 h nx R hi fun m' w4 w5 w6 w7 w8 w9 w10 h' nx' hlt hi' => hR m' _ h' nx' hlt ⟨_, _, _, _, _, _, _, rfl, hi'⟩)
 kernel_rfl
theorem F83.k16 : IR.run F83.b16 C N (fnO F83.res K0) K (F83.fr x0 x1 x2 x3 x4 x5 x6 x7 x8 x9 x10) h nx =
 K0 x4 h nx := by kernel_rfl
theorem F83.k15 {E0 : Ks Prop} : IR.run F83.b15 C N ((fnO F83.res K0).blk 0 E0) K (F83.fr x0 x1 x2 x3 x4 x5 x6 x7 x8 x9 x10) h nx =
 sBin .add .int x5 (I 1) fun v1 =>
 K (F83.fr x0 x1 x2 x3 x4 v1 x6 x7 x8 x9 x10) h nx := by kernel_rfl
theorem F83.L7 {E0 E1 : Ks Prop} (Inv : Nat → AV → AV → T Blk → Pa → Prop) {m : Nat} (hm : m < N) (hi : Inv m x6 x7 h nx)
  (step : ∀ (m : Nat) (z6 z7 z9 z10 : AV) (h : T Blk) (nx : Pa) (R : Ks Prop), Inv m z6 z7 h nx → (∀ (m' : Nat) (w6 w7 w9 w10 : AV) (h' : T Blk) (nx' : Pa), m' < m → Inv m' w6 w7 h' nx' → R (F83.fr x0 x1 x2 x3 x4 x5 w6 w7 x8 w9 w10) h' nx' = .ok True) →
   (sLen x1 fun v1 =>
 sBin .lss .int z7 v1 fun v2 =>
 sCond v2 (sFaddr 1 x2 fun v3 =>
 sLoad v3 h fun v4 =>
 sIaddr 2 v4 z7 fun v5 =>
 sAaddr 1 2 v5 (I 0) fun v6 =>
 sLoad v6 h fun v7 =>
 sBin .eql .int v7 x5 fun v8 =>
 sG v8 false (fun k => sFaddr 1 x2 k) fun v9 =>
 sG v8 false (fun k => sLoad v9 h k) fun v10 =>
 sG v8 false (fun k => k z7) fun v11 =>
 sG v8 false (fun k => sIaddr 2 v10 v11 k) fun v12 =>
 sG v8 false (fun k => sAaddr 1 2 v12 (I 1) k) fun v13 =>
 sG v8 false (fun k => sLoad v13 h k) fun v14 =>
 sG v8 false (fun k => k x5) fun v15 =>
 sG v8 false (fun k => sBin .eql .int v14 v15 k) fun v16 =>
 sPick v8 (.bool true) v16 fun v17 =>
 sCond v17 (sIaddr 1 x1 z7 fun v18 =>
 sLoad v18 h fun v19 =>
 sBin .add .int z6 v19 fun v20 =>
 sBin .add .int z7 (I 1) fun v21 =>
 R (F83.fr x0 x1 x2 x3 x4 x5 v20 v21 x8 v2 v17) h nx) (sBin .add .int z7 (I 1) fun v22 =>
 R (F83.fr x0 x1 x2 x3 x4 x5 z6 v22 x8 v2 v17) h nx)) (K (F83.fr x0 x1 x2 x3 x4 x5 z6 z7 x8 v2 z10) h nx)) = .ok True) :
  IR.run F83.b7 C N (((fnO F83.res K0).blk 0 E0).blk 1 E1) K (F83.fr x0 x1 x2 x3 x4 x5 x6 x7 x8 x9 x10) h nx = .ok True := by
 rw [F83.b7, F83.g7_eq, F83.b8]
 refine loop_ok (fun m tm h nx => ∃ z6 z7 z9 z10, tm = (F83.fr x0 x1 x2 x3 x4 x5 z6 z7 x8 z9 z10) ∧ Inv m z6 z7 h nx) ?_ hm ⟨_, _, _, _, rfl, hi⟩
 rintro m tm h nx R ⟨z6, z7, z9, z10, rfl, hi⟩ hR
 refine Eq.trans ?_ (step m z6 z7 z9 z10 h nx R hi fun m' w6 w7 w9 w10 h' nx' hlt hi' => hR m' _ h' nx' hlt ⟨_, _, _, _, rfl, hi'⟩)
 kernel_rfl
theorem F83.k14 {E0 E1 : Ks Prop} : IR.run F83.b14 C N (((fnO F83.res K0).blk 0 E0).blk 1 E1) K (F83.fr x0 x1 x2 x3 x4 x5 x6 x7 x8 x9 x10) h nx =
 sBslice 1 1 [(I 0)] [(0, 1, x6)] h nx fun v1 h2 n3 =>
 sApp 1 8 x4 v1 h2 n3 fun v4 h5 n6 =>
 K (F83.fr x0 x1 x2 x3 v4 x5 x6 x7 x8 x9 x10) h5 n6 := by kernel_rfl
theorem F84.g7_eq (X8 : IR) (O : Outs Prop) (t : T AV) : IR.run (F84.g7 X8) C N O K t h nx = IR.run X8 C N (O.blk 2 K) K t h nx := by kernel_rfl
theorem F84.g1_eq (X2 : IR) (O : Outs Prop) (t : T AV) : IR.run (F84.g1 X2) C N O K t h nx = IR.run X2 C N (O.blk 0 K) K t h nx := by kernel_rfl
theorem F84.tab : T.get none (.of 84) tbl = some F84 := by kernel_rfl
theorem F84.go : callFn tbl N C (.of 84) [a0] h nx K0 =
 IR.run F84.b1 C N (fnO F84.res K0) (IR.run F84.b15 C N (fnO F84.res K0) (retK F84.res K0)) (F84.fr a0 (.bool false) (I 0) .undef .undef .undef .undef) h nx := by
 rw [callFn_of F84.tab]; kernel_rfl
theorem F84.L1 (Inv : Nat → AV → T Blk → Pa → Prop) {m : Nat} (hm : m < N) (hi : Inv m x2 h nx)
  (step : ∀ (m : Nat) (z1 z2 z3 z4 z5 z6 : AV) (h : T Blk) (nx : Pa) (R : Ks Prop), Inv m z2 h nx → (∀ (m' : Nat) (w1 w2 w3 w4 w5 w6 : AV) (h' : T Blk) (nx' : Pa), m' < m → Inv m' w2 h' nx' → R (F84.fr x0 w1 w2 w3 w4 w5 w6) h' nx' = .ok True) →
   (sLen x0 fun v1 =>
 sBin .lss .int z2 v1 fun v2 =>
 sCond v2 (IR.run F84.b7 C N (((fnO F84.res K0).blk 0 K).blk 1 (IR.run F84.b14 C N ((fnO F84.res K0).blk 0 K) R)) (IR.run F84.b14 C N ((fnO F84.res K0).blk 0 K) R) (F84.fr x0 z1 z2 (I 0) v2 z5 z6) h nx) (K (F84.fr x0 z1 z2 z3 v2 z5 z6) h nx)) = .ok True) :
  IR.run F84.b1 C N (fnO F84.res K0) K (F84.fr x0 x1 x2 x3 x4 x5 x6) h nx = .ok True := by
 rw [F84.b1, F84.g1_eq, F84.b2]
 refine loop_ok (fun m tm h nx => ∃ z1 z2 z3 z4 z5 z6, tm = (F84.fr x0 z1 z2 z3 z4 z5 z6) ∧ Inv m z2 h nx) ?_ hm ⟨_, _, _, _, _, _, rfl, hi⟩
 rintro m tm h nx R ⟨z1, z2, z3, z4, z5, z6, rfl, hi⟩ hR
 refine Eq.trans ?_ (step m z1 z2 z3 z4 z5 z6 h nx R hi fun m' w1 w2 w3 w4 w5 w6 h' nx' hlt hi' => hR m' _ h' nx' hlt ⟨_, _, _, _, _, _, rfl, hi'⟩)
 kernel_rfl
theorem F84.k15 : IR.run F84.b15 C N (fnO F84.res K0) K (F84.fr x0 x1 x2 x3 x4 x5 x6) h nx =
 K0 (.bool true) h nx := by kernel_rfl
theorem F84.k14 {E0 : Ks Prop} : IR.run F84.b14 C N ((fnO F84.res K0).blk 0 E0) K (F84.fr x0 x1 x2 x3 x4 x5 x6) h nx =
 sBin .add .int x2 (I 1) fun v1 =>
 K (F84.fr x0 x1 v1 x3 x4 x5 x6) h nx := by kernel_rfl
theorem F84.L7 {E0 E1 : Ks Prop} (Inv : Nat → AV → T Blk → Pa → Prop) {m : Nat} (hm : m < N) (hi : Inv m x3 h nx)
  (step : ∀ (m : Nat) (z1 z3 z5 z6 : AV) (h : T Blk) (nx : Pa) (R : Ks Prop), Inv m z3 h nx → (∀ (m' : Nat) (w1 w3 w5 w6 : AV) (h' : T Blk) (nx' : Pa), m' < m → Inv m' w3 h' nx' → R (F84.fr x0 w1 x2 w3 x4 w5 w6) h' nx' = .ok True) →
   (sBin .lss .int z3 x2 fun v1 =>
 sCond v1 (sIaddr 1 x0 z3 fun v2 =>
 sLoad v2 h fun v3 =>
 sIaddr 1 x0 x2 fun v4 =>
 sLoad v4 h fun v5 =>
 sBin .eql .int v3 v5 fun v6 =>
 sCond v6 (K0 (.bool false) h nx) (sBin .add .int z3 (I 1) fun v7 =>
 R (F84.fr x0 z1 x2 v7 x4 v1 v6) h nx)) (K (F84.fr x0 z1 x2 z3 x4 v1 z6) h nx)) = .ok True) :
  IR.run F84.b7 C N (((fnO F84.res K0).blk 0 E0).blk 1 E1) K (F84.fr x0 x1 x2 x3 x4 x5 x6) h nx = .ok True := by
 rw [F84.b7, F84.g7_eq, F84.b8]
 refine loop_ok (fun m tm h nx => ∃ z1 z3 z5 z6, tm = (F84.fr x0 z1 x2 z3 x4 z5 z6) ∧ Inv m z3 h nx) ?_ hm ⟨_, _, _, _, rfl, hi⟩
 rintro m tm h nx R ⟨z1, z3, z5, z6, rfl, hi⟩ hR
 refine Eq.trans ?_ (step m z1 z3 z5 z6 h nx R hi fun m' w1 w3 w5 w6 h' nx' hlt hi' => hR m' _ h' nx' hlt ⟨_, _, _, _, rfl, hi'⟩)
 kernel_rfl
theorem F172.g8_eq (X9 : IR) (O : Outs Prop) (t : T AV) : IR.run (F172.g8 X9) C N O K t h nx = IR.run X9 C N (O.blk 2 K) K t h nx := by kernel_rfl
theorem F172.g2_eq (X3 : IR) (O : Outs Prop) (t : T AV) : IR.run (F172.g2 X3) C N O K t h nx = IR.run X3 C N (O.blk 0 K) K t h nx := by kernel_rfl
theorem F172.tab : T.get none (.of 172) tbl = some F172 := by kernel_rfl
theorem F172.go : callFn tbl N C (.of 172) [a0] h nx K0 =
 sLen a0 fun v1 =>
 sBin .lss .int v1 (I 2) fun v2 =>
 sCond v2 (K0 a0 h nx) (IR.run F172.b2 C N (fnO F172.res K0) (IR.run F172.b17 C N (fnO F172.res K0) (retK F172.res K0)) (F172.fr a0 .nils (I 1) .undef .undef v2 .undef .undef .undef .undef) h nx) := by
 rw [callFn_of F172.tab]; kernel_rfl
theorem F172.L2 (Inv : Nat → AV → T Blk → Pa → Prop) {m : Nat} (hm : m < N) (hi : Inv m x2 h nx)
  (step : ∀ (m : Nat) (z1 z2 z3 z4 z6 z7 z8 z9 : AV) (h : T Blk) (nx : Pa) (R : Ks Prop), Inv m z2 h nx → (∀ (m' : Nat) (w1 w2 w3 w4 w6 w7 w8 w9 : AV) (h' : T Blk) (nx' : Pa), m' < m → Inv m' w2 h' nx' → R (F172.fr x0 w1 w2 w3 w4 x5 w6 w7 w8 w9) h' nx' = .ok True) →
   (sLen x0 fun v1 =>
 sBin .lss .int z2 v1 fun v2 =>
 sCond v2 (sIaddr 1 x0 z2 fun v3 =>
 sLoad v3 h fun v4 =>
 sBin .sub .int z2 (I 1) fun v5 =>
 sIaddr 1 x0 v5 fun v6 =>
 sLoad v6 h fun v7 =>
 sBin .eql .int v4 v7 fun v8 =>
 sCond v8 (sSlice 1 x0 (some z2) none none fun v9 =>
 IR.run F172.b8 C N (((fnO F172.res K0).blk 0 K).blk 1 (IR.run F172.b16 C N ((fnO F172.res K0).blk 0 K) R)) (IR.run F172.b15 C N (((fnO F172.res K0).blk 0 K).blk 1 (IR.run F172.b16 C N ((fnO F172.res K0).blk 0 K) R)) (IR.run F172.b16 C N ((fnO F172.res K0).blk 0 K) R)) (F172.fr x0 z1 z2 v9 (I 1) x5 v2 v8 z8 z9) h nx) (sBin .add .int z2 (I 1) fun v10 =>
 R (F172.fr x0 z1 v10 z3 z4 x5 v2 v8 z8 z9) h nx)) (K (F172.fr x0 z1 z2 z3 z4 x5 v2 z7 z8 z9) h nx)) = .ok True) :
  IR.run F172.b2 C N (fnO F172.res K0) K (F172.fr x0 x1 x2 x3 x4 x5 x6 x7 x8 x9) h nx = .ok True := by
 rw [F172.b2, F172.g2_eq, F172.b3]
 refine loop_ok (fun m tm h nx => ∃ z1 z2 z3 z4 z6 z7 z8 z9, tm = (F172.fr x0 z1 z2 z3 z4 x5 z6 z7 z8 z9) ∧ Inv m z2 h nx) ?_ hm ⟨_, _, _, _, _, _, _, _, rfl, hi⟩
 rintro m tm h nx R ⟨z1, z2, z3, z4, z6, z7, z8, z9, rfl, hi⟩ hR
 refine Eq.trans ?_ (step m z1 z2 z3 z4 z6 z7 z8 z9 h nx R hi fun m' w1 w2 w3 w4 w6 w7 w8 w9 h' nx' hlt hi' => hR m' _ h' nx' hlt ⟨_, _, _, _, _, _, _, _, rfl, hi'⟩)
 kernel_rfl
theorem F172.k17 : IR.run F172.b17 C N (fnO F172.res K0) K (F172.fr x0 x1 x2 x3 x4 x5 x6 x7 x8 x9) h nx =
 K0 x0 h nx := by kernel_rfl
theorem F172.L8 {E0 E1 : Ks Prop} (Inv : Nat → AV → AV → T Blk → Pa → Prop) {m : Nat} (hm : m < N) (hi : Inv m x2 x4 h nx)
  (step : ∀ (m : Nat) (z2 z4 z8 z9 : AV) (h : T Blk) (nx : Pa) (R : Ks Prop), Inv m z2 z4 h nx → (∀ (m' : Nat) (w2 w4 w8 w9 : AV) (h' : T Blk) (nx' : Pa), m' < m → Inv m' w2 w4 h' nx' → R (F172.fr x0 x1 w2 x3 w4 x5 x6 x7 w8 w9) h' nx' = .ok True) →
   (sLen x3 fun v1 =>
 sBin .lss .int z4 v1 fun v2 =>
 sCond v2 (sIaddr 1 x3 z4 fun v3 =>
 sLoad v3 h fun v4 =>
 sBin .sub .int z4 (I 1) fun v5 =>
 sIaddr 1 x3 v5 fun v6 =>
 sLoad v6 h fun v7 =>
 sBin .neq .int v4 v7 fun v8 =>
 sCond v8 (sIaddr 1 x3 z4 fun v9 =>
 sLoad v9 h fun v10 =>
 sIaddr 1 x0 z2 fun v11 =>
 sStore 1 v11 v10 h nx fun v12 h13 n14 =>
 sBin .add .int z2 (I 1) fun v15 =>
 sBin .add .int z4 (I 1) fun v16 =>
 R (F172.fr x0 x1 v15 x3 v16 x5 x6 x7 v2 v8) h13 n14) (sBin .add .int z4 (I 1) fun v17 =>
 R (F172.fr x0 x1 z2 x3 v17 x5 x6 x7 v2 v8) h nx)) (K (F172.fr x0 x1 z2 x3 z4 x5 x6 x7 v2 z9) h nx)) = .ok True) :
  IR.run F172.b8 C N (((fnO F172.res K0).blk 0 E0).blk 1 E1) K (F172.fr x0 x1 x2 x3 x4 x5 x6 x7 x8 x9) h nx = .ok True := by
 rw [F172.b8, F172.g8_eq, F172.b9]
 refine loop_ok (fun m tm h nx => ∃ z2 z4 z8 z9, tm = (F172.fr x0 x1 z2 x3 z4 x5 x6 x7 z8 z9) ∧ Inv m z2 z4 h nx) ?_ hm ⟨_, _, _, _, rfl, hi⟩
 rintro m tm h nx R ⟨z2, z4, z8, z9, rfl, hi⟩ hR
 refine Eq.trans ?_ (step m z2 z4 z8 z9 h nx R hi fun m' w2 w4 w8 w9 h' nx' hlt hi' => hR m' _ h' nx' hlt ⟨_, _, _, _, rfl, hi'⟩)
 kernel_rfl
theorem F172.k15 {E0 E1 : Ks Prop} : IR.run F172.b15 C N (((fnO F172.res K0).blk 0 E0).blk 1 E1) K (F172.fr x0 x1 x2 x3 x4 x5 x6 x7 x8 x9) h nx =
 sSlice 1 x0 (some x2) none none fun v1 =>
 sClr 1 [(I 0)] v1 h nx fun v2 h3 n4 =>
 sSlice 1 x0 none (some x2) none fun v5 =>
 K0 v5 h3 n4 := by kernel_rfl
theorem F74.tab : T.get none (.of 74) tbl = some F74 := by kernel_rfl
theorem F74.go : callFn tbl N C (.of 74) [a0, a1, a2, a3] h nx K0 =
 sBox a0 h nx fun v1 h2 n3 =>
 sBox a2 h2 n3 fun v4 h5 n6 =>
 sBin .neq .int a3 (I 0) fun v7 =>
 sCond v7 (sLoadN 2 v1 h5 fun v8 =>
 C.fn 166 (.of 166) [v8] h5 n6 fun v9 h10 n11 =>
 sG v9 true (fun k => k a1) fun v12 =>
 sG v9 true (fun k => k a3) fun v13 =>
 sG v9 true (fun k => sBin .eql .int v12 v13 k) fun v14 =>
 sPick v9 v14 (.bool false) fun v15 =>
 K0 v15 h10 n11) (sBin .eql .int a1 (I 0) fun v16 =>
 sG v16 true (fun k => sLoadN 2 v1 h5 k) fun v17 =>
 sG v16 true (fun k => sLoadN 2 v4 h5 k) fun v18 =>
 sGW v16 true (fun k => C.fn 167 (.of 167) [v17, v18] h5 n6 k) h5 n6 fun v19 h20 n21 =>
 sPick v16 v19 (.bool false) fun v22 =>
 K0 v22 h20 n21) := by
 rw [callFn_of F74.tab]; kernel_rfl
theorem F166.tab : T.get none (.of 166) tbl = some F166 := by kernel_rfl
theorem F166.go : callFn tbl N C (.of 166) [a0] h nx K0 =
 sBox a0 h nx fun v1 h2 n3 =>
 sFaddr 0 v1 fun v4 =>
 sLoad v4 h2 fun v5 =>
 sBin .eql .int v5 (I 0) fun v6 =>
 sG v6 true (fun k => sFaddr 1 v1 k) fun v7 =>
 sG v6 true (fun k => sLoad v7 h2 k) fun v8 =>
 sG v6 true (fun k => sLen v8 k) fun v9 =>
 sG v6 true (fun k => sBin .eql .int v9 (I 0) k) fun v10 =>
 sPick v6 v10 (.bool false) fun v11 =>
 K0 v11 h2 n3 := by
 rw [callFn_of F166.tab]; kernel_rfl
theorem F167.tab : T.get none (.of 167) tbl = some F167 := by kernel_rfl
theorem F167.go : callFn tbl N C (.of 167) [a0, a1] h nx K0 =
 sBox a0 h nx fun v1 h2 n3 =>
 sBox a1 h2 n3 fun v4 h5 n6 =>
 sFaddr 0 v1 fun v7 =>
 sLoad v7 h5 fun v8 =>
 sFaddr 0 v4 fun v9 =>
 sLoad v9 h5 fun v10 =>
 sBin .eql .int v8 v10 fun v11 =>
 sG v11 true (fun k => sFaddr 1 v1 k) fun v12 =>
 sG v11 true (fun k => sLoad v12 h5 k) fun v13 =>
 sG v11 true (fun k => sFaddr 1 v4 k) fun v14 =>
 sG v11 true (fun k => sLoad v14 h5 k) fun v15 =>
 sGW v11 true (fun k => C.fn 241 (.of 241) [v13, v15] h5 n6 k) h5 n6 fun v16 h17 n18 =>
 sPick v11 v16 (.bool false) fun v19 =>
 K0 v19 h17 n18 := by
 rw [callFn_of F167.tab]; kernel_rfl
theorem F241.g2_eq (X3 : IR) (O : Outs Prop) (t : T AV) : IR.run (F241.g2 X3) C N O K t h nx = IR.run X3 C N (O.blk 0 K) K t h nx := by kernel_rfl
theorem F241.tab : T.get none (.of 241) tbl = some F241 := by kernel_rfl
theorem F241.go : callFn tbl N C (.of 241) [a0, a1] h nx K0 =
 sLen a0 fun v1 =>
 sLen a1 fun v2 =>
 sBin .neq .int v1 v2 fun v3 =>
 sCond v3 (K0 (.bool false) h nx) (IR.run F241.b2 C N (fnO F241.res K0) (IR.run F241.b9 C N (fnO F241.res K0) (retK F241.res K0)) (F241.fr a0 a1 (.bool false) (I 0) v3 .undef .undef) h nx) := by
 rw [callFn_of F241.tab]; kernel_rfl
theorem F241.L2 (Inv : Nat → AV → T Blk → Pa → Prop) {m : Nat} (hm : m < N) (hi : Inv m x3 h nx)
  (step : ∀ (m : Nat) (z2 z3 z5 z6 : AV) (h : T Blk) (nx : Pa) (R : Ks Prop), Inv m z3 h nx → (∀ (m' : Nat) (w2 w3 w5 w6 : AV) (h' : T Blk) (nx' : Pa), m' < m → Inv m' w3 h' nx' → R (F241.fr x0 x1 w2 w3 x4 w5 w6) h' nx' = .ok True) →
   (sLen x0 fun v1 =>
 sBin .lss .int z3 v1 fun v2 =>
 sCond v2 (sIaddr 1 x0 z3 fun v3 =>
 sLoad v3 h fun v4 =>
 sIaddr 1 x1 z3 fun v5 =>
 sLoad v5 h fun v6 =>
 C.fn 49 (.of 49) [v4, v6] h nx fun v7 h8 n9 =>
 sNot v7 fun v10 =>
 sCond v10 (K0 (.bool false) h8 n9) (sBin .add .int z3 (I 1) fun v11 =>
 R (F241.fr x0 x1 z2 v11 x4 v2 v10) h8 n9)) (K (F241.fr x0 x1 z2 z3 x4 v2 z6) h nx)) = .ok True) :
  IR.run F241.b2 C N (fnO F241.res K0) K (F241.fr x0 x1 x2 x3 x4 x5 x6) h nx = .ok True := by
 rw [F241.b2, F241.g2_eq, F241.b3]
 refine loop_ok (fun m tm h nx => ∃ z2 z3 z5 z6, tm = (F241.fr x0 x1 z2 z3 x4 z5 z6) ∧ Inv m z3 h nx) ?_ hm ⟨_, _, _, _, rfl, hi⟩
 rintro m tm h nx R ⟨z2, z3, z5, z6, rfl, hi⟩ hR
 refine Eq.trans ?_ (step m z2 z3 z5 z6 h nx R hi fun m' w2 w3 w5 w6 h' nx' hlt hi' => hR m' _ h' nx' hlt ⟨_, _, _, _, rfl, hi'⟩)
 kernel_rfl
theorem F241.k9 : IR.run F241.b9 C N (fnO F241.res K0) K (F241.fr x0 x1 x2 x3 x4 x5 x6) h nx =
 K0 (.bool true) h nx := by kernel_rfl
end Go.Ev
namespace Go.Ev
open Go Go.Proofs
variable {B : Nat}
theorem frzGroC {h0 h : T Blk} {nx : Pa} {L : List Ob} {o : Option Pa} {n k : Nat} {l l' : List AV} (H : Hp h0 h nx L) (hk : L[k]? = some (.gro o 1 n l)) (hl : l'.length = l.length) (hs : l'.all scal = true) (hf : ∀ (i : Nat) (v v' : AV), l[i]? = some v → l'[i]? = some v' → FrzN h0 h v v') : FrzN h0 h (rowV o 1 n) (.lst 1 n l') := by
 have own := H.own _ (List.mem_of_getElem? hk)
 have hoff := H.off
 cases o with
 | none =>
  obtain ⟨rfl, rfl⟩ := own
  obtain rfl : l' = [] := by simpa using hl
  exact .lnils 1
 | some id =>
  obtain ⟨t, h1, h2, h3⟩ := own
  refine .sl _ _ _ _ _ true _ t _ (hoff id (List.mem_flatMap.2 ⟨_, List.mem_of_getElem? hk, by simp [Ob.names]⟩)) trivial h1 (by omega) (by rw [hl]; exact h2) hs fun i v hi => ?_
  have hil : i < l.length := by rw [← hl]; exact (List.getElem?_eq_some_iff.1 hi).1
  have := rdList_get t 0 (n * 1) i (by rw [← h2]; exact hil)
  rw [h3, List.getElem?_eq_getElem hil] at this
  rw [← Option.some.inj this]
  exact hf i _ _ (List.getElem?_eq_getElem hil) hi
theorem Hp.copyArrO {h0 h : T Blk} {nx : Pa} {L : List Ob} {K : AV → T Blk → Pa → OP} {z w : AV} {new : List AV} {c bytes : Nat} (H : Hp h0 h nx L) (hr : ∀ e h1 n1, Hp h0 h1 n1 (.arr e [] :: L) → ∀ (no : OP) (K' : List AV → Nat → OP), readSl w h1 no K' = K' new c) (hl : new.length = c) (hs : new.all scal = true) (hb : bytes * 1000000 ≤ 70368744177664) (hc : c ≤ 1000000)
  (hK : ∀ id cap h' nx', capLe c cap → Hp h0 h' nx' (.arr id new :: L) → K (.sl id 0 c cap 1) h' nx' = .ok True) :
  (sBslice 1 0 [z] [] h nx fun v1 h1 n1 => sApp 1 bytes v1 w h1 n1 K) = .ok True := by
 refine H.bslice (l := []) rfl fun e h1 n1 H1 => ?_
 unfold sApp appA
 rw [hr _ _ _ H1]
 have hcc : (Nat.ble (bytes * 1000000) 70368744177664 && Nat.beq new.length (c * 1) && Nat.ble 1 1 && new.all scal) = true := by
  simp only [Bool.and_eq_true, hs, and_true]
  exact ⟨⟨Nat.ble_eq_true_of_le hb, by rw [hl, Nat.mul_one]; exact Nat.beq_refl _⟩, rfl⟩
 rw [hcc, cond_true]
 obtain ⟨op, t, g1, g2⟩ : HasArr h1 e [] := H1.own _ (List.mem_cons_self ..)
 show (bif Nat.beq 1 1 && Nat.ble (0 + c) 1000000 then asCells (T.get .no e h1) _ (.no 35) else .no 36) = _
 rw [g1, Nat.ble_eq_true_of_le (by omega)]
 show (bif Nat.ble (0 + c) 0 then (bif Nat.ble (0 + (0 + c) * 1) 0 then appIn e 0 0 (some 0) 1 op 0 t new c h1 n1 _ else .no 32) else appNew 0 0 1 t new c h1 n1 _) = _
 by_cases hc0 : c = 0
 ·subst hc0
  obtain rfl : new = [] := List.eq_nil_of_length_eq_zero hl
  rw [show Nat.ble (0 + 0) 0 = true from rfl, cond_true, cond_true]
  unfold appIn
  rw [wrListK_eq, T.setK_eq, natK_eq]
  exact hK e (some 0) _ _ (Nat.le_refl _) (H1.upd (k := 0) (x' := .arr e []) rfl (by simp [Ob.names]) rfl ⟨op, _, T.get_set_same _ _ _ _, rfl⟩)
 ·rw [bleF (by omega), cond_false]
  unfold appNew
  rw [newCells_eq, natK_eq]
  rw [Nat.zero_add]
  have H2 : Hp h0 (T.set .no (.cells true new.length (wrList new .e 0)) n1 h1) n1.succ (.arr n1 new :: L) :=
   Hp.new (x := .arr n1 new) H1.drop rfl fun h' q => ⟨_, _, q, wrList_all new⟩
  exact hK n1 none _ _ trivial H2
theorem Hp.dropL {h0 h : T Blk} {nx : Pa} : ∀ {A L : List Ob}, Hp h0 h nx (A ++ L) → Hp h0 h nx L
 | [], _, H => H
 | _ :: _, _, H => Hp.dropL H.drop
theorem Hp.dropMid {h0 h : T Blk} {nx : Pa} {A L : List Ob} {x : Ob} (H : Hp h0 h nx (x :: (A ++ L))) : Hp h0 h nx (x :: L) :=
 Hp.dropL (H.perm List.perm_middle.symm)
theorem frz_agg {N : Pa → Prop} {O : AV → Prop} {hh : T Blk} {l : List AV} (h : ∀ v ∈ l, fixd v = true) : Frz True N O hh (.agg l) (.agg l) :=
 .agg _ _ rfl (List.all_eq_true.2 fun v hv => fixd.scal (h v hv)) fun i v v' h1 h2 => by rw [h1] at h2; cases h2; exact frz_fixd (h v (List.mem_of_getElem? h1))
theorem fixd_sys {cells : Int} {lines : List (List Int)} : ∀ v ∈ [I cells, encT lines], fixd v = true := fun v hv => by
 simp only [List.mem_cons, List.not_mem_nil, or_false] at hv
 rcases hv with rfl | rfl
 ·rfl
 ·exact fixd_encT lines
theorem sBuildS {n : Int} {K : AV → OP} : sBuild [(I 0), .nils] [(0, 1, I n)] K = K (.agg [I n, .nils]) := nr rfl
theorem rowV_scal (o : Option Pa) (e n : Nat) : scal (rowV o e n) = true := by cases o <;> rfl
end Go.Ev
namespace Go.Ev
open Go Go.Proofs
variable {B : Nat}
theorem differs102 {l : List Int} (hl : l.length ≤ 1000000) : Pure Tryz.prog B 84 [encI l] (· = .bool (decide l.Nodup)) := by
 intro p h nx K hK
 refine by_body tbl_ok dreg 10000000 fun hf => ?_
 rw [F84.go]
 refine F84.L1 (fun m x2 h' nx' => ∃ i : Nat, x2 = I i ∧ l.length - i = m ∧ i ≤ l.length ∧ h' = h ∧ nx' = nx ∧ (l.take i).Nodup) (m := l.length) (by omega) ⟨0, rfl, rfl, by omega, rfl, rfl, by simp⟩ ?_
 rintro m z1 z2 z3 z4 z5 z6 h nx R ⟨i, rfl, rfl, hi, rfl, rfl, hn⟩ hR
 simp only [sLen_lst, sLss]
 by_cases hlt : i < l.length
 case neg =>
  simp only [show ¬ (i : Int) < (l.length : Int) by omega, decide_false, sCond_f]
  rw [F84.k15]
  rw [List.take_of_length_le (by omega)] at hn
  exact hK _ (by rw [decide_eq_true hn]) hf
 simp only [show (i : Int) < (l.length : Int) by omega, decide_true, sCond_t]
 have hx : l[i]? = some l[i] := List.getElem?_eq_getElem hlt
 refine F84.L7 (fun m x3 h' nx' => ∃ k : Nat, x3 = I k ∧ i - k = m ∧ k ≤ i ∧ h' = h ∧ nx' = nx ∧ ∀ j y, j < k → l[j]? = some y → y ≠ l[i]) (m := i) (by omega) ⟨0, rfl, rfl, by omega, rfl, rfl, fun j y hj => by omega⟩ ?_
 rintro m y1 y3 y5 y6 h nx R2 ⟨k, rfl, rfl, hk, rfl, rfl, hne⟩ hR2
 simp only [sLss]
 by_cases hkt : k < i
 ·simp only [show (k : Int) < (i : Int) by omega, decide_true, sCond_t]
  have hkl : k < l.length := by omega
  have hy : l[k]? = some l[k] := List.getElem?_eq_getElem hkl
  rw [sIxL rfl hkl, ldL (getI hy), sIxL rfl hlt, ldL (getI hx)]
  simp only [sEql]
  by_cases c : l[k] = l[i]
  ·simp only [c, decide_true, sCond_t]
   refine hK _ ?_ hf
   rw [decide_eq_false]
   intro hnd
   exact List.pairwise_iff_getElem.1 hnd k i hkl hlt hkt c
  ·simp only [c, decide_false, sCond_f]
   rw [sAdd (by omega)]
   refine hR2 _ _ _ _ _ _ _ (by omega) ⟨k + 1, rfl, rfl, by omega, rfl, rfl, fun j y hj hjy => ?_⟩
   by_cases e : j = k
   ·subst e
    rw [hy] at hjy
    exact (Option.some.inj hjy) ▸ c
   ·exact hne j y (by omega) hjy
 ·simp only [show ¬ (k : Int) < (i : Int) by omega, decide_false, sCond_f]
  obtain rfl : k = i := by omega
  rw [F84.k14, sAdd (by omega)]
  refine hR _ _ _ _ _ _ _ _ _ (by omega) ⟨k + 1, rfl, rfl, by omega, rfl, rfl, ?_⟩
  rw [List.take_add_one, hx, Option.toList_some, nodup_snoc hn]
  intro q
  obtain ⟨j, hj⟩ := List.mem_iff_getElem?.1 q
  rw [List.getElem?_take] at hj
  split at hj
  ·exact hne j _ (by assumption) hj rfl
  ·cases hj
theorem gro_some {h0 h : T Blk} {nx : Pa} {L : List Ob} {k n e : Nat} {o : Option Pa} {l : List AV} (H : Hp h0 h nx L) (hk : L[k]? = some (.gro o e n l)) (hn : 0 < n) : ∃ id, o = some id := by
 cases o with
 | none =>
  obtain ⟨_, rfl⟩ := H.own _ (List.mem_of_getElem? hk)
  omega
 | some id => exact ⟨id, rfl⟩
theorem Hp.clrGro {K : AV → T Blk → Pa → OP} {h0 h : T Blk} {nx : Pa} {L : List Ob} {k n a : Nat} {id : Pa} {l : List AV} (H : Hp h0 h nx L) (hk : L[k]? = some (.gro (some id) 1 n l)) (ha : a < n)
  (hK : ∀ h' l', Hp h0 h' nx (L.set k (.gro (some id) 1 n l')) → K .undef h' nx = .ok True) : sClr 1 [I 0] (dropV (some id) 1 n a) h nx K = .ok True := by
 obtain ⟨t, h1, h2, h3⟩ := H.own _ (List.mem_of_getElem? hk)
 have key : ∀ (off ln : Nat) (cap : Option Nat), off + ln * 1 ≤ n * 1 → 1 ≤ ln → sClr 1 [I 0] (.sl id off ln cap 1) h nx K = .ok True := by
  intro off ln cap h4 h5
  show (bif Nat.beq 1 1 && Nat.ble 1 ln then asCells (T.get .no id h) (fun op m t => bif Nat.ble (off + ln * 1) m && Nat.beq ([I 0] : List AV).length 1 && ([I 0] : List AV).all scal then
     wrListK (repl ln [I 0]) t off fun t' => T.setK .no (.cells op m t') id h fun h' => K .undef h' nx
    else .no 57) (.no 57) else _) = _
  rw [Nat.ble_eq_true_of_le h5, show (Nat.beq 1 1 && true) = true from rfl, cond_true, h1]
  show (bif Nat.ble (off + ln * 1) (n * 1) && Nat.beq ([I 0] : List AV).length 1 && ([I 0] : List AV).all scal then _ else _) = _
  rw [Nat.ble_eq_true_of_le h4, show (true && Nat.beq ([I 0] : List AV).length 1 && ([I 0] : List AV).all scal) = true from rfl, cond_true, wrListK_eq, T.setK_eq]
  refine hK _ (rdList (wrList (repl ln [I 0]) t off) 0 (n * 1)) (H.upd hk (by simp [Ob.names]) rfl ⟨_, T.get_set_same _ _ _ _, by simp, rfl⟩)
 unfold dropV
 by_cases c : a = 0
 ·subst c
  show sClr 1 [I 0] (.sl id 0 n none 1) h nx K = _
  exact key 0 n none (by omega) (by omega)
 ·have hb : Nat.beq a 0 = false := by cases a with | zero => exact absurd rfl c | succ a => rfl
  show sClr 1 [I 0] (bif Nat.beq a 0 then .sl id 0 n none 1 else bif Nat.ble (a + 1) n then .sl id (0 + a * 1) (n - a) none 1 else .esl) h nx K = _
  rw [hb, cond_false, Nat.ble_eq_true_of_le (by omega), cond_true]
  exact key _ _ none (by omega) (by omega)
theorem sorted_nodup {l : List Int} (hs : l.Pairwise (· ≤ ·)) (h : ∀ (j : Nat) (hj : j + 1 < l.length), l[j]'(by omega) ≠ l[j + 1]) : l.Nodup := by
 have step : ∀ (d i : Nat) (h1 : i + d + 1 < l.length), l[i]'(by omega) < l[i + d + 1] := by
  intro d
  induction d with
  | zero =>
   intro i h1
   have := List.pairwise_iff_getElem.1 hs i (i + 1) (by omega) (by omega) (by omega)
   have := h i (by omega)
   simp only [Nat.add_zero]; omega
  | succ d ih =>
   intro i h1
   have a1 := ih i (by omega)
   have a2 := List.pairwise_iff_getElem.1 hs (i + d + 1) (i + d + 1 + 1) (by omega) (by omega) (by omega)
   have e : l[i + (d + 1) + 1] = l[i + d + 1 + 1] := by congr 1
   rw [e]; omega
 refine List.pairwise_iff_getElem.2 fun i j hi hj hij e => ?_
 have := step (j - i - 1) i (by omega)
 have e2 : l[i + (j - i - 1) + 1]'(by omega) = l[j] := by congr 1; omega
 omega
theorem compact135o {h0 h : T Blk} {nx : Pa} {L : List Ob} {p : Pa} {o : Option Pa} {n : Nat} {l : List Int} {K : Kw Prop} (hl : l.length = n) (hn : n ≤ 100000) (hs : l.Pairwise (· ≤ ·)) (H : Hp h0 h nx (.gro o 1 n (l.map I) :: L))
  (hK : ∀ (v : AV) (c : Nat) (X : Ob) h' nx', (∀ op : AV → OP, sLen v op = op (I c)) → c ≤ n → (c = n ↔ l.Nodup) → Hp h0 h' nx' (X :: L) → K v h' nx' = .ok True) : (CS Tryz.prog B).fn 172 p [rowV o 1 n] h nx K = .ok True := by
 refine CS_fn_mono (p := .of 172) (K := K) (by_body tbl_ok dreg 10000000 fun hf => ?_) fun _ _ _ _ q => q
 rw [F172.go, H.groLen (k := 0) rfl]
 simp only [sLss]
 have hlen : ∀ {h' nx'} {L' : List Ob} {l' : List AV} (_ : Hp h0 h' nx' (.gro o 1 n l' :: L')) (op : AV → OP), sLen (rowV o 1 n) op = op (I n) := fun H' op => H'.groLen (k := 0) rfl
 by_cases c2 : n < 2
 ·simp only [show (n : Int) < 2 by omega, decide_true, sCond_t]
  refine hK _ n _ _ _ (hlen H) (Nat.le_refl _) ⟨fun _ => ?_, fun _ => rfl⟩ H
  match l, hl with
  | [], _ => exact .nil
  | [a], _ => simp
  | a :: b :: q, hl => simp at hl; omega
 simp only [show ¬ (n : Int) < 2 by omega, decide_false, sCond_f]
 obtain ⟨id, rfl⟩ := gro_some H (k := 0) rfl (by omega)
 refine F172.L2 (fun m x2 h' nx' => ∃ i : Nat, x2 = I i ∧ n - i = m ∧ 1 ≤ i ∧ i ≤ n ∧ h' = h ∧ nx' = nx ∧ ∀ (j : Nat) (hj : j + 1 < l.length), j + 1 < i → l[j]'(by omega) ≠ l[j + 1]) (m := n - 1) (by omega) ⟨1, rfl, rfl, by omega, by omega, rfl, rfl, fun j hj h => by omega⟩ ?_
 rintro m z1 z2 z3 z4 z6 z7 z8 z9 h nx R ⟨i, rfl, rfl, hi1, hi2, rfl, rfl, hne⟩ hR
 rw [hlen H]
 simp only [sLss]
 by_cases hlt : i < n
 case neg =>
  simp only [show ¬ (i : Int) < (n : Int) by omega, decide_false, sCond_f]
  rw [F172.k17]
  refine hK _ n _ _ _ (hlen H) (Nat.le_refl _) ⟨fun _ => sorted_nodup hs fun j hj => hne j hj (by omega), fun _ => rfl⟩ H
 simp only [show (i : Int) < (n : Int) by omega, decide_true, sCond_t]
 have hx : (l.map I)[i]? = some (I (l[i]'(by omega))) := getI (List.getElem?_eq_getElem (by omega))
 have hy : (l.map I)[i - 1]? = some (I (l[i - 1]'(by omega))) := getI (List.getElem?_eq_getElem (by omega))
 have ix : ∀ (j : Nat) (op : AV → OP), j < n → sIaddr 1 (rowV (some id) 1 n) (I (j : Int)) op = op (.ptr id j) := fun j op hj => by
  show sIaddr 1 (.sl id 0 n none 1) (I (j : Int)) op = _
  rw [sIaddr_sl hj]; simp
 rw [ix i _ hlt, H.loadGro (k := 0) rfl hx, sSub (by omega), show (i : Int) - 1 = ((i - 1 : Nat) : Int) by omega, ix (i - 1) _ (by omega), H.loadGro (k := 0) rfl hy]
 simp only [sEql]
 by_cases c : (l[i]'(by omega)) = l[i - 1]'(by omega)
 case neg =>
  simp only [c, decide_false, sCond_f]
  rw [sAdd (by omega)]
  refine hR _ _ _ _ _ _ _ _ _ _ _ (by omega) ⟨i + 1, rfl, rfl, by omega, by omega, rfl, rfl, fun j hj h => ?_⟩
  by_cases e : j + 1 = i
  ·have e1 : l[j + 1] = l[i]'(by omega) := by congr 1
   have e2 : l[j]'(by omega) = l[i - 1]'(by omega) := by congr 1; omega
   rw [e1, e2]
   exact fun q => c q.symm
  ·exact hne j hj (by omega)
 have hnot : ¬ l.Nodup := fun hnd => List.pairwise_iff_getElem.1 hnd (i - 1) i (by omega) (by omega) (by omega) c.symm
 simp only [c, decide_true, sCond_t]
 have eLo : ∀ op : AV → OP, sSlice 1 (rowV (some id) 1 n) (some (I (i : Int))) none none op = op (.sl id i (n - i) none 1) := fun op => by
  rw [H.groLo (k := 0) rfl hi2]
  show op (bif Nat.beq i 0 then _ else bif Nat.ble (i + 1) n then .sl id (0 + i * 1) (n - i) none 1 else _) = _
  have hb : Nat.beq i 0 = false := by cases i with | zero => omega | succ a => rfl
  rw [hb, cond_false, Nat.ble_eq_true_of_le (by omega), cond_true]; simp
 rw [eLo]
 refine F172.L8 (fun m x2 x4 h' nx' => ∃ (a k : Nat) (t : List Int), x2 = I a ∧ x4 = I k ∧ n - i - k = m ∧ 1 ≤ k ∧ k ≤ n - i ∧ i ≤ a ∧ a + 1 ≤ i + k ∧ t.length = n ∧ nx' = nx ∧ Hp h0 h' nx (.gro (some id) 1 n (t.map I) :: L)) (m := n - i - 1) (by omega) ⟨i, 1, l, rfl, rfl, rfl, by omega, by omega, by omega, by omega, hl, rfl, H⟩ ?_
 rintro m y2 y4 y8 y9 h2 nx R2 ⟨a, k, t, rfl, rfl, rfl, hk1, hk2, ha1, ha2, ht, rfl, H2⟩ hR2
 simp only [sLen_sl, sLss]
 by_cases hkt : k < n - i
 ·simp only [show (k : Int) < ((n - i : Nat) : Int) by omega, decide_true, sCond_t]
  have iy : ∀ (j : Nat) (op : AV → OP), j < n - i → sIaddr 1 (.sl id i (n - i) none 1) (I (j : Int)) op = op (.ptr id (i + j)) := fun j op hj => by
   rw [sIaddr_sl hj]; simp
  have g1 : (t.map I)[i + k]? = some (I (t[i + k]'(by omega))) := getI (List.getElem?_eq_getElem (by omega))
  have g2 : (t.map I)[i + (k - 1)]? = some (I (t[i + (k - 1)]'(by omega))) := getI (List.getElem?_eq_getElem (by omega))
  rw [iy k _ hkt, H2.loadGro (k := 0) rfl g1, sSub (by omega), show (k : Int) - 1 = ((k - 1 : Nat) : Int) by omega, iy (k - 1) _ (by omega), H2.loadGro (k := 0) rfl g2]
  simp only [sNeq]
  by_cases d : (t[i + k]'(by omega)) = t[i + (k - 1)]'(by omega)
  ·simp only [d, decide_true, Bool.not_true, sCond_f]
   rw [sAdd (by omega)]
   exact hR2 _ _ _ _ _ _ _ (by omega) ⟨a, k + 1, t, rfl, rfl, rfl, by omega, by omega, by omega, by omega, ht, rfl, H2⟩
  ·simp only [d, decide_false, Bool.not_false, sCond_t]
   rw [iy k _ hkt, H2.loadGro (k := 0) rfl g1, ix a _ (by omega)]
   refine H2.storeGro (k := 0) rfl (by simp; omega) rfl fun h3 H3 => ?_
   rw [sAdd (by omega), sAdd (by omega)]
   exact hR2 _ _ _ _ _ _ _ (by omega) ⟨a + 1, k + 1, t.set a (t[i + k]'(by omega)), rfl, rfl, rfl, by omega, by omega, by omega, by omega, by simpa using ht, rfl, H3.cast (by rw [List.map_set]; rfl)⟩
 ·simp only [show ¬ (k : Int) < ((n - i : Nat) : Int) by omega, decide_false, sCond_f]
  rw [F172.k15, H2.groLo (k := 0) rfl (by omega)]
  refine H2.clrGro (k := 0) rfl (by omega) fun h3 l3 H3 => ?_
  rw [H3.groHi (k := 0) (n := n) (i := a) rfl (by omega)]
  exact hK _ a _ _ _ (fun op => rfl) (by omega) ⟨fun e => by omega, fun e => absurd e hnot⟩ H3
end Go.Ev
namespace Go.Ev
open Go Go.Proofs
variable {B : Nat}
theorem sameTable23 {a b : List (List Int)} (ha : a.length ≤ 1000000000) (hw : ∀ l ∈ a, l.length ≤ 1000000000) : Pure Tryz.prog B 241 [encT a, encT b] (· = .bool (decide (a = b))) := by
 intro p h nx K hK
 refine by_body tbl_ok dreg (a.length + 2) fun hf => ?_
 rw [F241.go]
 simp (disch := omega) only [sAdd, sSub, sMul, sEql, sNeq, sLss, sLeq, sGtr, sGeq, sPick_t, sPick_f, sCond_t, sCond_f, sG_tt, sG_ff, sG_tf, sG_ft, sNot_b, sExt0, sExt1, sExt2, sPart0, sPart1, sPart2, sLen_lst, sLen_sl, sLen_nils, sSame_refl, decide_true, decide_false, Bool.not_true, Bool.not_false, sChk_t]
 by_cases hl : a.length = b.length
 ·simp only [hl, decide_true, Bool.not_true, sCond_f]
  refine F241.L2 (fun m z3 h' nx' => ∃ i : Nat, z3 = I i ∧ m = a.length - i ∧ i ≤ a.length ∧ h' = h ∧ nx' = nx ∧ a.take i = b.take i) (m := a.length) (by omega) ⟨0, rfl, by simp, by omega, rfl, rfl, by simp⟩ ?_
  rintro m z2 z3 z5 z6 _ _ R ⟨i, rfl, rfl, hi, rfl, rfl, htk⟩ hR
  simp (disch := omega) only [sAdd, sSub, sMul, sEql, sNeq, sLss, sLeq, sGtr, sGeq, sPick_t, sPick_f, sCond_t, sCond_f, sG_tt, sG_ff, sG_tf, sG_ft, sNot_b, sExt0, sExt1, sExt2, sPart0, sPart1, sPart2, sLen_lst, sLen_sl, sLen_nils, sSame_refl, decide_true, decide_false, Bool.not_true, Bool.not_false, sChk_t]
  by_cases hlt : i < a.length
  ·have h1 : (i : Int) < a.length := by omega
   have hb : i < b.length := by omega
   simp only [h1, decide_true, sCond_t]
   rw [sIxL rfl hlt, ldL (getT (List.getElem?_eq_getElem hlt)), sIxL rfl hb, ldL (getT (List.getElem?_eq_getElem hb))]
   refine sameInts35 (hw _ (List.getElem_mem hlt)) _ _ _ _ ?_
   rintro _ rfl _
   simp (disch := omega) only [sAdd, sSub, sMul, sEql, sNeq, sLss, sLeq, sGtr, sGeq, sPick_t, sPick_f, sCond_t, sCond_f, sG_tt, sG_ff, sG_tf, sG_ft, sNot_b, sExt0, sExt1, sExt2, sPart0, sPart1, sPart2, sLen_lst, sLen_sl, sLen_nils, sSame_refl, decide_true, decide_false, Bool.not_true, Bool.not_false, sChk_t]
   by_cases he : a[i] = b[i]
   ·simp only [he, decide_true, Bool.not_true, sCond_f]
    refine hR (a.length - (i + 1)) _ _ _ _ _ _ (by omega) ⟨i + 1, rfl, rfl, by omega, rfl, rfl, ?_⟩
    rw [List.take_add_one, List.take_add_one, htk, List.getElem?_eq_getElem hlt, List.getElem?_eq_getElem hb, he]
   ·simp only [he, decide_false, Bool.not_false, sCond_t]
    refine hK _ ?_ hf
    rw [decide_eq_false]
    rintro rfl
    exact he rfl
  ·have h1 : ¬ (i : Int) < a.length := by omega
   simp only [h1, decide_false, sCond_f]
   rw [F241.k9]
   refine hK _ ?_ hf
   rw [List.take_of_length_le (by omega), List.take_of_length_le (by omega)] at htk
   rw [decide_eq_true htk]
 ·have h1 : ¬ (a.length : Int) = b.length := by omega
  simp only [h1, decide_false, Bool.not_false, sCond_t]
  refine hK _ ?_ hf
  rw [decide_eq_false]
  rintro rfl; exact hl rfl
end Go.Ev
namespace Go.Ev
open Go Go.Proofs
variable {B : Nat}
def edgeErr (V : Int) (seen : List (Int × Int)) (e : Int × Int) : Int := if ¬ (0 ≤ e.1 ∧ e.1 < V ∧ 0 ≤ e.2 ∧ e.2 < V) then 10 else if e.2 ≤ e.1 then 11 else if e ∈ seen then 9 else 0
def edgesErr (V : Int) : List (Int × Int) → List (Int × Int) → Int
 | _, [] => 0
 | seen, e :: es => if edgeErr V seen e ≠ 0 then edgeErr V seen e else edgesErr V (seen ++ [e]) es
def graphErr (V : Int) (E : List (Int × Int)) : Int := if V < 1 ∨ 16 < V then 3 else if 32 < E.length then 5 else edgesErr V [] E
theorem edges_step {V : Int} {E : List (Int × Int)} {i : Nat} (h : i < E.length) : edgesErr V (E.take i) (E.drop i) = if edgeErr V (E.take i) E[i] ≠ 0 then edgeErr V (E.take i) E[i] else edgesErr V (E.take (i + 1)) (E.drop (i + 1)) := by
 rw [List.drop_eq_getElem_cons h, edgesErr, List.take_add_one, List.getElem?_eq_getElem h]; rfl
theorem edges_ok {V : Int} : ∀ {es seen : List (Int × Int)}, edgesErr V seen es = 0 → ∀ e ∈ es, (0 ≤ e.1 ∧ e.1 < V ∧ 0 ≤ e.2 ∧ e.2 < V) ∧ e.1 < e.2
 | [], _, _, e, h => by simp at h
 | a :: es, seen, h, e, he => by
  rw [edgesErr] at h
  by_cases c : edgeErr V seen a = 0
  ·rw [if_neg (by simp [c])] at h
   rcases List.mem_cons.1 he with rfl | he
   ·rw [edgeErr] at c
    by_cases c1 : 0 ≤ e.1 ∧ e.1 < V ∧ 0 ≤ e.2 ∧ e.2 < V
    ·rw [if_neg (by simp [c1])] at c
     by_cases c2 : e.2 ≤ e.1
     ·rw [if_pos c2] at c; cases c
     ·exact ⟨c1, by omega⟩
    ·rw [if_pos c1] at c; cases c
   ·exact edges_ok h e he
  ·rw [if_pos c] at h; exact absurd h c
theorem graph_ok {V : Int} {E : List (Int × Int)} (h : graphErr V E = 0) : (1 ≤ V ∧ V ≤ 16) ∧ E.length ≤ 32 ∧ ∀ e ∈ E, (0 ≤ e.1 ∧ e.1 < V ∧ 0 ≤ e.2 ∧ e.2 < V) ∧ e.1 < e.2 := by
 rw [graphErr] at h
 by_cases c : V < 1 ∨ 16 < V
 ·rw [if_pos c] at h; cases h
 rw [if_neg c] at h
 by_cases c2 : 32 < E.length
 ·rw [if_pos c2] at h; cases h
 rw [if_neg c2] at h
 exact ⟨by omega, by omega, edges_ok h⟩
theorem refGraph42 {V : Int} {E : List (Int × Int)} (hE : E.length ≤ 1000000) : Pure Tryz.prog B 21 [.agg [I V, encP E]] (· = I (graphErr V E)) := by
 refine pure_hp fun h nx K H0 hK => by_body tbl_ok dreg 10000000 fun hf => ?_
 rw [F21.go]
 refine H0.box (l := [I V, encP E]) rfl fun bx h1 nx1 H1 => ?_
 have ret : ∀ (v : Int) h' nx' L, v = graphErr V E → Hp h h' nx' L → K (I v) h' nx' = .ok True := fun v h' nx' L hv H' => by rw [hv]; exact hK _ _ _ _ _ H' (frz_fixd rfl) rfl
 rw [sFx, H1.load (k := 0) (i := 0) rfl rfl]
 simp only [sLss]
 by_cases c1 : V < 1
 ·simp only [c1, decide_true, sG_tf, sPick_t, sCond_t]
  exact ret 3 _ _ _ (by rw [graphErr, if_pos (.inl c1)]) H1
 simp only [c1, decide_false, sG_ff, sFx]
 rw [H1.load (k := 0) (i := 0) rfl rfl]
 simp only [sGtr, sPick_f]
 by_cases c2 : 16 < V
 ·simp only [c2, decide_true, sCond_t]
  exact ret 3 _ _ _ (by rw [graphErr, if_pos (.inr c2)]) H1
 simp only [c2, decide_false, sCond_f, sFx]
 rw [H1.load (k := 0) (i := 0 + 1) rfl rfl]
 simp only [sLen_lst, sGtr]
 by_cases c3 : 32 < E.length
 ·simp only [show (32 : Int) < (E.length : Int) by omega, decide_true, sCond_t]
  exact ret 5 _ _ _ (by rw [graphErr, if_neg (by omega), if_pos c3]) H1
 simp only [show ¬ (32 : Int) < (E.length : Int) by omega, decide_false, sCond_f]
 have hg : graphErr V E = edgesErr V (E.take 0) (E.drop 0) := by rw [graphErr, if_neg (by omega), if_neg c3]; rfl
 refine F21.L3 (fun m x3 h' nx' => ∃ (i : Nat) (X : List Ob), x3 = I i ∧ E.length - i = m ∧ i ≤ E.length ∧ graphErr V E = edgesErr V (E.take i) (E.drop i) ∧ Hp h h' nx' (.arr bx [I V, encP E] :: X)) (m := E.length) (by omega) ⟨0, _, rfl, rfl, by omega, hg, H1⟩ ?_
 rintro m z2 z3 z4 z5 z8 z9 z10 z11 z12 h2 nx2 R ⟨i, X, rfl, rfl, hi, hg, H2⟩ hR
 rw [sFx, H2.load (k := 0) (i := 0 + 1) rfl rfl]
 simp only [sLen_lst, sLss]
 by_cases hlt : i < E.length
 case neg =>
  simp only [show ¬ (i : Int) < (E.length : Int) by omega, decide_false, sCond_f]
  rw [F21.k19]
  exact ret 0 _ _ _ (by rw [hg, List.drop_of_length_le (by omega)]; rfl) H2
 simp only [show (i : Int) < (E.length : Int) by omega, decide_true, sCond_t]
 rw [edges_step hlt] at hg
 rw [sFx, H2.load (k := 0) (i := 0 + 1) rfl rfl, sIxL rfl hlt, flat2_cons hlt, sLoadNP]
 refine H2.alloc fun b3 h3 nx3 H3 => ?_
 refine H3.storeN (k := 0) (n := 2) rfl rfl rfl fun h4 H4 => ?_
 have bad : ∀ (v : Int), v ≠ 0 → edgeErr V (E.take i) E[i] = v → K (I v) h4 nx3 = .ok True := fun v h0 he => ret v _ _ _ (by rw [hg, he, if_pos h0]) H4
 have out : ¬ (0 ≤ E[i].1 ∧ E[i].1 < V ∧ 0 ≤ E[i].2 ∧ E[i].2 < V) → K (I 10) h4 nx3 = .ok True := fun c => bad 10 (by omega) (by rw [edgeErr, if_pos c])
 rw [sAx0, H4.load (k := 0) (i := 0) rfl rfl]
 simp only [sLss]
 by_cases d1 : E[i].1 < 0
 ·simp only [d1, decide_true, sG_tf, sPick_t, sCond_t]
  exact out (by omega)
 simp only [d1, decide_false, sG_ff]
 rw [sAx0, H4.load (k := 0) (i := 0) rfl rfl, sFx, H4.load (k := 1) (i := 0) rfl rfl]
 simp only [sGeq, sPick_f]
 by_cases d2 : V ≤ E[i].1
 ·simp only [d2, decide_true, sG_tf, sPick_t, sCond_t]
  exact out (by omega)
 simp only [d2, decide_false, sG_ff]
 rw [sAx1, H4.load (k := 0) (i := 0 + 1) rfl rfl]
 simp only [sLss, sPick_f]
 by_cases d3 : E[i].2 < 0
 ·simp only [d3, decide_true, sG_tf, sPick_t, sCond_t]
  exact out (by omega)
 simp only [d3, decide_false, sG_ff]
 rw [sAx1, H4.load (k := 0) (i := 0 + 1) rfl rfl, sFx, H4.load (k := 1) (i := 0) rfl rfl]
 simp only [sGeq, sPick_f]
 by_cases d4 : V ≤ E[i].2
 ·simp only [d4, decide_true, sCond_t]
  exact out (by omega)
 simp only [d4, decide_false, sCond_f]
 rw [F21.k9, sAx0, H4.load (k := 0) (i := 0) rfl rfl, sAx1, H4.load (k := 0) (i := 0 + 1) rfl rfl]
 simp only [sGeq]
 by_cases d5 : E[i].2 ≤ E[i].1
 ·simp only [d5, decide_true, sCond_t]
  exact bad 11 (by omega) (by rw [edgeErr, if_neg (by omega), if_pos d5])
 simp only [d5, decide_false, sCond_f]
 refine F21.L11 (fun m x5 h' nx' => ∃ k : Nat, x5 = I k ∧ i - k = m ∧ k ≤ i ∧ h' = h4 ∧ nx' = nx3 ∧ ∀ j p, j < k → E[j]? = some p → p ≠ E[i]) (m := i) (by omega) ⟨0, rfl, rfl, by omega, rfl, rfl, fun j p hj => by omega⟩ ?_
 rintro m y2 y5 y11 y12 h4 nx3 R2 ⟨k, rfl, rfl, hk, rfl, rfl, hne⟩ hR2
 simp only [sLss]
 by_cases hkt : k < i
 ·simp only [show (k : Int) < (i : Int) by omega, decide_true, sCond_t]
  have hkE : k < E.length := by omega
  rw [sFx, H4.load (k := 1) (i := 0 + 1) rfl rfl, sIxL rfl hkE, flat2_cons hkE, sLoadNP, H4.loadN (k := 0) (n := 2) rfl rfl, sEqlP]
  by_cases e : E[k] = E[i]
  ·rw [e]
   simp only [decide_true, Bool.and_self, sCond_t]
   refine bad 9 (by omega) ?_
   rw [edgeErr, if_neg (by omega), if_neg d5, if_pos]
   exact List.mem_of_getElem? (i := k) (by rw [List.getElem?_take_of_lt hkt, List.getElem?_eq_getElem hkE, e])
  ·have hb : (decide (E[k].1 = E[i].1) && decide (E[k].2 = E[i].2)) = false := by
    rw [Bool.eq_false_iff]
    intro q
    simp only [Bool.and_eq_true, decide_eq_true_eq] at q
    exact e (Prod.ext q.1 q.2)
   rw [hb, sCond_f, sAdd (by omega)]
   refine hR2 _ _ _ _ _ _ _ (by omega) ⟨k + 1, rfl, rfl, by omega, rfl, rfl, fun j p hj hp => ?_⟩
   by_cases ej : j = k
   ·subst ej
    rw [List.getElem?_eq_getElem hkE] at hp
    exact (Option.some.inj hp) ▸ e
   ·exact hne j p (by omega) hp
 ·simp only [show ¬ (k : Int) < (i : Int) by omega, decide_false, sCond_f]
  obtain rfl : k = i := by omega
  rw [F21.k18, sAdd (by omega)]
  have hz : edgeErr V (E.take k) E[k] = 0 := by
   rw [edgeErr, if_neg (by omega), if_neg d5, if_neg]
   intro q
   obtain ⟨j, hj⟩ := List.mem_iff_getElem?.1 q
   rw [List.getElem?_take] at hj
   split at hj
   ·exact hne j _ (by assumption) hj rfl
   ·cases hj
  rw [hz, if_neg (by simp)] at hg
  exact hR _ _ _ _ _ _ _ _ _ _ _ _ (by omega) ⟨k + 1, X, rfl, rfl, by omega, hg, H4.drop⟩
theorem index180 {q : List (Int × Int)} {e : Int × Int} (hq : q.length ≤ 1000000) : Pure Tryz.prog B 178 [encP q, .agg [I e.1, I e.2]] (fun v => ∃ r : Int, v = I r ∧ (0 ≤ r ↔ e ∈ q)) := by
 refine pure_hp fun h nx K H0 hK => by_body tbl_ok dreg 10000000 fun hf => ?_
 rw [F178.go]
 refine H0.box (l := [I e.1, I e.2]) rfl fun bx h1 nx1 H1 => ?_
 simp only [sLen_lst]
 refine F178.L1 (fun m z6 h' nx' => ∃ i : Nat, z6 = I i ∧ q.length - i = m ∧ i ≤ q.length ∧ h' = h1 ∧ nx' = nx1 ∧ e ∉ q.take i) (m := q.length) (by omega) ⟨0, rfl, rfl, by omega, rfl, rfl, by simp⟩ ?_
 rintro m z3 z4 z6 z7 z8 h1 nx1 R ⟨i, rfl, rfl, hi, rfl, rfl, hn⟩ hR
 simp only [sLss]
 by_cases hlt : i < q.length
 ·simp only [show (i : Int) < (q.length : Int) by omega, decide_true, sCond_t]
  rw [H1.loadN (k := 0) (n := 2) rfl rfl, sIxL rfl hlt, flat2_cons hlt, sLoadNP, sEqlP]
  by_cases c : e = q[i]
  ·rw [c]
   simp only [decide_true, Bool.and_self, sCond_t]
   refine hK _ _ _ _ _ H1 (frz_fixd rfl) ⟨_, rfl, ?_⟩
   exact ⟨fun _ => by rw [c]; exact List.getElem_mem hlt, fun _ => by omega⟩
  ·have hb : (decide (e.1 = q[i].1) && decide (e.2 = q[i].2)) = false := by
    rw [Bool.eq_false_iff]
    intro q
    simp only [Bool.and_eq_true, decide_eq_true_eq] at q
    exact c (Prod.ext q.1 q.2)
   rw [hb, sCond_f, sAdd (by omega)]
   refine hR _ _ _ _ _ _ _ _ (by omega) ⟨i + 1, rfl, rfl, by omega, rfl, rfl, ?_⟩
   rw [List.take_add_one, List.getElem?_eq_getElem hlt, Option.toList_some]
   intro h
   rcases List.mem_append.1 h with q1 | q1
   ·exact hn q1
   ·simp at q1; exact c q1
 ·simp only [show ¬ (i : Int) < (q.length : Int) by omega, decide_false, sCond_f]
  rw [F178.k8]
  rw [List.take_of_length_le (by omega)] at hn
  refine hK _ _ _ _ _ H1 (frz_fixd rfl) ⟨_, rfl, ?_⟩
  exact ⟨fun h => by omega, fun h => absurd h hn⟩
theorem contains166 {q : List (Int × Int)} {e : Int × Int} (hq : q.length ≤ 1000000) : Pure Tryz.prog B 91 [encP q, .agg [I e.1, I e.2]] (· = .bool (decide (e ∈ q))) := by
 refine pure_hp fun h nx K H0 hK => by_body tbl_ok dreg 1000 fun hf => ?_
 rw [F91.go]
 refine H0.box (l := [I e.1, I e.2]) rfl fun bx h1 nx1 H1 => ?_
 rw [H1.loadN (k := 0) (n := 2) rfl rfl]
 refine index180 hq _ _ _ _ ?_
 rintro _ ⟨r, rfl, hr⟩ _
 simp only [sGeq]
 refine hK _ _ _ _ _ H1 (frz_fixd rfl) ?_
 exact congrArg AV.bool (decide_eq_decide.2 hr)
theorem checkGraph133 {V : Int} {E : List (Int × Int)} (hE : E.length ≤ 1000000) : Pure Tryz.prog B 20 [.agg [I V, encP E]] (· = I (graphErr V E)) := by
 refine pure_hp fun h nx K H0 hK => by_body tbl_ok dreg 10000000 fun hf => ?_
 rw [F20.go]
 refine H0.box (l := [I V, encP E]) rfl fun bx h1 nx1 H1 => ?_
 rw [sFx, H1.load (k := 0) (i := 0) rfl rfl, sFx, H1.load (k := 0) (i := 0 + 1) rfl rfl]
 simp only [sLen_lst, sGtr]
 refine H1.bslice (l := [I V]) rfl fun id h2 nx2 H2 => ?_
 simp only [sSame_refl, sLen_lst]
 rw [H2.load (k := 1) (i := 0 + 1) rfl rfl]
 simp only [sSame_refl, sFx]
 refine CS_plain (args' := [I 1, I 16, encI [V]]) (.cons (.int _ _) (.cons (.int _ _) (.cons (HasArr.frz (H2.own (.arr id [I V]) (by simp)) (T.get_e _ id) (Nat.le_refl _) rfl (fun v hv => by simp at hv; subst hv; rfl)) .nil))) rfl (fun B => from122 (l := [V]) (by simp)) (fun v hv => by rw [hv]; exact .int _ _) ?_
 rintro _ rfl _
 rw [H2.load (k := 1) (i := 0 + 1) rfl rfl]
 simp only [sSame_refl, sLen_lst]
 refine when123 _ _ _ _ _ _ ?_
 rintro _ rfl _
 refine H2.bslice (l := [I (if [V].any (fun x => decide (x < 1) || decide (16 < x)) then 3 else 0), I (if decide (32 < (E.length : Int)) then 5 else 0)]) rfl fun id3 h3 nx3 H3 => ?_
 refine own_plain (l := [if [V].any (fun x => decide (x < 1) || decide (16 < x)) then 3 else 0, if decide (32 < (E.length : Int)) then 5 else 0]) H3 (k := 0) rfl (fun B => first121 (by simp)) (fun v hv => by rw [hv]; exact .int _ _) ?_
 rintro _ rfl
 have ret : ∀ (v : Int) h' nx' L, v = graphErr V E → Hp h h' nx' L → K (I v) h' nx' = .ok True := fun v h' nx' L hv H' => by rw [hv]; exact hK _ _ _ _ _ H' (frz_fixd rfl) rfl
 have ef : firstE [if [V].any (fun x => decide (x < 1) || decide (16 < x)) then 3 else 0, if decide (32 < (E.length : Int)) then 5 else 0] = if V < 1 ∨ 16 < V then 3 else if 32 < E.length then 5 else 0 := by
  by_cases c : V < 1 ∨ 16 < V
  ·simp [firstE, c]
  ·by_cases c2 : 32 < E.length
   ·have : (32 : Int) < (E.length : Int) := by omega
    simp [firstE, c, c2, this]
   ·have : ¬ (32 : Int) < (E.length : Int) := by omega
    simp [firstE, c, c2, this]
 rw [ef]
 simp only [sNeq]
 by_cases c1 : V < 1 ∨ 16 < V
 ·simp only [c1, if_true, show ¬ (3 : Int) = 0 by omega, decide_false, Bool.not_false, sCond_t]
  exact ret 3 _ _ _ (by rw [graphErr, if_pos c1]) H3
 simp only [c1, if_false]
 by_cases c3 : 32 < E.length
 ·simp only [c3, if_true, show ¬ (5 : Int) = 0 by omega, decide_false, Bool.not_false, sCond_t]
  exact ret 5 _ _ _ (by rw [graphErr, if_neg c1, if_pos c3]) H3
 simp only [c3, if_false, decide_true, Bool.not_true, sCond_f, sFx]
 rw [H3.load (k := 2) (i := 0 + 1) rfl rfl]
 simp only [sLen_lst]
 have hg : graphErr V E = edgesErr V (E.take 0) (E.drop 0) := by rw [graphErr, if_neg c1, if_neg c3]; rfl
 have H3' : Hp h h3 nx3 (.arr bx [I V, encP E] :: []) := H3.drop.drop
 clear H3
 refine F20.L2 (fun m x11 h' nx' => ∃ (i : Nat), x11 = I i ∧ E.length - i = m ∧ i ≤ E.length ∧ graphErr V E = edgesErr V (E.take i) (E.drop i) ∧ Hp h h' nx' (.arr bx [I V, encP E] :: [])) (m := E.length) (by omega) ⟨0, rfl, rfl, by omega, hg, H3'⟩ ?_
 rintro m z2 z4 z5 z6 z7 z11 z12 z13 h4 nx4 R ⟨i, rfl, rfl, hi, hg, H4⟩ hR
 simp only [sLss]
 by_cases hlt : i < E.length
 case neg =>
  simp only [show ¬ (i : Int) < (E.length : Int) by omega, decide_false, sCond_f]
  rw [F20.k10]
  exact ret 0 _ _ _ (by rw [hg, List.drop_of_length_le (by omega)]; rfl) H4
 simp only [show (i : Int) < (E.length : Int) by omega, decide_true, sCond_t]
 rw [edges_step hlt] at hg
 rw [sIxL rfl hlt, flat2_cons hlt, sLoadNP]
 refine H4.alloc fun b5 h5 nx5 H5 => ?_
 refine H5.storeN (k := 0) (n := 2) rfl rfl rfl fun h6 H6 => ?_
 have H6 : Hp h h6 nx5 (.arr b5 [I E[i].1, I E[i].2] :: .arr bx [I V, encP E] :: []) := H6
 have tail : ∀ (kn : Bool) (z13 : AV), kn = decide (0 ≤ E[i].1 ∧ E[i].1 < V ∧ 0 ≤ E[i].2 ∧ E[i].2 < V) → IR.run F20.b8 (CS Tryz.prog B) 10000000 (((fnO F20.res K).blk 0 (IR.run F20.b10 (CS Tryz.prog B) 10000000 (fnO F20.res K) (retK F20.res K))).blk 1 (IR.run F20.b9 (CS Tryz.prog B) 10000000 ((fnO F20.res K).blk 0 (IR.run F20.b10 (CS Tryz.prog B) 10000000 (fnO F20.res K) (retK F20.res K))) R)) (IR.run F20.b9 (CS Tryz.prog B) 10000000 ((fnO F20.res K).blk 0 (IR.run F20.b10 (CS Tryz.prog B) 10000000 (fnO F20.res K) (retK F20.res K))) R) (F20.fr (.agg [I V, encP E]) (.ptr bx 0) z2 (I 0) (I i) (.ptr b5 0) (.bool kn) z7 (.bool false) (encP E) (I E.length) (I i) (.bool true) z13) h6 nx5 = .ok True := by
  intro kn z13 hkn
  rw [F20.k8]
  simp only [sNot_b]
  rw [sAx0, H6.load (k := 0) (i := 0) rfl rfl, sAx1, H6.load (k := 0) (i := 0 + 1) rfl rfl]
  simp only [sGeq, sFx]
  rw [H6.load (k := 1) (i := 0 + 1) rfl rfl, sSliceP (by omega) (by omega), encP_take hi, H6.loadN (k := 0) (n := 2) rfl rfl]
  refine when123 _ _ _ _ _ _ ?_
  rintro _ rfl _
  rw [H6.loadN (k := 0) (n := 2) rfl rfl, sSame_refl, sSliceP (by omega) (by omega), encP_take hi]
  simp only [sSame_refl]
  rw [H6.load (k := 1) (i := 0 + 1) rfl rfl]
  simp only [sSame_refl, sFx, sGeq]
  rw [H6.load (k := 0) (i := 0 + 1) rfl rfl, sSame_refl, sAx1, sSame_refl, H6.load (k := 0) (i := 0) rfl rfl, sSame_refl, sAx0, sSame_refl]
  refine when123 _ _ _ _ _ _ ?_
  rintro _ rfl _
  rw [H6.loadN (k := 0) (n := 2) rfl rfl, sSame_refl, sSliceP (by omega) (by omega), encP_take hi]
  simp only [sSame_refl]
  rw [H6.load (k := 1) (i := 0 + 1) rfl rfl]
  simp only [sSame_refl, sFx]
  refine contains166 (e := E[i]) (by rw [List.length_take]; omega) _ _ _ _ ?_
  rintro _ rfl _
  refine when123 _ _ _ _ _ _ ?_
  rintro _ rfl _
  refine H6.bslice (l := [I (if (!kn) then 10 else 0), I (if decide (E[i].2 ≤ E[i].1) then 11 else 0), I (if decide (E[i] ∈ E.take i) then 9 else 0)]) rfl fun id7 h7 nx7 H7 => ?_
  refine own_plain (l := [if (!kn) then 10 else 0, if decide (E[i].2 ≤ E[i].1) then 11 else 0, if decide (E[i] ∈ E.take i) then 9 else 0]) H7 (k := 0) rfl (fun B => first121 (by simp)) (fun v hv => by rw [hv]; exact .int _ _) ?_
  rintro _ rfl
  have ee : firstE [if (!kn) then 10 else 0, if decide (E[i].2 ≤ E[i].1) then 11 else 0, if decide (E[i] ∈ E.take i) then 9 else 0] = edgeErr V (E.take i) E[i] := by
   by_cases d1 : 0 ≤ E[i].1 ∧ E[i].1 < V ∧ 0 ≤ E[i].2 ∧ E[i].2 < V
   ·have e0 : edgeErr V (E.take i) E[i] = if E[i].2 ≤ E[i].1 then 11 else if E[i] ∈ E.take i then 9 else 0 := by rw [edgeErr, if_neg (fun q => q d1)]
    rw [hkn, decide_eq_true d1, e0]
    by_cases d2 : E[i].2 ≤ E[i].1
    ·rw [if_pos d2, decide_eq_true d2]; rfl
    ·rw [if_neg d2, decide_eq_false d2]
     by_cases d3 : E[i] ∈ E.take i
     ·rw [if_pos d3, decide_eq_true d3]; rfl
     ·rw [if_neg d3, decide_eq_false d3]; rfl
   ·have e0 : edgeErr V (E.take i) E[i] = 10 := by rw [edgeErr, if_pos d1]
    rw [hkn, decide_eq_false d1, e0]; rfl
  rw [ee]
  simp only [sNeq]
  by_cases c : edgeErr V (E.take i) E[i] = 0
  ·simp only [c, decide_true, Bool.not_true, sCond_f]
   rw [F20.k9, sAdd (by omega)]
   rw [c, if_neg (by simp)] at hg
   exact hR _ _ _ _ _ _ _ _ _ _ _ (by omega) ⟨i + 1, rfl, rfl, by omega, hg, H7.drop.drop⟩
  ·simp only [c, decide_false, Bool.not_false, sCond_t]
   rw [if_pos c] at hg
   exact ret _ _ _ _ hg.symm H7
 rw [sAx0, H6.load (k := 0) (i := 0) rfl rfl]
 simp only [sGeq]
 by_cases d1 : 0 ≤ E[i].1
 case neg =>
  simp only [d1, decide_false, sG_ft, sPick_f]
  exact tail false _ (decide_eq_false (by omega)).symm
 simp only [d1, decide_true, sG_tt]
 rw [sAx0, H6.load (k := 0) (i := 0) rfl rfl, sFx, H6.load (k := 1) (i := 0) rfl rfl]
 simp only [sLss, sPick_t]
 by_cases d2 : E[i].1 < V
 case neg =>
  simp only [d2, decide_false, sG_ft, sPick_f]
  exact tail false _ (decide_eq_false (by omega)).symm
 simp only [d2, decide_true, sG_tt]
 rw [sAx1, H6.load (k := 0) (i := 0 + 1) rfl rfl]
 simp only [sGeq, sPick_t]
 by_cases d3 : 0 ≤ E[i].2
 case neg =>
  simp only [d3, decide_false, sG_ft, sPick_f]
  exact tail false _ (decide_eq_false (by omega)).symm
 simp only [d3, decide_true, sG_tt]
 rw [sAx1, H6.load (k := 0) (i := 0 + 1) rfl rfl, sFx, H6.load (k := 1) (i := 0) rfl rfl]
 simp only [sLss, sPick_t]
 exact tail _ _ (decide_eq_decide.2 (by omega))
end Go.Ev
namespace Go.Ev
theorem sub_perm : ∀ (l r : List Int), l.Nodup → (∀ x ∈ l, x ∈ r) → ∃ s, r.Perm (l ++ s)
 | [], r, _, _ => ⟨r, .refl _⟩
 | a :: l, r, hn, hs => by
  obtain ⟨h1, h2⟩ := List.nodup_cons.1 hn
  have ha := hs a (by simp)
  obtain ⟨s, hp⟩ := sub_perm l (r.erase a) h2 fun x hx => (List.mem_erase_of_ne (by rintro rfl; exact h1 hx)).2 (hs x (by simp [hx]))
  exact ⟨s, (List.perm_cons_erase ha).trans (.cons a hp)⟩
abbrev upTo (n : Nat) : List Int := (List.range n).map fun (i : Nat) => (i : Int) + 1
def Rv (l cur : List Int) (i : Nat) : Prop := cur.length = l.length ∧ ∀ t, t < l.length → cur[t]? = if t < i ∨ l.length ≤ t + i then l[l.length - 1 - t]? else l[t]?
theorem Rv.done {l cur : List Int} {i : Nat} (h : Rv l cur i) (hi : l.length ≤ 2 * i + 1) : cur = l.reverse := by
 refine List.ext_getElem? fun t => ?_
 by_cases ht : t < l.length
 ·rw [h.2 t ht, List.getElem?_reverse ht]
  by_cases c : t < i ∨ l.length ≤ t + i
  ·rw [if_pos c]
  ·rw [if_neg c, show l.length - 1 - t = t by omega]
 ·rw [List.getElem?_eq_none (by rw [h.1]; omega), List.getElem?_eq_none (by simp; omega)]
theorem Rv.step {l cur : List Int} {i j : Nat} {a b : Int} (h : Rv l cur i) (hij : i < j) (hs : i + j + 1 = l.length) (ha : cur[i]? = some a) (hb : cur[j]? = some b) : Rv l ((cur.set i b).set j a) (i + 1) := by
 obtain ⟨hl, hg⟩ := h
 refine ⟨by simp [hl], fun t ht => ?_⟩
 have e1 := hg i (by omega)
 have e2 := hg j (by omega)
 rw [if_neg (by omega), ha] at e1
 rw [if_neg (by omega), hb] at e2
 rw [List.getElem?_set, List.getElem?_set, List.length_set]
 by_cases c1 : j = t
 ·subst c1
  rw [if_pos rfl, if_pos (by omega), if_pos (by omega), show l.length - 1 - j = i by omega]
  exact e1
 ·rw [if_neg c1]
  by_cases c2 : i = t
  ·subst c2
   rw [if_pos rfl, if_pos (by omega), if_pos (by omega), show l.length - 1 - i = j by omega]
   exact e2
  ·rw [if_neg c2, hg t ht]
   by_cases c3 : t < i ∨ l.length ≤ t + i
   ·rw [if_pos c3, if_pos (by omega)]
   ·rw [if_neg c3, if_neg (by omega)]
end Go.Ev
namespace Go.Ev
section
variable {σ α : Type}
end
end Go.Ev
namespace Go.Ev
end Go.Ev
namespace Go.Ev
def SpOK (M : Int) (q : List (Int × Int)) : Prop := q.Pairwise (fun a b => a.1 < b.1) ∧ ∀ p ∈ q, 0 ≤ p.1 ∧ p.1 ≤ M
theorem SpOK.len {q : List (Int × Int)} (h : SpOK 9000 q) : q.length ≤ 9001 := by
 obtain ⟨t, ht⟩ := sub_perm (q.map (·.1)) ((List.range 9001).map fun (i : Nat) => (i : Int)) (by
  rw [List.nodup_iff_pairwise_ne, List.pairwise_map]
  exact h.1.imp fun {a b} q e => by omega) fun x hx => by
  obtain ⟨p, hp, rfl⟩ := List.mem_map.1 hx
  have := h.2 p hp
  exact List.mem_map.2 ⟨p.1.toNat, List.mem_range.2 (by omega), by omega⟩
 have := ht.length_eq
 rw [List.length_map, List.length_range, List.length_append, List.length_map] at this
 omega
end Go.Ev
namespace Go.Ev
end Go.Ev
namespace Go.Ev
open Go Go.Proofs
variable {B : Nat}
set_option maxRecDepth 100000
theorem sub_permG {α : Type} [DecidableEq α] : ∀ (l r : List α), l.Nodup → (∀ x ∈ l, x ∈ r) → ∃ s, r.Perm (l ++ s)
 | [], r, _, _ => ⟨r, .refl _⟩
 | a :: l, r, hn, hs => by
  obtain ⟨h1, h2⟩ := List.nodup_cons.1 hn
  have ha := hs a (by simp)
  obtain ⟨s, hp⟩ := sub_permG l (r.erase a) h2 fun x hx => (List.mem_erase_of_ne (by rintro rfl; exact h1 hx)).2 (hs x (by simp [hx]))
  exact ⟨s, (List.perm_cons_erase ha).trans (.cons a hp)⟩
theorem perm_of_sub {α : Type} [DecidableEq α] {l r : List α} (h1 : l.Nodup) (h2 : ∀ x ∈ l, x ∈ r) (h3 : r.length ≤ l.length) : r.Perm l := by
 obtain ⟨s, hs⟩ := sub_permG l r h1 h2
 have hl := hs.length_eq
 obtain rfl : s = [] := List.eq_nil_of_length_eq_zero (by rw [List.length_append] at hl; omega)
 simpa using hs
theorem srt_lengthL (l : List Int) : (srt l).length = l.length := (srt_perm l).length_eq
theorem mem_upTo {n : Nat} {x : Int} : x ∈ upTo n ↔ 1 ≤ x ∧ x ≤ (n : Int) := by
 rw [List.mem_map]
 constructor
 ·rintro ⟨i, hi, rfl⟩; have := List.mem_range.1 hi; omega
 ·rintro ⟨h1, h2⟩; exact ⟨(x - 1).toNat, List.mem_range.2 (by omega), by omega⟩
theorem nrm_iffL {f : List Int} : srt f = upTo f.length ↔ ∀ j, j < f.length → ((j : Int) + 1) ∈ f := by
 constructor
 ·intro h j hj
  rw [← (srt_perm f).mem_iff, h, mem_upTo]; omega
 ·intro h
  have hnd : (upTo f.length).Nodup := by
   refine List.pairwise_map.2 (List.nodup_range.imp fun hne e => hne (by omega))
  have hp : (upTo f.length).Perm f := List.Perm.symm <| perm_of_sub hnd (fun x hx => by
   rw [mem_upTo] at hx
   have := h (x - 1).toNat (by omega)
   rwa [show (((x - 1).toNat : Nat) : Int) + 1 = x by omega] at this) (by simp)
  refine (srt_unique hp ?_).symm
  exact List.pairwise_map.2 (List.pairwise_lt_range.imp fun h => by omega)
theorem isNormal136 {f : List Int} (hj : ∀ B, JOk Tryz.prog B hookS) (hl : f.length ≤ 100000) : Pure Tryz.prog B 136 [encI f] (· = .bool (decide (srt f = upTo f.length))) := by
 intro p h nx K hK
 refine by_body tbl_ok dreg 10000000 fun hf => ?_
 rw [F136.go]
 refine values126 _ _ _ _ ?_
 rintro _ rfl _
 refine sorted125 hj hl _ _ _ _ ?_
 rintro _ rfl _
 have hlen := srt_lengthL f
 simp only [sLen_lst]
 refine F136.L1 (fun m z6 h' nx' => ∃ i : Nat, z6 = I i ∧ f.length - i = m ∧ i ≤ f.length ∧ h' = h ∧ nx' = nx ∧ (srt f).take i = (upTo f.length).take i) (m := f.length) (by omega) ⟨0, rfl, rfl, by omega, rfl, rfl, rfl⟩ ?_
 rintro m z1 z2 z3 z6 z7 z8 _ _ R ⟨i, rfl, rfl, hi, rfl, rfl, htk⟩ hR
 simp only [sLss]
 by_cases hlt : i < f.length
 ·simp only [show (i : Int) < ((srt f).length : Int) by omega, decide_true, sCond_t]
  have hx : (srt f)[i]? = some (srt f)[i] := List.getElem?_eq_getElem (by omega)
  have hu : (upTo f.length)[i]? = some ((i : Int) + 1) := by simp [List.getElem?_map, hlt]
  rw [sIxL rfl (by omega), ldL (getI hx), sAdd (by omega)]
  simp only [sNeq]
  by_cases c : (srt f)[i] = (i : Int) + 1
  ·simp only [c, decide_true, Bool.not_true, sCond_f]
   rw [sAdd (by omega)]
   refine hR _ _ _ _ _ _ _ _ _ (by omega) ⟨i + 1, rfl, rfl, by omega, rfl, rfl, ?_⟩
   rw [List.take_add_one, List.take_add_one, htk, hx, hu, c]
  ·simp only [c, decide_false, Bool.not_false, sCond_t]
   refine hK _ ?_ hf
   rw [decide_eq_false]
   intro q
   have h9 : (srt f)[i]? = some ((i : Int) + 1) := by rw [q]; exact hu
   rw [hx] at h9
   exact c (Option.some.inj h9)
 ·simp only [show ¬ (i : Int) < ((srt f).length : Int) by omega, decide_false, sCond_f]
  rw [F136.k8]
  rw [List.take_of_length_le (by omega), List.take_of_length_le (by simp; omega)] at htk
  exact hK _ (by rw [decide_eq_true htk]) hf
theorem refNormal46 {f : List Int} (hl : f.length ≤ 100000) : Pure Tryz.prog B 46 [encI f] (· = .bool (decide (srt f = upTo f.length))) := by
 intro p h nx K hK
 refine by_body tbl_ok dreg 10000000 fun hf => ?_
 rw [F46.go]
 refine F46.L1 (fun m z2 h' nx' => ∃ k : Nat, z2 = I ((k : Int) + 1) ∧ f.length - k = m ∧ k ≤ f.length ∧ h' = h ∧ nx' = nx ∧ ∀ j, j < k → ((j : Int) + 1) ∈ f) (m := f.length) (by omega) ⟨0, rfl, rfl, by omega, rfl, rfl, fun j hj => by omega⟩ ?_
 rintro m z1 z2 z3 z4 z5 z6 z7 h nx R ⟨k, rfl, rfl, hk, rfl, rfl, hin⟩ hR
 simp only [sLen_lst, sLeq]
 by_cases hlt : k < f.length
 case neg =>
  simp only [show ¬ (k : Int) + 1 ≤ (f.length : Int) by omega, decide_false, sCond_f]
  rw [F46.k16]
  exact hK _ (by rw [decide_eq_true (nrm_iffL.2 fun j hj => hin j (by omega))]) hf
 simp only [show (k : Int) + 1 ≤ (f.length : Int) by omega, decide_true, sCond_t]
 refine F46.L7 (fun m z3 z4 h' nx' => ∃ i : Nat, z4 = I i ∧ z3 = .bool (decide (((k : Int) + 1) ∈ f.take i)) ∧ f.length - i = m ∧ i ≤ f.length ∧ h' = h ∧ nx' = nx) (m := f.length) (by omega) ⟨0, rfl, by simp, rfl, by omega, rfl, rfl⟩ ?_
 rintro m z3 z4 z6 _ _ R2 ⟨i, rfl, rfl, rfl, hi, rfl, rfl⟩ hR2
 simp only [sLen_lst, sLss]
 by_cases hlt2 : i < f.length
 case neg =>
  simp only [show ¬ (i : Int) < (f.length : Int) by omega, decide_false, sCond_f]
  rw [List.take_of_length_le (by omega), F46.k14]
  simp only [sNot_b]
  by_cases c : ((k : Int) + 1) ∈ f
  ·rw [decide_eq_true c]
   simp only [Bool.not_true, sCond_f]
   rw [F46.k15, sAdd (by omega)]
   refine hR _ _ _ _ _ _ _ _ _ _ (by omega) ⟨k + 1, by push_cast; rfl, rfl, by omega, rfl, rfl, fun j hj => ?_⟩
   by_cases e : j = k
   ·rw [e]; exact c
   ·exact hin j (by omega)
  ·rw [decide_eq_false c]
   simp only [Bool.not_false, sCond_t]
   exact hK _ (by rw [decide_eq_false fun q => c (nrm_iffL.1 q k hlt)]) hf
 simp only [show (i : Int) < (f.length : Int) by omega, decide_true, sCond_t]
 have hx : f[i]? = some f[i] := List.getElem?_eq_getElem hlt2
 have hs : f.take (i + 1) = f.take i ++ [f[i]] := by rw [List.take_add_one, hx]; rfl
 by_cases c : ((k : Int) + 1) ∈ f.take i
 ·rw [decide_eq_true c]
  simp only [sG_tf, sPick_t]
  rw [sAdd (by omega)]
  exact hR2 _ _ _ _ _ _ (by omega) ⟨i + 1, rfl, by rw [hs, decide_eq_true (List.mem_append_left _ c)], rfl, by omega, rfl, rfl⟩
 ·rw [decide_eq_false c]
  simp only [sG_ff]
  rw [sIxL rfl hlt2, ldL (getI hx)]
  simp only [sEql, sPick_f]
  rw [sAdd (by omega)]
  refine hR2 _ _ _ _ _ _ (by omega) ⟨i + 1, rfl, ?_, rfl, by omega, rfl, rfl⟩
  rw [hs]
  congr 1
  rw [decide_eq_decide, List.mem_append, List.mem_singleton]
  exact ⟨fun e => .inr e.symm, fun e => (e.resolve_left c).symm⟩
end Go.Ev
namespace Go.Ev
open Go Go.Proofs
set_option maxRecDepth 100000
variable {N : Nat} {C : Calls Prop} {K0 : Kw Prop} {K R : Ks Prop} {h : T Blk} {nx : Pa} {x0 x1 x2 x3 x4 x5 x6 x7 x8 x9 x10 x11 x12 x13 x14 x15 x16 x17 x18 a0 a1 : AV}
theorem F76.g2_eq (X3 : IR) (O : Outs Prop) (t : T AV) : IR.run (F76.g2 X3) C N O K t h nx = IR.run X3 C N (O.blk 0 K) K t h nx := by kernel_rfl
theorem F76.tab : T.get none (.of 76) tbl = some F76 := by kernel_rfl
theorem F76.go : callFn tbl N C (.of 76) [a0] h nx K0 =
 sBox a0 h nx fun v1 h2 n3 =>
 sAlloc [(I 0), .nils] h2 n3 fun v4 h5 n6 =>
 sLoadN 2 v1 h5 fun v7 =>
 sFaddr 1 v1 fun v8 =>
 sLoad v8 h5 fun v9 =>
 sLen v9 fun v10 =>
 sBin .eql .int v10 (I 0) fun v11 =>
 C.fn 20 (.of 20) [v7] h5 n6 fun v12 h13 n14 =>
 (sBin .eql .int v10 (I 0) fun v36 => sSame v36 v11 ((sLen v9 fun v35 => sSame v35 v10 ((sLoad v8 h13 fun v34 => sSame v34 v9 ((sFaddr 1 v1 fun v33 => sSame v33 v8 (C.fn 88 (.of 88) [v11, (I 12)] h13 n14 fun v15 h16 n17 =>
 sBslice 1 2 [(I 0)] [(0, 1, v12), (1, 1, v15)] h16 n17 fun v18 h19 n20 =>
 C.fn 86 (.of 86) [v18] h19 n20 fun v21 h22 n23 =>
 sBin .neq .int v21 (I 0) fun v24 =>
 sCond v24 (sBuild [(I 0), .nils] [] fun v25 =>
 sStore 2 v4 v25 h22 n23 fun v26 h27 n28 =>
 sLoadN 2 v4 h27 fun v29 => K0 (.tup [v29, v21]) h27 n28) (sFaddr 1 v1 fun v30 =>
 sLoad v30 h22 fun v31 =>
 sLen v31 fun v32 =>
 IR.run F76.b2 C N (fnO F76.res K0) (IR.run F76.b9 C N (fnO F76.res K0) (retK F76.res K0)) (F76.fr a0 v1 v4 (I 0) v21 .nils .undef .undef v24 v31 v32 (I 0) .undef) h22 n23))))))))) := by
 rw [callFn_of F76.tab]; kernel_rfl
theorem F76.L2 (Inv : Nat → AV → AV → T Blk → Pa → Prop) {m : Nat} (hm : m < N) (hi : Inv m x5 x11 h nx)
  (step : ∀ (m : Nat) (z5 z6 z7 z11 z12 : AV) (h : T Blk) (nx : Pa) (R : Ks Prop), Inv m z5 z11 h nx → (∀ (m' : Nat) (w5 w6 w7 w11 w12 : AV) (h' : T Blk) (nx' : Pa), m' < m → Inv m' w5 w11 h' nx' → R (F76.fr x0 x1 x2 x3 x4 w5 w6 w7 x8 x9 x10 w11 w12) h' nx' = .ok True) →
   (sBin .lss .int z11 x10 fun v1 =>
 sCond v1 (sIaddr 2 x9 z11 fun v2 =>
 sLoadN 2 v2 h fun v3 =>
 sAlloc [(I 0), (I 0)] h nx fun v4 h5 n6 =>
 sStore 2 v4 v3 h5 n6 fun v7 h8 n9 =>
 sAaddr 1 2 v4 (I 0) fun v10 =>
 sLoad v10 h8 fun v11 =>
 sAaddr 1 2 v4 (I 1) fun v12 =>
 sLoad v12 h8 fun v13 =>
 sFaddr 0 x1 fun v14 =>
 sLoad v14 h8 fun v15 =>
 sBin .add .int v15 z11 fun v16 =>
 sBslice 1 3 [(I 0)] [(0, 1, v11), (1, 1, v13), (2, 1, v16)] h8 n9 fun v17 h18 n19 =>
 sBslice 1 1 [.nils] [(0, 1, v17)] h18 n19 fun v20 h21 n22 =>
 sApp 1 24 z5 v20 h21 n22 fun v23 h24 n25 =>
 sBin .add .int z11 (I 1) fun v26 =>
 R (F76.fr x0 x1 x2 x3 x4 v23 z11 v4 x8 x9 x10 v26 v1) h24 n25) (K (F76.fr x0 x1 x2 x3 x4 z5 z6 z7 x8 x9 x10 z11 v1) h nx)) = .ok True) :
  IR.run F76.b2 C N (fnO F76.res K0) K (F76.fr x0 x1 x2 x3 x4 x5 x6 x7 x8 x9 x10 x11 x12) h nx = .ok True := by
 rw [F76.b2, F76.g2_eq, F76.b3]
 refine loop_ok (fun m tm h nx => ∃ z5 z6 z7 z11 z12, tm = (F76.fr x0 x1 x2 x3 x4 z5 z6 z7 x8 x9 x10 z11 z12) ∧ Inv m z5 z11 h nx) ?_ hm ⟨_, _, _, _, _, rfl, hi⟩
 rintro m tm h nx R ⟨z5, z6, z7, z11, z12, rfl, hi⟩ hR
 refine Eq.trans ?_ (step m z5 z6 z7 z11 z12 h nx R hi fun m' w5 w6 w7 w11 w12 h' nx' hlt hi' => hR m' _ h' nx' hlt ⟨_, _, _, _, _, rfl, hi'⟩)
 kernel_rfl
theorem F76.k9 : IR.run F76.b9 C N (fnO F76.res K0) K (F76.fr x0 x1 x2 x3 x4 x5 x6 x7 x8 x9 x10 x11 x12) h nx =
 sFaddr 0 x1 fun v1 =>
 sLoad v1 h fun v2 =>
 sFaddr 1 x1 fun v3 =>
 sLoad v3 h fun v4 =>
 sLen v4 fun v5 =>
 sBin .add .int v2 v5 fun v6 =>
 C.fn 153 (.of 153) [v6, x5] h nx fun v7 h8 n9 =>
 sStore 2 x2 v7 h8 n9 fun v10 h11 n12 =>
 sLoadN 2 x2 h11 fun v13 => K0 (.tup [v13, (I 0)]) h11 n12 := by kernel_rfl
theorem F77.g8_eq (X9 : IR) (O : Outs Prop) (t : T AV) : IR.run (F77.g8 X9) C N O K t h nx = IR.run X9 C N (O.blk 2 K) K t h nx := by kernel_rfl
theorem F77.g2_eq (X3 : IR) (O : Outs Prop) (t : T AV) : IR.run (F77.g2 X3) C N O K t h nx = IR.run X3 C N (O.blk 0 K) K t h nx := by kernel_rfl
theorem F77.tab : T.get none (.of 77) tbl = some F77 := by kernel_rfl
theorem F77.go : callFn tbl N C (.of 77) [a0] h nx K0 =
 sBox a0 h nx fun v1 h2 n3 =>
 sAlloc [(I 0), .nils] h2 n3 fun v4 h5 n6 =>
 sLoadN 2 v1 h5 fun v7 =>
 C.fn 20 (.of 20) [v7] h5 n6 fun v8 h9 n10 =>
 sBin .neq .int v8 (I 0) fun v11 =>
 sCond v11 (sBuild [(I 0), .nils] [] fun v12 =>
 sStore 2 v4 v12 h9 n10 fun v13 h14 n15 =>
 sLoadN 2 v4 h14 fun v16 => K0 (.tup [v16, v8]) h14 n15) (sFaddr 0 v1 fun v17 =>
 sLoad v17 h9 fun v18 =>
 IR.run F77.b2 C N (fnO F77.res K0) (IR.run F77.b17 C N (fnO F77.res K0) (retK F77.res K0)) (F77.fr a0 v1 v4 (I 0) v8 .nils .undef .undef .undef .undef v11 v18 (I 0) .undef .undef .undef .undef .undef .undef) h9 n10) := by
 rw [callFn_of F77.tab]; kernel_rfl
theorem F77.L2 (Inv : Nat → AV → AV → T Blk → Pa → Prop) {m : Nat} (hm : m < N) (hi : Inv m x5 x12 h nx)
  (step : ∀ (m : Nat) (z5 z6 z7 z8 z9 z12 z13 z14 z15 z16 z17 z18 : AV) (h : T Blk) (nx : Pa) (R : Ks Prop), Inv m z5 z12 h nx → (∀ (m' : Nat) (w5 w6 w7 w8 w9 w12 w13 w14 w15 w16 w17 w18 : AV) (h' : T Blk) (nx' : Pa), m' < m → Inv m' w5 w12 h' nx' → R (F77.fr x0 x1 x2 x3 x4 w5 w6 w7 w8 w9 x10 x11 w12 w13 w14 w15 w16 w17 w18) h' nx' = .ok True) →
   (sBin .lss .int z12 x11 fun v1 =>
 sCond v1 (sBslice 1 1 [(I 0)] [(0, 1, z12)] h nx fun v2 h3 n4 =>
 sFaddr 1 x1 fun v5 =>
 sLoad v5 h3 fun v6 =>
 sLen v6 fun v7 =>
 IR.run F77.b8 C N (((fnO F77.res K0).blk 0 K).blk 1 (IR.run F77.b16 C N ((fnO F77.res K0).blk 0 K) R)) (IR.run F77.b15 C N (((fnO F77.res K0).blk 0 K).blk 1 (IR.run F77.b16 C N ((fnO F77.res K0).blk 0 K) R)) (IR.run F77.b16 C N ((fnO F77.res K0).blk 0 K) R)) (F77.fr x0 x1 x2 x3 x4 z5 z12 v2 z8 z9 x10 x11 z12 v1 v6 v7 (I 0) z17 z18) h3 n4) (K (F77.fr x0 x1 x2 x3 x4 z5 z6 z7 z8 z9 x10 x11 z12 v1 z14 z15 z16 z17 z18) h nx)) = .ok True) :
  IR.run F77.b2 C N (fnO F77.res K0) K (F77.fr x0 x1 x2 x3 x4 x5 x6 x7 x8 x9 x10 x11 x12 x13 x14 x15 x16 x17 x18) h nx = .ok True := by
 rw [F77.b2, F77.g2_eq, F77.b3]
 refine loop_ok (fun m tm h nx => ∃ z5 z6 z7 z8 z9 z12 z13 z14 z15 z16 z17 z18, tm = (F77.fr x0 x1 x2 x3 x4 z5 z6 z7 z8 z9 x10 x11 z12 z13 z14 z15 z16 z17 z18) ∧ Inv m z5 z12 h nx) ?_ hm ⟨_, _, _, _, _, _, _, _, _, _, _, _, rfl, hi⟩
 rintro m tm h nx R ⟨z5, z6, z7, z8, z9, z12, z13, z14, z15, z16, z17, z18, rfl, hi⟩ hR
 refine Eq.trans ?_ (step m z5 z6 z7 z8 z9 z12 z13 z14 z15 z16 z17 z18 h nx R hi fun m' w5 w6 w7 w8 w9 w12 w13 w14 w15 w16 w17 w18 h' nx' hlt hi' => hR m' _ h' nx' hlt ⟨_, _, _, _, _, _, _, _, _, _, _, _, rfl, hi'⟩)
 kernel_rfl
theorem F77.k17 : IR.run F77.b17 C N (fnO F77.res K0) K (F77.fr x0 x1 x2 x3 x4 x5 x6 x7 x8 x9 x10 x11 x12 x13 x14 x15 x16 x17 x18) h nx =
 sFaddr 0 x1 fun v1 =>
 sLoad v1 h fun v2 =>
 sFaddr 1 x1 fun v3 =>
 sLoad v3 h fun v4 =>
 sLen v4 fun v5 =>
 sBin .add .int v2 v5 fun v6 =>
 C.fn 153 (.of 153) [v6, x5] h nx fun v7 h8 n9 =>
 sStore 2 x2 v7 h8 n9 fun v10 h11 n12 =>
 sLoadN 2 x2 h11 fun v13 => K0 (.tup [v13, (I 0)]) h11 n12 := by kernel_rfl
theorem F77.k16 {E0 : Ks Prop} : IR.run F77.b16 C N ((fnO F77.res K0).blk 0 E0) K (F77.fr x0 x1 x2 x3 x4 x5 x6 x7 x8 x9 x10 x11 x12 x13 x14 x15 x16 x17 x18) h nx =
 sBin .add .int x12 (I 1) fun v1 =>
 K (F77.fr x0 x1 x2 x3 x4 x5 x6 x7 x8 x9 x10 x11 v1 x13 x14 x15 x16 x17 x18) h nx := by kernel_rfl
theorem F77.L8 {E0 E1 : Ks Prop} (Inv : Nat → AV → AV → T Blk → Pa → Prop) {m : Nat} (hm : m < N) (hi : Inv m x7 x16 h nx)
  (step : ∀ (m : Nat) (z7 z8 z9 z16 z17 z18 : AV) (h : T Blk) (nx : Pa) (R : Ks Prop), Inv m z7 z16 h nx → (∀ (m' : Nat) (w7 w8 w9 w16 w17 w18 : AV) (h' : T Blk) (nx' : Pa), m' < m → Inv m' w7 w16 h' nx' → R (F77.fr x0 x1 x2 x3 x4 x5 x6 w7 w8 w9 x10 x11 x12 x13 x14 x15 w16 w17 w18) h' nx' = .ok True) →
   (sBin .lss .int z16 x15 fun v1 =>
 sCond v1 (sIaddr 2 x14 z16 fun v2 =>
 sLoadN 2 v2 h fun v3 =>
 sAlloc [(I 0), (I 0)] h nx fun v4 h5 n6 =>
 sStore 2 v4 v3 h5 n6 fun v7 h8 n9 =>
 sAaddr 1 2 v4 (I 0) fun v10 =>
 sLoad v10 h8 fun v11 =>
 sBin .eql .int v11 x6 fun v12 =>
 sG v12 false (fun k => sAaddr 1 2 v4 (I 1) k) fun v13 =>
 sG v12 false (fun k => sLoad v13 h8 k) fun v14 =>
 sG v12 false (fun k => k x6) fun v15 =>
 sG v12 false (fun k => sBin .eql .int v14 v15 k) fun v16 =>
 sPick v12 (.bool true) v16 fun v17 =>
 sCond v17 (sFaddr 0 x1 fun v18 =>
 sLoad v18 h8 fun v19 =>
 sBin .add .int v19 z16 fun v20 =>
 sBslice 1 1 [(I 0)] [(0, 1, v20)] h8 n9 fun v21 h22 n23 =>
 sApp 1 8 z7 v21 h22 n23 fun v24 h25 n26 =>
 sBin .add .int z16 (I 1) fun v27 =>
 R (F77.fr x0 x1 x2 x3 x4 x5 x6 v24 z16 v4 x10 x11 x12 x13 x14 x15 v27 v1 v17) h25 n26) (sBin .add .int z16 (I 1) fun v28 =>
 R (F77.fr x0 x1 x2 x3 x4 x5 x6 z7 z16 v4 x10 x11 x12 x13 x14 x15 v28 v1 v17) h8 n9)) (K (F77.fr x0 x1 x2 x3 x4 x5 x6 z7 z8 z9 x10 x11 x12 x13 x14 x15 z16 v1 z18) h nx)) = .ok True) :
  IR.run F77.b8 C N (((fnO F77.res K0).blk 0 E0).blk 1 E1) K (F77.fr x0 x1 x2 x3 x4 x5 x6 x7 x8 x9 x10 x11 x12 x13 x14 x15 x16 x17 x18) h nx = .ok True := by
 rw [F77.b8, F77.g8_eq, F77.b9]
 refine loop_ok (fun m tm h nx => ∃ z7 z8 z9 z16 z17 z18, tm = (F77.fr x0 x1 x2 x3 x4 x5 x6 z7 z8 z9 x10 x11 x12 x13 x14 x15 z16 z17 z18) ∧ Inv m z7 z16 h nx) ?_ hm ⟨_, _, _, _, _, _, rfl, hi⟩
 rintro m tm h nx R ⟨z7, z8, z9, z16, z17, z18, rfl, hi⟩ hR
 refine Eq.trans ?_ (step m z7 z8 z9 z16 z17 z18 h nx R hi fun m' w7 w8 w9 w16 w17 w18 h' nx' hlt hi' => hR m' _ h' nx' hlt ⟨_, _, _, _, _, _, rfl, hi'⟩)
 kernel_rfl
theorem F77.k15 {E0 E1 : Ks Prop} : IR.run F77.b15 C N (((fnO F77.res K0).blk 0 E0).blk 1 E1) K (F77.fr x0 x1 x2 x3 x4 x5 x6 x7 x8 x9 x10 x11 x12 x13 x14 x15 x16 x17 x18) h nx =
 sBslice 1 1 [.nils] [(0, 1, x7)] h nx fun v1 h2 n3 =>
 sApp 1 24 x5 v1 h2 n3 fun v4 h5 n6 =>
 K (F77.fr x0 x1 x2 x3 x4 v4 x6 x7 x8 x9 x10 x11 x12 x13 x14 x15 x16 x17 x18) h5 n6 := by kernel_rfl
theorem F164.g7_eq (X8 : IR) (O : Outs Prop) (t : T AV) : IR.run (F164.g7 X8) C N O K t h nx = IR.run X8 C N (O.blk 2 K) K t h nx := by kernel_rfl
theorem F164.g1_eq (X2 : IR) (O : Outs Prop) (t : T AV) : IR.run (F164.g1 X2) C N O K t h nx = IR.run X2 C N (O.blk 0 K) K t h nx := by kernel_rfl
theorem F164.tab : T.get none (.of 164) tbl = some F164 := by kernel_rfl
theorem F164.go : callFn tbl N C (.of 164) [a0, a1] h nx K0 =
 sBslice 1 0 [(I 0)] [] h nx fun v1 h2 n3 =>
 sApp 1 8 v1 a1 h2 n3 fun v4 h5 n6 =>
 IR.run F164.b1 C N (fnO F164.res K0) (IR.run F164.b15 C N (fnO F164.res K0) (retK F164.res K0)) (F164.fr a0 a1 .nils v4 (I 1) .undef .undef .undef .undef) h5 n6 := by
 rw [callFn_of F164.tab]; kernel_rfl
theorem F164.L1 (Inv : Nat → AV → T Blk → Pa → Prop) {m : Nat} (hm : m < N) (hi : Inv m x4 h nx)
  (step : ∀ (m : Nat) (z4 z5 z6 z7 : AV) (h : T Blk) (nx : Pa) (R : Ks Prop), Inv m z4 h nx → (∀ (m' : Nat) (w4 w5 w6 w7 : AV) (h' : T Blk) (nx' : Pa), m' < m → Inv m' w4 h' nx' → R (F164.fr x0 x1 x2 x3 w4 w5 w6 w7 x8) h' nx' = .ok True) →
   (sLen x3 fun v1 =>
 sBin .lss .int z4 v1 fun v2 =>
 sCond v2 (IR.run F164.b7 C N (((fnO F164.res K0).blk 0 K).blk 1 (IR.run F164.b14 C N ((fnO F164.res K0).blk 0 K) R)) (IR.run F164.b14 C N ((fnO F164.res K0).blk 0 K) R) (F164.fr x0 x1 x2 x3 z4 z4 v2 z7 x8) h nx) (K (F164.fr x0 x1 x2 x3 z4 z5 v2 z7 x8) h nx)) = .ok True) :
  IR.run F164.b1 C N (fnO F164.res K0) K (F164.fr x0 x1 x2 x3 x4 x5 x6 x7 x8) h nx = .ok True := by
 rw [F164.b1, F164.g1_eq, F164.b2]
 refine loop_ok (fun m tm h nx => ∃ z4 z5 z6 z7, tm = (F164.fr x0 x1 x2 x3 z4 z5 z6 z7 x8) ∧ Inv m z4 h nx) ?_ hm ⟨_, _, _, _, rfl, hi⟩
 rintro m tm h nx R ⟨z4, z5, z6, z7, rfl, hi⟩ hR
 refine Eq.trans ?_ (step m z4 z5 z6 z7 h nx R hi fun m' w4 w5 w6 w7 h' nx' hlt hi' => hR m' _ h' nx' hlt ⟨_, _, _, _, rfl, hi'⟩)
 kernel_rfl
theorem F164.k15 : IR.run F164.b15 C N (fnO F164.res K0) K (F164.fr x0 x1 x2 x3 x4 x5 x6 x7 x8) h nx =
 C.fn 90 (.of 90) [x0, x3] h nx fun v1 h2 n3 =>
 sCond v1 (K0 x0 h2 n3) (sBslice 1 1 [.nils] [(0, 1, x3)] h2 n3 fun v4 h5 n6 =>
 sApp 1 24 x0 v4 h5 n6 fun v7 h8 n9 =>
 K0 v7 h8 n9) := by kernel_rfl
theorem F164.k14 {E0 : Ks Prop} : IR.run F164.b14 C N ((fnO F164.res K0).blk 0 E0) K (F164.fr x0 x1 x2 x3 x4 x5 x6 x7 x8) h nx =
 sBin .add .int x4 (I 1) fun v1 =>
 K (F164.fr x0 x1 x2 x3 v1 x5 x6 x7 x8) h nx := by kernel_rfl
theorem F164.L7 {E0 E1 : Ks Prop} (Inv : Nat → AV → T Blk → Pa → Prop) {m : Nat} (hm : m < N) (hi : Inv m x5 h nx)
  (step : ∀ (m : Nat) (z5 z7 : AV) (h : T Blk) (nx : Pa) (R : Ks Prop), Inv m z5 h nx → (∀ (m' : Nat) (w5 w7 : AV) (h' : T Blk) (nx' : Pa), m' < m → Inv m' w5 h' nx' → R (F164.fr x0 x1 x2 x3 x4 w5 x6 w7 x8) h' nx' = .ok True) →
   (sBin .gtr .int z5 (I 0) fun v1 =>
 sG v1 true (fun k => k x3) fun v2 =>
 sG v1 true (fun k => k z5) fun v3 =>
 sG v1 true (fun k => sIaddr 1 v2 v3 k) fun v4 =>
 sG v1 true (fun k => sLoad v4 h k) fun v5 =>
 sG v1 true (fun k => k x3) fun v6 =>
 sG v1 true (fun k => k z5) fun v7 =>
 sG v1 true (fun k => sBin .sub .int v7 (I 1) k) fun v8 =>
 sG v1 true (fun k => sIaddr 1 v6 v8 k) fun v9 =>
 sG v1 true (fun k => sLoad v9 h k) fun v10 =>
 sG v1 true (fun k => sBin .lss .int v5 v10 k) fun v11 =>
 sPick v1 v11 (.bool false) fun v12 =>
 sCond v12 ((IR.run F164.b10 C N ((((fnO F164.res K0).blk 0 E0).blk 1 E1).blk 2 K) R) (F164.fr x0 x1 x2 x3 x4 z5 x6 v12 x8) h nx) (K (F164.fr x0 x1 x2 x3 x4 z5 x6 v12 x8) h nx)) = .ok True) :
  IR.run F164.b7 C N (((fnO F164.res K0).blk 0 E0).blk 1 E1) K (F164.fr x0 x1 x2 x3 x4 x5 x6 x7 x8) h nx = .ok True := by
 rw [F164.b7, F164.g7_eq, F164.b8]
 refine loop_ok (fun m tm h nx => ∃ z5 z7, tm = (F164.fr x0 x1 x2 x3 x4 z5 x6 z7 x8) ∧ Inv m z5 h nx) ?_ hm ⟨_, _, rfl, hi⟩
 rintro m tm h nx R ⟨z5, z7, rfl, hi⟩ hR
 refine Eq.trans ?_ (step m z5 z7 h nx R hi fun m' w5 w7 h' nx' hlt hi' => hR m' _ h' nx' hlt ⟨_, _, rfl, hi'⟩)
 kernel_rfl
theorem F153.g1_eq (X2 : IR) (O : Outs Prop) (t : T AV) : IR.run (F153.g1 X2) C N O K t h nx = IR.run X2 C N (O.blk 0 K) K t h nx := by kernel_rfl
theorem F153.tab : T.get none (.of 153) tbl = some F153 := by kernel_rfl
theorem F153.go : callFn tbl N C (.of 153) [a0, a1] h nx K0 =
 sAlloc [(I 0), .nils] h nx fun v1 h2 n3 =>
 sMkmap h2 n3 fun v4 h5 n6 =>
 sBuild [(I 0), .nils] [(0, 1, a0)] fun v7 =>
 sAlloc [(I 0), .nils] h5 n6 fun v8 h9 n10 =>
 sStore 2 v8 v7 h9 n10 fun v11 h12 n13 =>
 sLen a1 fun v14 =>
 IR.run F153.b1 C N (fnO F153.res K0) (IR.run F153.b8 C N (fnO F153.res K0) (retK F153.res K0)) (F153.fr a0 a1 v1 v4 v8 .undef .undef a1 v14 (I 0) .undef .undef) h12 n13 := by
 rw [callFn_of F153.tab]; kernel_rfl
theorem F153.L1 (Inv : Nat → AV → T Blk → Pa → Prop) {m : Nat} (hm : m < N) (hi : Inv m x9 h nx)
  (step : ∀ (m : Nat) (z5 z6 z9 z10 z11 : AV) (h : T Blk) (nx : Pa) (R : Ks Prop), Inv m z9 h nx → (∀ (m' : Nat) (w5 w6 w9 w10 w11 : AV) (h' : T Blk) (nx' : Pa), m' < m → Inv m' w9 h' nx' → R (F153.fr x0 x1 x2 x3 x4 w5 w6 x7 x8 w9 w10 w11) h' nx' = .ok True) →
   (sBin .lss .int z9 x8 fun v1 =>
 sCond v1 (sIaddr 1 x7 z9 fun v2 =>
 sLoad v2 h fun v3 =>
 C.fn 171 (.of 171) [v3] h nx fun v4 h5 n6 =>
 C.fn 170 (.of 170) [v4] h5 n6 fun v7 h8 n9 =>
 C.fn 237 (.of 237) [v7] h8 n9 fun v10 h11 n12 =>
 sLook .str (.bool false) false x3 v10 h11 fun v13 =>
 sNot v13 fun v14 =>
 sCond v14 (sMapup .str x3 v10 (.bool true) h11 n12 fun v15 h16 n17 =>
 sFaddr 1 x4 fun v18 =>
 sLoad v18 h16 fun v19 =>
 sBslice 1 1 [.nils] [(0, 1, v7)] h16 n17 fun v20 h21 n22 =>
 sApp 1 24 v19 v20 h21 n22 fun v23 h24 n25 =>
 sFaddr 1 x4 fun v26 =>
 sStore 1 v26 v23 h24 n25 fun v27 h28 n29 =>
 sBin .add .int z9 (I 1) fun v30 =>
 R (F153.fr x0 x1 x2 x3 x4 v7 v10 x7 x8 v30 v1 v14) h28 n29) (sBin .add .int z9 (I 1) fun v31 =>
 R (F153.fr x0 x1 x2 x3 x4 v7 v10 x7 x8 v31 v1 v14) h11 n12)) (K (F153.fr x0 x1 x2 x3 x4 z5 z6 x7 x8 z9 v1 z11) h nx)) = .ok True) :
  IR.run F153.b1 C N (fnO F153.res K0) K (F153.fr x0 x1 x2 x3 x4 x5 x6 x7 x8 x9 x10 x11) h nx = .ok True := by
 rw [F153.b1, F153.g1_eq, F153.b2]
 refine loop_ok (fun m tm h nx => ∃ z5 z6 z9 z10 z11, tm = (F153.fr x0 x1 x2 x3 x4 z5 z6 x7 x8 z9 z10 z11) ∧ Inv m z9 h nx) ?_ hm ⟨_, _, _, _, _, rfl, hi⟩
 rintro m tm h nx R ⟨z5, z6, z9, z10, z11, rfl, hi⟩ hR
 refine Eq.trans ?_ (step m z5 z6 z9 z10 z11 h nx R hi fun m' w5 w6 w9 w10 w11 h' nx' hlt hi' => hR m' _ h' nx' hlt ⟨_, _, _, _, _, rfl, hi'⟩)
 kernel_rfl
theorem F153.k8 : IR.run F153.b8 C N (fnO F153.res K0) K (F153.fr x0 x1 x2 x3 x4 x5 x6 x7 x8 x9 x10 x11) h nx =
 sLoadN 2 x4 h fun v1 =>
 sStore 2 x2 v1 h nx fun v2 h3 n4 =>
 sLoadN 2 x2 h3 fun v5 => K0 v5 h3 n4 := by kernel_rfl
theorem F237.g1_eq (X2 : IR) (O : Outs Prop) (t : T AV) : IR.run (F237.g1 X2) C N O K t h nx = IR.run X2 C N (O.blk 0 K) K t h nx := by kernel_rfl
theorem F237.tab : T.get none (.of 237) tbl = some F237 := by kernel_rfl
theorem F237.go : callFn tbl N C (.of 237) [a0] h nx K0 =
 sLen a0 fun v1 =>
 IR.run F237.b1 C N (fnO F237.res K0) (IR.run F237.b8 C N (fnO F237.res K0) (retK F237.res K0)) (F237.fr a0 (.str []) .nils .undef a0 v1 (I 0) .undef) h nx := by
 rw [callFn_of F237.tab]; kernel_rfl
theorem F237.L1 (Inv : Nat → AV → AV → T Blk → Pa → Prop) {m : Nat} (hm : m < N) (hi : Inv m x2 x6 h nx)
  (step : ∀ (m : Nat) (z2 z3 z6 z7 : AV) (h : T Blk) (nx : Pa) (R : Ks Prop), Inv m z2 z6 h nx → (∀ (m' : Nat) (w2 w3 w6 w7 : AV) (h' : T Blk) (nx' : Pa), m' < m → Inv m' w2 w6 h' nx' → R (F237.fr x0 x1 w2 w3 x4 x5 w6 w7) h' nx' = .ok True) →
   (sBin .lss .int z6 x5 fun v1 =>
 sCond v1 (sIaddr 1 x4 z6 fun v2 =>
 sLoad v2 h fun v3 =>
 C.fn 248 (.of 248) [v3] h nx fun v4 h5 n6 =>
 sBslice 1 1 [(.str [])] [(0, 1, v4)] h5 n6 fun v7 h8 n9 =>
 sApp 1 16 z2 v7 h8 n9 fun v10 h11 n12 =>
 sBin .add .int z6 (I 1) fun v13 =>
 R (F237.fr x0 x1 v10 v3 x4 x5 v13 v1) h11 n12) (K (F237.fr x0 x1 z2 z3 x4 x5 z6 v1) h nx)) = .ok True) :
  IR.run F237.b1 C N (fnO F237.res K0) K (F237.fr x0 x1 x2 x3 x4 x5 x6 x7) h nx = .ok True := by
 rw [F237.b1, F237.g1_eq, F237.b2]
 refine loop_ok (fun m tm h nx => ∃ z2 z3 z6 z7, tm = (F237.fr x0 x1 z2 z3 x4 x5 z6 z7) ∧ Inv m z2 z6 h nx) ?_ hm ⟨_, _, _, _, rfl, hi⟩
 rintro m tm h nx R ⟨z2, z3, z6, z7, rfl, hi⟩ hR
 refine Eq.trans ?_ (step m z2 z3 z6 z7 h nx R hi fun m' w2 w3 w6 w7 h' nx' hlt hi' => hR m' _ h' nx' hlt ⟨_, _, _, _, rfl, hi'⟩)
 kernel_rfl
theorem F237.k8 : IR.run F237.b8 C N (fnO F237.res K0) K (F237.fr x0 x1 x2 x3 x4 x5 x6 x7) h nx =
 C.fn 281 (.of 281) [x2, (.str [32])] h nx fun v1 h2 n3 =>
 K0 v1 h2 n3 := by kernel_rfl
theorem F248.tab : T.get none (.of 248) tbl = some F248 := by kernel_rfl
theorem F248.go : callFn tbl N C (.of 248) [a0] h nx K0 =
 C.fn 287 (.of 287) [a0] h nx fun v1 h2 n3 =>
 K0 v1 h2 n3 := by
 rw [callFn_of F248.tab]; kernel_rfl
theorem F287.tab : T.get none (.of 287) tbl = some F287 := by kernel_rfl
theorem F287.go : callFn tbl N C (.of 287) [a0] h nx K0 =
 C.fn 314 (.of 314) [a0, (I 10)] h nx fun v1 h2 n3 =>
 K0 v1 h2 n3 := by
 rw [callFn_of F287.tab]; kernel_rfl
theorem F314.tab : T.get none (.of 314) tbl = some F314 := by kernel_rfl
theorem F314.go : callFn tbl N C (.of 314) [a0, a1] h nx K0 =
 sBin .eql .int a1 (I 10) fun v1 =>
 sCond v1 (sBin .leq .int (I 0) a0 fun v2 =>
 sG v2 true (fun k => k a0) fun v3 =>
 sG v2 true (fun k => sBin .lss .int v3 (I 100) k) fun v4 =>
 sPick v2 v4 (.bool false) fun v5 =>
 sCond v5 (C.fn 315 (.of 315) [a0] h nx fun v6 h7 n8 =>
 K0 v6 h7 n8) (sAlloc [(.int .u8 0), (.int .u8 0), (.int .u8 0), (.int .u8 0), (.int .u8 0), (.int .u8 0), (.int .u8 0), (.int .u8 0), (.int .u8 0), (.int .u8 0), (.int .u8 0), (.int .u8 0), (.int .u8 0), (.int .u8 0), (.int .u8 0), (.int .u8 0), (.int .u8 0), (.int .u8 0), (.int .u8 0), (.int .u8 0), (.int .u8 0), (.int .u8 0), (.int .u8 0), (.int .u8 0)] h nx fun v9 h10 n11 =>
 sConv .u64 a0 fun v12 =>
 sBin .lss .int a0 (I 0) fun v13 =>
 sCond v13 (sNeg v12 fun v14 =>
 (IR.run F314.b2 C N (fnO F314.res K0) (IR.run F314.b4 C N (fnO F314.res K0) (retK F314.res K0))) (F314.fr a0 a1 (.str []) v9 v14 .undef .undef v1 v5 v13 .undef) h10 n11) ((IR.run F314.b2 C N (fnO F314.res K0) (IR.run F314.b4 C N (fnO F314.res K0) (retK F314.res K0))) (F314.fr a0 a1 (.str []) v9 v12 .undef .undef v1 v5 v13 .undef) h10 n11))) (sConv .u64 a0 fun v15 =>
 sBin .lss .int a0 (I 0) fun v16 =>
 C.fn 318 (.of 318) [.nils, v15, a1, v16, (.bool false)] h nx fun v17 h18 n19 =>
 sExt 0 v17 fun v20 =>
 sExt 1 v17 fun v21 =>
 K0 v21 h18 n19) := by
 rw [callFn_of F314.tab]; kernel_rfl
theorem F315.tab : T.get none (.of 315) tbl = some F315 := by kernel_rfl
theorem F315.go : callFn tbl N C (.of 315) [a0] h nx K0 =
 sBin .lss .int a0 (I 10) fun v1 =>
 sCond v1 (sBin .add .int a0 (I 1) fun v2 =>
 sSslice (.str [48, 49, 50, 51, 52, 53, 54, 55, 56, 57, 97, 98, 99, 100, 101, 102, 103, 104, 105, 106, 107, 108, 109, 110, 111, 112, 113, 114, 115, 116, 117, 118, 119, 120, 121, 122]) (some a0) (some v2) fun v3 =>
 K0 v3 h nx) (sBin .mul .int a0 (I 2) fun v4 =>
 sBin .mul .int a0 (I 2) fun v5 =>
 sBin .add .int v5 (I 2) fun v6 =>
 sSslice (.str [48, 48, 48, 49, 48, 50, 48, 51, 48, 52, 48, 53, 48, 54, 48, 55, 48, 56, 48, 57, 49, 48, 49, 49, 49, 50, 49, 51, 49, 52, 49, 53, 49, 54, 49, 55, 49, 56, 49, 57, 50, 48, 50, 49, 50, 50, 50, 51, 50, 52, 50, 53, 50, 54, 50, 55, 50, 56, 50, 57, 51, 48, 51, 49, 51, 50, 51, 51, 51, 52, 51, 53, 51, 54, 51, 55, 51, 56, 51, 57, 52, 48, 52, 49, 52, 50, 52, 51, 52, 52, 52, 53, 52, 54, 52, 55, 52, 56, 52, 57, 53, 48, 53, 49, 53, 50, 53, 51, 53, 52, 53, 53, 53, 54, 53, 55, 53, 56, 53, 57, 54, 48, 54, 49, 54, 50, 54, 51, 54, 52, 54, 53, 54, 54, 54, 55, 54, 56, 54, 57, 55, 48, 55, 49, 55, 50, 55, 51, 55, 52, 55, 53, 55, 54, 55, 55, 55, 56, 55, 57, 56, 48, 56, 49, 56, 50, 56, 51, 56, 52, 56, 53, 56, 54, 56, 55, 56, 56, 56, 57, 57, 48, 57, 49, 57, 50, 57, 51, 57, 52, 57, 53, 57, 54, 57, 55, 57, 56, 57, 57]) (some v4) (some v6) fun v7 =>
 K0 v7 h nx) := by
 rw [callFn_of F315.tab]; kernel_rfl
end Go.Ev
namespace Go.Ev
open Go Go.Proofs
variable {B : Nat}
def dig (n : Nat) : List UInt8 := if n < 10 then [UInt8.ofNat (48 + n)] else [UInt8.ofNat (48 + n / 10), UInt8.ofNat (48 + n % 10)]
def und (l : List UInt8) : Nat := match l with
 | [a] => a.toNat - 48
 | [a, b] => 10 * (a.toNat - 48) + (b.toNat - 48)
 | _ => 0
theorem und_dig : ∀ n < 100, und (dig n) = n := by decide +kernel
theorem dig_free : ∀ n < 100, (32 : UInt8) ∉ dig n := by decide +kernel
theorem dig_len (n : Nat) : 1 ≤ (dig n).length ∧ (dig n).length ≤ 2 := by unfold dig; split <;> simp
def digs1 : List UInt8 := [48, 49, 50, 51, 52, 53, 54, 55, 56, 57, 97, 98, 99, 100, 101, 102, 103, 104, 105, 106, 107, 108, 109, 110, 111, 112, 113, 114, 115, 116, 117, 118, 119, 120, 121, 122]
theorem digs1_at : ∀ n < 10, (digs1.drop n).take 1 = dig n := by decide +kernel
theorem sSs {s : List UInt8} {a b : Nat} {K : AV → OP} (hab : a ≤ b) (hb : b ≤ s.length) : sSslice (.str s) (some (I (a : Int))) (some (I (b : Int))) K = K (.str ((s.drop a).take (b - a))) := by
 show (match bnd (some (I (b : Int))) s.length s.length with
   | none => Out.no 18
   | some h => match bnd (some (I (a : Int))) h 0 with
    | none => .no 18
    | some l => K (.str ((s.drop l).take (h - l)))) = _
 rw [bnd_some hb]
 dsimp only
 rw [bnd_some hab]
def allOk (s : List UInt8) : Bool := Nat.beq s.length 200 && (List.range 100).all fun n => decide (n < 10) || ((s.drop (n * 2)).take 2 == dig n)
theorem sSs2 {s : List UInt8} (hs : allOk s = true) {n : Nat} (h : n < 100) (c : ¬ n < 10) {K : AV → OP} : sSslice (.str s) (some (I ((n * 2 : Nat) : Int))) (some (I ((n * 2 + 2 : Nat) : Int))) K = K (.str (dig n)) := by
 simp only [allOk, Bool.and_eq_true, List.all_eq_true, List.mem_range, Bool.or_eq_true, decide_eq_true_eq, beq_iff_eq] at hs
 obtain ⟨h1, h2⟩ := hs
 have h1 := of_beq h1
 rw [sSs (by omega) (by omega), show n * 2 + 2 - n * 2 = 2 by omega, (h2 n h).resolve_left c]
theorem small219 {n : Nat} (h : n < 100) : Pure Tryz.prog B 315 [I (n : Int)] (· = .str (dig n)) := by
 intro p h' nx K hK
 refine by_body tbl_ok dreg 10 fun hf => ?_
 rw [F315.go]
 simp only [sLss]
 by_cases c : n < 10
 ·simp only [show (n : Int) < 10 by omega, decide_true, sCond_t]
  rw [sAdd (by omega), show (n : Int) + 1 = ((n + 1 : Nat) : Int) by omega, sSs (by omega) (by simp only [List.length_cons, List.length_nil]; omega)]
  refine hK _ ?_ hf
  rw [show n + 1 - n = 1 by omega]
  exact congrArg AV.str (digs1_at n c)
 ·simp only [show ¬ (n : Int) < 10 by omega, decide_false, sCond_f]
  rw [sMul (by omega), show (n : Int) * 2 = ((n * 2 : Nat) : Int) by omega, sMul (by omega), show (n : Int) * 2 = ((n * 2 : Nat) : Int) by omega, sAdd (by omega), show ((n * 2 : Nat) : Int) + 2 = ((n * 2 + 2 : Nat) : Int) by omega]
  refine Eq.trans (sSs2 ?_ h c) ?_
  ·decide +kernel
  ·exact hK _ rfl hf
theorem itoa188 {n : Nat} (h : n < 100) : Pure Tryz.prog B 248 [I (n : Int)] (· = .str (dig n)) := by
 intro p h' nx K hK
 refine by_body tbl_ok dreg 10 fun hf => ?_
 rw [F248.go]
 refine CS_fn_mono (p := .of 287) (K := fun v1 h2 n3 => K v1 h2 n3) (by_body tbl_ok dreg 10 fun hf => ?_) fun _ _ _ _ q => q
 rw [F287.go]
 refine CS_fn_mono (p := .of 314) (K := fun v1 h2 n3 => K v1 h2 n3) (by_body tbl_ok dreg 10 fun hf => ?_) fun _ _ _ _ q => q
 rw [F314.go]
 simp only [sEql, decide_true, sCond_t, sLeq, sLss, show (0 : Int) ≤ (n : Int) by omega, sG_tt, show (n : Int) < 100 by omega, sPick_t]
 refine small219 h _ _ _ _ ?_
 rintro _ rfl _
 exact hK _ rfl hf
def txt (l : List Int) : List UInt8 := Lib.join (l.map fun x => dig x.toNat) [32]
theorem txt_len (l : List Int) : (txt l).length ≤ 3 * l.length := by
 cases l with
 | nil => simp [txt, Lib.join_nil]
 | cons x l =>
  rw [txt, List.map_cons, Lib.join_length, ← List.map_cons (f := fun x : Int => dig x.toNat)]
  have : ∀ l : List Int, Lib.lens (l.map fun x => dig x.toNat) ≤ 2 * l.length := by
   intro l
   induction l with
   | nil => simp [Lib.lens]
   | cons y l ih =>
    have := (dig_len y.toNat).2
    simp only [Lib.lens, List.map_cons, List.sum_cons, List.length_cons] at ih ⊢
    omega
  have := this (x :: l)
  simp only [List.length_map, List.length_cons, List.length_nil] at this ⊢
  omega
theorem word_split {t t' : List UInt8} (ht : t = [] ∨ ∃ u, t = 32 :: u) (ht' : t' = [] ∨ ∃ u, t' = 32 :: u) : ∀ {x x' : List UInt8}, 32 ∉ x → 32 ∉ x' → x ++ t = x' ++ t' → x = x' ∧ t = t'
 | [], [], _, _, h => ⟨rfl, h⟩
 | [], b :: x', _, h2, h => by
  rcases ht with rfl | ⟨u, rfl⟩
  ·simp at h
  ·simp only [List.nil_append, List.cons_append, List.cons.injEq] at h
   exact absurd (List.mem_cons.2 (.inl h.1)) h2
 | a :: x, [], h1, _, h => by
  rcases ht' with rfl | ⟨u, rfl⟩
  ·simp at h
  ·simp only [List.nil_append, List.cons_append, List.cons.injEq] at h
   exact absurd (List.mem_cons.2 (.inl h.1.symm)) h1
 | a :: x, b :: x', h1, h2, h => by
  simp only [List.cons_append, List.cons.injEq] at h
  obtain ⟨rfl, h⟩ := h
  obtain ⟨e1, e2⟩ := word_split ht ht' (fun q => h1 (List.mem_cons_of_mem _ q)) (fun q => h2 (List.mem_cons_of_mem _ q)) h
  exact ⟨by rw [e1], e2⟩
theorem tail_form (r : List (List UInt8)) : Lib.joinTail [32] r = [] ∨ ∃ u, Lib.joinTail [32] r = 32 :: u := by
 cases r with
 | nil => exact .inl rfl
 | cons y r => exact .inr ⟨_, rfl⟩
theorem tail_inj : ∀ {r r' : List (List UInt8)}, (∀ x ∈ r, 32 ∉ x) → (∀ x ∈ r', 32 ∉ x) → Lib.joinTail [32] r = Lib.joinTail [32] r' → r = r'
 | [], [], _, _, _ => rfl
 | [], y :: r', _, _, h => by cases h
 | y :: r, [], _, _, h => by cases h
 | y :: r, z :: r', h1, h2, h => by
  have e : ∀ (y : List UInt8) r, Lib.joinTail [32] (y :: r) = 32 :: (y ++ Lib.joinTail [32] r) := fun y r => rfl
  rw [e, e, List.cons.injEq] at h
  obtain ⟨e1, e2⟩ := word_split (tail_form r) (tail_form r') (h1 y (by simp)) (h2 z (by simp)) h.2
  rw [e1, tail_inj (fun x hx => h1 x (by simp [hx])) (fun x hx => h2 x (by simp [hx])) e2]
def Sml (l : List Int) : Prop := ∀ x ∈ l, 0 ≤ x ∧ x < 100
theorem txt_inj {l l' : List Int} (h : Sml l) (h' : Sml l') (hn : l ≠ []) (hn' : l' ≠ []) (e : txt l = txt l') : l = l' := by
 have key : ∀ {l l' : List Int}, Sml l → Sml l' → l.map (fun x => dig x.toNat) = l'.map (fun x => dig x.toNat) → l = l' := by
  intro l
  induction l with
  | nil => intro l' _ _ e; cases l' with
   | nil => rfl
   | cons _ _ => cases e
  | cons a l ih =>
   intro l' h h' e
   cases l' with
   | nil => cases e
   | cons b l' =>
    simp only [List.map_cons, List.cons.injEq] at e
    have ha := h a (by simp)
    have hb := h' b (by simp)
    have := und_dig a.toNat (by omega)
    rw [e.1, und_dig b.toNat (by omega)] at this
    obtain rfl : a = b := by omega
    rw [ih (fun x hx => h x (by simp [hx])) (fun x hx => h' x (by simp [hx])) e.2]
 have fr : ∀ {l : List Int}, Sml l → ∀ w ∈ l.map (fun x => dig x.toNat), (32 : UInt8) ∉ w := fun h w hw => by
  obtain ⟨x, hx, rfl⟩ := List.mem_map.1 hw
  have := h x hx
  exact dig_free _ (by omega)
 refine key h h' ?_
 cases l with
 | nil => exact absurd rfl hn
 | cons a l =>
  cases l' with
  | nil => exact absurd rfl hn'
  | cons b l' =>
   have f1 := fr h
   have f2 := fr h'
   simp only [txt, List.map_cons, Lib.join_cons] at e
   rw [List.map_cons] at f1 f2 ⊢
   rw [List.map_cons]
   obtain ⟨e1, e2⟩ := word_split (tail_form _) (tail_form _) (f1 _ (by simp)) (f2 _ (by simp)) e
   rw [e1, tail_inj (fun x hx => f1 x (by simp [hx])) (fun x hx => f2 x (by simp [hx])) e2]
theorem strsA_map (xs : List (List UInt8)) : strsA (xs.map .str) = some xs := by
 induction xs with
 | nil => rfl
 | cons x xs ih => simp only [List.map_cons, strsA, ih]
theorem text171 {l : List Int} (hl : l.length ≤ 1000) (hs : Sml l) : Pure Tryz.prog B 237 [encI l] (· = .str (txt l)) := by
 refine pure_hp fun h nx K H0 hK => by_body tbl_ok dreg 10000 fun hf => ?_
 rw [F237.go]
 simp only [sLen_lst]
 refine F237.L1 (fun m x2 x6 h' nx' => ∃ (i : Nat) (o : Option Pa), x6 = I i ∧ x2 = rowV o 1 i ∧ l.length - i = m ∧ i ≤ l.length ∧ Hp h h' nx' [.gro o 1 i ((l.take i).map fun x => AV.str (dig x.toNat))]) (m := l.length) (by omega) ⟨0, none, rfl, rfl, rfl, by omega, H0.addGro 1⟩ ?_
 rintro m z2 z3 z6 z7 h1 nx1 R ⟨i, o, rfl, rfl, rfl, hi, H1⟩ hR
 simp only [sLss]
 by_cases hlt : i < l.length
 ·simp only [show (i : Int) < (l.length : Int) by omega, decide_true, sCond_t]
  have hx : l[i]? = some l[i] := List.getElem?_eq_getElem hlt
  have hb := hs _ (List.getElem_mem hlt)
  rw [sIxL rfl hlt, ldL (getI hx), show l[i] = ((l[i].toNat : Nat) : Int) by omega]
  refine itoa188 (by omega) _ _ _ _ ?_
  rintro _ rfl _
  refine H1.bslice (l := [.str (dig l[i].toNat)]) rfl fun tb h2 nx2 H2 => ?_
  refine H2.appN (k := 1) (o := o) (c := 1) (new := [.str (dig l[i].toNat)]) rfl (HasArr.rd (l := [.str (dig l[i].toNat)]) (n := 1) (H2.own _ (List.mem_cons_self ..)) rfl) rfl rfl (by decide) (by decide) (by omega) fun o' h3 nx3 _ H3 => ?_
  rw [sAdd (by omega)]
  refine hR _ _ _ _ _ _ _ (by omega) ⟨i + 1, o', rfl, rfl, rfl, by omega, ?_⟩
  rw [List.take_add_one, hx, List.map_append]
  exact H3.drop
 ·simp only [show ¬ (i : Int) < (l.length : Int) by omega, decide_false, sCond_f]
  obtain rfl : i = l.length := by omega
  rw [List.take_of_length_le (by omega)] at H1
  rw [F237.k8]
  have own := H1.own _ (List.mem_cons_self ..)
  have hj : hookJ 281 [rowV o 1 l.length, .str [32]] h1 = some (.str (txt l), h1) := by
   have key : joinJ (rowV o 1 l.length) [32] h1 = some (.str (txt l)) := by
    cases o with
    | none =>
     obtain ⟨_, q⟩ := own
     obtain rfl : l = [] := List.eq_nil_of_length_eq_zero q
     rfl
    | some id =>
     obtain ⟨t, g1, g2, g3⟩ := own
     rw [Nat.mul_one] at g1 g3
     show (match T.get .no id h1 with
      | .cells _ m t => bif Nat.beq 1 1 && Nat.ble (0 + l.length) m && Nat.ble l.length 100000 && capLn none l.length then joinK (rdList t 0 l.length) [32] else none
      | _ => none) = _
     rw [g1]
     dsimp only
     rw [Nat.ble_eq_true_of_le (by omega), Nat.ble_eq_true_of_le (by omega), g3]
     show joinK _ _ = _
     have e : (l.map fun x => AV.str (dig x.toNat)) = (l.map fun x => dig x.toNat).map .str := by rw [List.map_map]; rfl
     unfold joinK
     rw [e, strsA_map]
     show (bif Nat.ble (txt l).length 100000 then some (AV.str (txt l)) else none) = _
     rw [Nat.ble_eq_true_of_le (by have := txt_len l; omega)]; rfl
   show (match joinJ (rowV o 1 l.length) [32] h1 with
    | some v => some (v, h1)
    | none => none) = _
   rw [key]
  exact CS_hook hookJ_ok hj (hK _ _ _ _ _ H1 (frz_fixd rfl) rfl)
end Go.Ev
namespace Go.Ev
open Go Go.Proofs
variable {B : Nat}
noncomputable def killN (ns : List Pa) (h : T Blk) : T Blk := ns.foldl (fun h n => T.set .no .no n h) h
theorem killN_in : ∀ (ns : List Pa) (h : T Blk) (j : Pa), (j ∈ ns ∨ T.get .no j h = .no) → T.get .no j (killN ns h) = .no
  | [], h, j, q => by rcases q with q | q; · simp at q
                      · exact q
  | n :: ns, h, j, q => by
    show T.get .no j (killN ns (T.set .no .no n h)) = _
    refine killN_in ns _ j ?_
    by_cases e : j = n
    · subst e; exact .inr (T.get_set_same _ _ _ _)
    · rcases q with q | q
      · rcases List.mem_cons.1 q with q | q
        · exact absurd q e
        · exact .inl q
      · exact .inr (by rw [T.get_set_ne _ _ _ _ _ e]; exact q)
theorem killN_out : ∀ (ns : List Pa) (h : T Blk) (j : Pa), j ∉ ns → T.get .no j (killN ns h) = T.get .no j h
 | [], _, _, _ => rfl
 | n :: ns, h, j, q => by
  show T.get .no j (killN ns (T.set .no .no n h)) = _
  rw [killN_out ns _ j fun r => q (List.mem_cons_of_mem _ r), T.get_set_ne _ _ _ _ _ fun e => q (by rw [e]; exact List.mem_cons_self ..)]
theorem Hp.letAll {h0 h : T Blk} {nx : Pa} {A L : List Ob} (H : Hp h0 h nx (A ++ L)) : ∃ h', Keeps h' h ∧ Hp h0 h' nx L ∧ Hp h' h nx A := by
 have hnd := H.nd
 rw [List.flatMap_append] at hnd
 obtain ⟨n1, n2, n3⟩ := List.nodup_append.1 hnd
 have hoff : ∀ j, T.get .no j h0 ≠ .no → j ∉ A.flatMap Ob.names := fun j hj q => hj (H.off j (by rw [List.flatMap_append]; exact List.mem_append_left _ q))
 have hkp : Keeps (killN (A.flatMap Ob.names) h) h := fun j hj => by
  by_cases q : j ∈ A.flatMap Ob.names
  ·exact absurd (killN_in _ h j (.inl q)) hj
  ·exact (killN_out _ h j q).symm
 refine ⟨killN (A.flatMap Ob.names) h, hkp, ⟨fun j hj => ?_, fun y hy => ?_, fun n hn => ?_, n2, fun j hj => ?_⟩, ⟨hkp, fun y hy => H.own y (List.mem_append_left _ hy), fun n hn => killN_in _ h n (.inl hn), n1, H.fr⟩⟩
 ·rw [killN_out _ h j (hoff j hj)]; exact H.keep j hj
 ·refine (H.own y (List.mem_append_right _ hy)).congr fun m hm => killN_out _ h m fun q => ?_
  exact n3 m q m (List.mem_flatMap.2 ⟨y, hy, hm⟩) rfl
 ·exact H.off n (by rw [List.flatMap_append]; exact List.mem_append_right _ hn)
 ·exact killN_in _ h j (.inr (H.fr j hj))
theorem Hp.base {h0 h : T Blk} {nx : Pa} {L : List Ob} (H : Hp h0 h nx L) : Hp .e h nx L :=
 ⟨fun j hj => absurd (T.get_e _ j) hj, H.own, fun n _ => T.get_e _ n, H.nd, H.fr⟩
abbrev TRow := AV × Ob × List Int
def RowOk (t : TRow) : Prop := (∃ p cap, capLe t.2.2.length cap ∧ t.2.1 = .arr p (t.2.2.map I) ∧ t.1 = .sl p 0 t.2.2.length cap 1) ∨ ∃ o, t.2.1 = .gro o 1 t.2.2.length (t.2.2.map I) ∧ t.1 = rowV o 1 t.2.2.length
theorem RowOk.scal {t : TRow} (h : RowOk t) : scal t.1 = true := by
 rcases h with ⟨p, cap, _, _, e⟩ | ⟨o, _, e⟩
 ·rw [e]; rfl
 ·rw [e]; exact rowV_scal _ _ _
theorem RowOk.cells {t : TRow} (h : RowOk t) : t.1.cells = some [t.1] := by
 rcases h with ⟨p, cap, _, _, e⟩ | ⟨o, _, e⟩
 ·rw [e]; rfl
 ·rw [e]; exact rowV_cells _ _ _
theorem fixd_Is (l : List Int) : ∀ v ∈ l.map I, fixd v = true := fun v hv => by obtain ⟨x, _, rfl⟩ := List.mem_map.1 hv; rfl
theorem RowOk.frz {h0 h : T Blk} {nx : Pa} {L : List Ob} {t : TRow} (hr : RowOk t) (H : Hp h0 h nx L) (hm : t.2.1 ∈ L) : FrzN h0 h t.1 (encI t.2.2) := by
 obtain ⟨k, hk⟩ := List.mem_iff_getElem?.1 hm
 rcases hr with ⟨p, cap, hc, e1, e2⟩ | ⟨o, e1, e2⟩
 ·rw [e1] at hk; rw [e2]
  exact H.frzArr hk hc (by simp) (fixd_Is _)
 ·rw [e1] at hk; rw [e2]
  exact H.frzGro hk (fixd_Is _)
theorem RowOk.len {h0 h : T Blk} {nx : Pa} {L : List Ob} {t : TRow} (hr : RowOk t) (H : Hp h0 h nx L) (hm : t.2.1 ∈ L) (op : AV → OP) : sLen t.1 op = op (I t.2.2.length) := by
 obtain ⟨k, hk⟩ := List.mem_iff_getElem?.1 hm
 rcases hr with ⟨p, cap, hc, e1, e2⟩ | ⟨o, e1, e2⟩
 ·rw [e2]; rfl
 ·rw [e1] at hk; rw [e2]; exact H.groLen hk
theorem RowOk.rd {h0 h : T Blk} {nx : Pa} {L : List Ob} {t : TRow} (hr : RowOk t) (H : Hp h0 h nx L) (hm : t.2.1 ∈ L) (no : OP) (K' : List AV → Nat → OP) : readSl t.1 h no K' = K' (t.2.2.map I) t.2.2.length := by
 obtain ⟨k, hk⟩ := List.mem_iff_getElem?.1 hm
 rcases hr with ⟨p, cap, hc, e1, e2⟩ | ⟨o, e1, e2⟩
 ·rw [e1] at hk hm; rw [e2]
  exact HasArr.rd (H.own _ hm) (by simp) no K'
 ·rw [e1] at hk; rw [e2]
  rw [H.groRdHi hk (Nat.le_refl _), List.take_of_length_le (by simp)]
theorem tabFrz {h0 h : T Blk} {nx : Pa} {L : List Ob} {k : Nat} {o : Option Pa} {T : List TRow} (H : Hp h0 h nx L) (hk : L[k]? = some (.gro o 1 T.length (T.map (·.1)))) (hT : ∀ t ∈ T, RowOk t ∧ t.2.1 ∈ L) : FrzN h0 h (rowV o 1 T.length) (encT (T.map (·.2.2))) := by
 have e : encT (T.map (·.2.2)) = .lst 1 T.length (T.map fun t => encI t.2.2) := by simp [encT, List.map_map, Function.comp_def]
 rw [e]
 refine frzGroC H hk (by simp) (List.all_eq_true.2 fun v hv => ?_) fun i v v' h1 h2 => ?_
 ·obtain ⟨t, _, rfl⟩ := List.mem_map.1 hv; rfl
 ·rw [List.getElem?_map] at h1 h2
  cases ht : T[i]? with
  | none => rw [ht] at h1; cases h1
  | some t =>
   rw [ht] at h1 h2
   cases h1; cases h2
   obtain ⟨r1, r2⟩ := hT t (List.mem_of_getElem? ht)
   exact r1.frz H r2
theorem Hp.appFull {K : AV → T Blk → Pa → OP} {h0 h : T Blk} {nx : Pa} {L : List Ob} {k n bytes : Nat} {id : Pa} {l new : List AV} {x : AV} (H : Hp h0 h nx L) (hk : L[k]? = some (.arr id l)) (hl : l.length = n) (hx : ∀ (no : OP) (K' : List AV → Nat → OP), readSl x h no K' = K' new 1) (hne : new.length = 1) (hs : new.all Go.Ev.scal = true) (hb : bytes * 1000000 ≤ 70368744177664) (hn : n + 1 ≤ 1000000)
  (hK : ∀ o' h' nx', Hp h0 h' nx' (.gro (some o') 1 (n + 1) (l ++ new) :: L) → K (rowV (some o') 1 (n + 1)) h' nx' = .ok True) : sApp 1 bytes (.sl id 0 n (some n) 1) x h nx K = .ok True := by
 have hc : (Nat.ble (bytes * 1000000) 70368744177664 && Nat.beq new.length (1 * 1) && Nat.ble 1 1 && new.all Go.Ev.scal) = true := by
  rw [hs, hne, Nat.ble_eq_true_of_le hb]; rfl
 unfold sApp appA
 rw [hx, hc, cond_true]
 obtain ⟨op, t, h1, h2⟩ := H.own _ (List.mem_of_getElem? hk)
 show (bif Nat.beq 1 1 && Nat.ble (n + 1) 1000000 then asCells (T.get .no id h) _ (.no 35) else .no 36) = _
 rw [h1, Nat.ble_eq_true_of_le hn]
 show (bif Nat.ble (0 + n * 1) l.length then (bif Nat.ble (n + 1) n then (bif Nat.ble (0 + (n + 1) * 1) l.length then appIn id 0 n (some n) 1 op l.length t new 1 h nx K else .no 32) else appNew 0 n 1 t new 1 h nx K) else .no 34) = _
 rw [Nat.ble_eq_true_of_le (by omega), bleF (by omega), cond_true, cond_false]
 unfold appNew
 rw [newCells_eq, natK_eq]
 have er : rdList t 0 (n * 1) = l := by rw [Nat.mul_one, ← hl]; exact h2
 rw [er]
 exact hK _ _ _ (Hp.new (x := .gro (some nx) 1 (n + 1) (l ++ new)) H rfl fun h' q => ⟨wrList (l ++ new) .e 0, by rw [q]; simp [hne, hl], by simp [hne, hl], by have := wrList_all (l ++ new); rw [List.length_append, hne, hl] at this; rw [Nat.mul_one]; exact this⟩)
theorem findK_str {y : List UInt8} : ∀ (es : List (AV × AV)) (i : Nat), (∀ e ∈ es, ∃ s, e.1 = .str s ∧ s ≠ y) → findK .str (.str y) es i = some none
 | [], _, _ => rfl
 |(a, v) :: es, i, h => by
  obtain ⟨s, rfl, hs⟩ := h (a, v) (by simp)
  have hb : bytesEq y s = false := by
   cases q : bytesEq y s with
   | false => rfl
   | true => exact absurd (bytesEq_iff.1 q).symm hs
  show (match some (bytesEq y s) with
   | some true => some (some (i, v))
   | some false => findK .str (.str y) es (i + 1)
   | none => none) = _
  rw [hb]
  exact findK_str es (i + 1) fun e he => h e (by simp [he])
theorem Hp.lookNo {h0 h : T Blk} {nx : Pa} {L : List Ob} {k : Nat} {id : Pa} {es : List (AV × AV)} {y : List UInt8} {z : AV} {op : AV → OP} (H : Hp h0 h nx L) (hk : L[k]? = some (.map id es)) (hn : ∀ e ∈ es, ∃ s, e.1 = .str s ∧ s ≠ y) : sLook .str z false (.map id) (.str y) h op = op z := by
 have own : T.get .no id h = .map _ _ := H.own _ (List.mem_of_getElem? hk)
 show asMapB (T.get .no id h) _ _ = _
 rw [own]
 show (match findKK .str (.str y) es with | some (some (_, v)) => op v | some none => op z | none => .no 20) = _
 rw [show findKK .str (.str y) es = findK .str (.str y) es 0 from rfl, findK_str es 0 hn]
theorem Hp.mapPut {K : AV → T Blk → Pa → OP} {h0 h : T Blk} {nx : Pa} {L : List Ob} {k : Nat} {id : Pa} {es : List (AV × AV)} {y : List UInt8} {x : AV} (H : Hp h0 h nx L) (hk : L[k]? = some (.map id es)) (hn : ∀ e ∈ es, ∃ s, e.1 = .str s ∧ s ≠ y)
  (hK : ∀ h', Hp h0 h' nx (L.set k (.map id (es ++ [(.str y, x)]))) → K .undef h' nx = .ok True) : sMapup .str (.map id) (.str y) x h nx K = .ok True := by
 have own : T.get .no id h = .map _ _ := H.own _ (List.mem_of_getElem? hk)
 show asMapB (T.get .no id h) _ _ = _
 rw [own]
 show (match findKK .str (.str y) es with
    | some (some (i, _)) => T.setK (β := OP) Blk.no (Blk.map es.length (es.modify i fun e => (e.1, x))) id h fun h' => K .undef h' nx
    | some none => natK (es.length + 1) fun n => T.setK (β := OP) Blk.no (Blk.map n (es ++ [(AV.str y, x)])) id h fun h' => K .undef h' nx
    | none => Out.no 45) = _
 rw [show findKK .str (.str y) es = findK .str (.str y) es 0 from rfl, findK_str es 0 hn]
 simp only [natK_eq, T.setK_eq]
 refine hK _ (H.upd hk (by simp [Ob.names]) rfl ?_)
 show T.get Blk.no id _ = Blk.map _ _
 rw [T.get_set_same, List.length_append]; rfl
structure LinesOk (lines : List (List Int)) : Prop where
 asc : ∀ l ∈ lines, l ≠ [] ∧ l.Pairwise (· < ·) ∧ Sml l ∧ l.length ≤ 1000
 nd : lines.Nodup
 len : lines.length ≤ 1000
theorem srt_asc {l : List Int} (h : l.Pairwise (· < ·)) : srt l = l := (srt_unique (.refl l) (h.imp fun h => by omega)).symm
theorem collect146 {cells : Int} {lines : List (List Int)} (hj : ∀ B, JOk Tryz.prog B hookS) (hl : LinesOk lines) : Pure Tryz.prog B 153 [I cells, encT lines] (· = .agg [I cells, encT lines]) := by
 refine pure_hp fun h nx K H0 hK => by_body tbl_ok dreg 10000 fun hf => ?_
 have hlen := hl.len
 rw [F153.go]
 refine H0.alloc fun r h1 nx1 H1 => ?_
 refine H1.mkmap fun mid h2 nx2 H2 => ?_
 rw [sBuildS]
 refine H2.alloc fun ob h3 nx3 H3 => ?_
 refine H3.storeN (l2 := [I cells, .nils]) (k := 0) rfl rfl rfl fun h4 H4 => ?_
 simp only [sLen_lst]
 refine F153.L1 (fun m x9 h' nx' => ∃ (i : Nat) (o : Option Pa), x9 = I i ∧ lines.length - i = m ∧ i ≤ lines.length ∧
  Hp h h' nx' [.gro o 1 i ((lines.take i).map encI), .arr ob [I cells, rowV o 1 i], .map mid ((lines.take i).map fun l => (AV.str (txt l), AV.bool true)), .arr r [I 0, .nils]]) (m := lines.length) (by omega) ⟨0, none, rfl, rfl, by omega, H4.addGro 1⟩ ?_
 rintro m z5 z6 z9 z10 z11 h5 nx5 R ⟨i, o, rfl, rfl, hi, H5⟩ hR
 simp only [sLss]
 by_cases hlt : i < lines.length
 case neg =>
  simp only [show ¬ (i : Int) < (lines.length : Int) by omega, decide_false, sCond_f]
  obtain rfl : i = lines.length := by omega
  rw [F153.k8, H5.loadN (k := 1) (n := 2) rfl rfl]
  refine H5.storeN (l2 := [I cells, rowV o 1 lines.length]) (k := 3) rfl rfl rfl fun h6 H6 => ?_
  rw [H6.loadN (k := 3) (n := 2) rfl rfl]
  rw [List.take_of_length_le (by omega)] at H6
  have hF : FrzN h h6 (rowV o 1 lines.length) (encT lines) := H6.frzGro (k := 0) rfl fun v hv => by
   obtain ⟨l, _, rfl⟩ := List.mem_map.1 hv; exact fixd_encI l
  refine hK _ _ _ _ (AV.agg [I cells, encT lines]) H6 (Frz.agg _ _ rfl rfl fun j v v' h1 h2 => ?_) rfl
  match j, h1, h2 with
  | 0, h1, h2 => cases h1; cases h2; exact frz_fixd rfl
  | 1, h1, h2 => cases h1; cases h2; exact hF
  | j + 2, h1, h2 => simp at h1
 simp only [show (i : Int) < (lines.length : Int) by omega, decide_true, sCond_t]
 obtain ⟨l, hline⟩ : ∃ l, lines[i]? = some l := ⟨_, List.getElem?_eq_getElem hlt⟩
 have hm := List.mem_of_getElem? hline
 obtain ⟨a1, a2, a3, a4⟩ := hl.asc l hm
 rw [sIxL rfl hlt, ldL (getT hline)]
 refine values126 _ _ _ _ ?_
 rintro _ rfl _
 refine sorted125 hj (by omega) _ _ _ _ ?_
 rintro _ rfl _
 rw [srt_asc a2]
 refine text171 a4 a3 _ _ _ _ ?_
 rintro _ rfl _
 have hnew : ∀ e ∈ (lines.take i).map (fun l => (AV.str (txt l), AV.bool true)), ∃ s, e.1 = .str s ∧ s ≠ txt l := fun e he => by
  obtain ⟨q, hq, rfl⟩ := List.mem_map.1 he
  refine ⟨_, rfl, fun e => ?_⟩
  obtain ⟨b1, b2, b3, b4⟩ := hl.asc q (List.mem_of_mem_take hq)
  have := txt_inj b3 a3 b1 a1 e
  subst this
  obtain ⟨j, hj⟩ := List.mem_iff_getElem?.1 hq
  have hjl := (List.getElem?_eq_some_iff.1 hj).1
  rw [List.length_take] at hjl
  rw [List.getElem?_take_of_lt (by omega)] at hj
  have hp := List.pairwise_iff_getElem.1 hl.nd j i (by omega) hlt (by omega)
  obtain ⟨_, c1⟩ := List.getElem?_eq_some_iff.1 hj
  obtain ⟨_, c2⟩ := List.getElem?_eq_some_iff.1 hline
  exact hp (c1.trans c2.symm)
 rw [H5.lookNo (k := 2) rfl hnew]
 simp only [sNot_b, Bool.not_false, sCond_t]
 refine H5.mapPut (k := 2) rfl hnew fun h6 H6 => ?_
 rw [sFx, H6.load (k := 1) (i := 0 + 1) rfl rfl]
 refine H6.bslice (l := [encI l]) rfl fun tb h7 nx7 H7 => ?_
 refine H7.appN (k := 1) (o := o) (c := 1) (new := [encI l]) rfl (HasArr.rd (l := [encI l]) (n := 1) (H7.own _ (List.mem_cons_self ..)) rfl) rfl rfl (by decide) (by decide) (by omega) fun o' h8 nx8 _ H8 => ?_
 rw [sFx]
 refine H8.store (k := 2) rfl (by simp) (rowV_cells _ _ _) fun h9 H9 => ?_
 rw [sAdd (by omega)]
 refine hR _ _ _ _ _ _ _ _ (by omega) ⟨i + 1, o', rfl, rfl, by omega, ?_⟩
 rw [List.take_add_one, hline, List.map_append, List.map_append]
 exact H9.drop
end Go.Ev
namespace Go.Ev
open Go Go.Proofs
variable {B : Nat}
abbrev eAt (E : List (Int × Int)) (j : Nat) : Int × Int := E.getD j (0, 0)
def edgeL (V : Int) (E : List (Int × Int)) (i : Nat) : List (List Int) := (List.range i).map fun j => [(eAt E j).1, (eAt E j).2, V + (j : Int)]
def starL (V : Int) (E : List (Int × Int)) (v : Int) (k : Nat) : List Int := v :: ((List.range k).filter fun j => decide ((eAt E j).1 = v ∨ (eAt E j).2 = v)).map fun j : Nat => V + (j : Int)
def vertL (V : Int) (E : List (Int × Int)) (k : Nat) : List (List Int) := (List.range k).map fun v : Nat => starL V E (v : Int) E.length
theorem edgeL_succ (V : Int) (E : List (Int × Int)) (i : Nat) : edgeL V E (i + 1) = edgeL V E i ++ [[(eAt E i).1, (eAt E i).2, V + (i : Int)]] := by simp [edgeL, List.range_succ]
theorem vertL_succ (V : Int) (E : List (Int × Int)) (k : Nat) : vertL V E (k + 1) = vertL V E k ++ [starL V E (k : Int) E.length] := by simp [vertL, List.range_succ]
theorem starL_succ (V : Int) (E : List (Int × Int)) (v : Int) (k : Nat) : starL V E v (k + 1) = if (eAt E k).1 = v ∨ (eAt E k).2 = v then starL V E v k ++ [V + (k : Int)] else starL V E v k := by
 rw [starL, List.range_succ, List.filter_append, List.map_append]
 by_cases c : (eAt E k).1 = v ∨ (eAt E k).2 = v
 ·rw [if_pos c, List.filter_cons, if_pos (decide_eq_true c)]; rfl
 ·rw [if_neg c, List.filter_cons, if_neg (by simpa using c)]
  simp [starL]
theorem starL_len (V : Int) (E : List (Int × Int)) (v : Int) (k : Nat) : (starL V E v k).length ≤ k + 1 := by
 rw [starL, List.length_cons, List.length_map]
 have := List.length_filter_le (fun j => decide ((eAt E j).1 = v ∨ (eAt E j).2 = v)) (List.range k)
 rw [List.length_range] at this; omega
theorem eAt_get {E : List (Int × Int)} {j : Nat} (h : j < E.length) : eAt E j = E[j] := by
 rw [eAt, List.getD_eq_getElem?_getD, List.getElem?_eq_getElem h]; rfl
theorem edge_lines {V : Int} {E : List (Int × Int)} (h : graphErr V E = 0) : LinesOk (edgeL V E E.length) ∧ ∀ l ∈ edgeL V E E.length, AscL (V.toNat + E.length) l ∧ l.length = 3 := by
 obtain ⟨g1, g2, g3⟩ := graph_ok h
 have key : ∀ l ∈ edgeL V E E.length, AscL (V.toNat + E.length) l ∧ l.length = 3 ∧ Sml l := by
  intro l hl
  obtain ⟨j, hj, rfl⟩ := List.mem_map.1 hl
  have hj := List.mem_range.1 hj
  have hm : eAt E j ∈ E := by rw [eAt_get hj]; exact List.getElem_mem hj
  obtain ⟨⟨a1, a2, a3, a4⟩, a5⟩ := g3 _ hm
  refine ⟨⟨by simp, ?_, fun c hc => ?_⟩, rfl, fun x hx => ?_⟩
  ·simp only [List.pairwise_cons, List.mem_cons, List.not_mem_nil, or_false, forall_eq_or_imp, forall_eq, List.Pairwise.nil, and_true, false_implies, implies_true]
   omega
  ·simp only [List.mem_cons, List.not_mem_nil, or_false] at hc
   omega
  ·simp only [List.mem_cons, List.not_mem_nil, or_false] at hx
   omega
 refine ⟨⟨fun l hl => ?_, ?_, by simp [edgeL]; omega⟩, fun l hl => ⟨(key l hl).1, (key l hl).2.1⟩⟩
 ·obtain ⟨k1, k2, k3⟩ := key l hl
  exact ⟨k1.1, k1.2.1, k3, by omega⟩
 ·rw [edgeL, List.Nodup, List.pairwise_map]
  refine List.pairwise_lt_range.imp fun {a b} hab e => ?_
  simp only [List.cons.injEq, and_true] at e
  omega
theorem vert_lines {V : Int} {E : List (Int × Int)} (h : graphErr V E = 0) : LinesOk (vertL V E V.toNat) ∧ ∀ l ∈ vertL V E V.toNat, AscL (V.toNat + E.length) l ∧ l.length ≤ 33 := by
 obtain ⟨g1, g2, g3⟩ := graph_ok h
 have key : ∀ l ∈ vertL V E V.toNat, AscL (V.toNat + E.length) l ∧ l.length ≤ 33 ∧ Sml l := by
  intro l hl
  obtain ⟨v, hv, rfl⟩ := List.mem_map.1 hl
  have hv := List.mem_range.1 hv
  have hmem : ∀ x ∈ starL V E (v : Int) E.length, x = (v : Int) ∨ ∃ j : Nat, j < E.length ∧ x = V + (j : Int) := by
   intro x hx
   rcases List.mem_cons.1 hx with q | q
   ·exact .inl q
   ·obtain ⟨j, hj, rfl⟩ := List.mem_map.1 q
    exact .inr ⟨j, List.mem_range.1 (List.mem_filter.1 hj).1, rfl⟩
  have hlen := starL_len V E (v : Int) E.length
  refine ⟨⟨by simp [starL], ?_, fun c hc => ?_⟩, by omega, fun x hx => ?_⟩
  ·rw [starL, List.pairwise_cons]
   refine ⟨fun x hx => ?_, ?_⟩
   ·obtain ⟨j, hj, rfl⟩ := List.mem_map.1 hx
    omega
   ·rw [List.pairwise_map]
    refine List.Pairwise.filter _ ?_
    exact List.pairwise_lt_range.imp fun h => by omega
  ·rcases hmem c hc with q | ⟨j, hj, q⟩ <;> omega
  ·rcases hmem x hx with q | ⟨j, hj, q⟩ <;> omega
 refine ⟨⟨fun l hl => ?_, ?_, by simp [vertL]; omega⟩, fun l hl => ⟨(key l hl).1, (key l hl).2.1⟩⟩
 ·obtain ⟨k1, k2, k3⟩ := key l hl
  exact ⟨k1.1, k1.2.1, k3, by omega⟩
 ·rw [vertL, List.Nodup, List.pairwise_map]
  refine List.pairwise_lt_range.imp ?_
  intro a b hab e
  simp only [starL, List.cons.injEq] at e
  omega
theorem sBuild0 {K : AV → OP} : sBuild [(I 0), .nils] [] K = K (.agg [I 0, .nils]) := nr rfl
abbrev emErr (V : Int) (E : List (Int × Int)) : Int := firstE [graphErr V E, if decide (E.length = 0) = true then 12 else 0]
abbrev sysV (V : Int) (E : List (Int × Int)) (ls : List (List Int)) : AV := .agg [I (V + (E.length : Int)), encT ls]
theorem fillCell {x : AV} (h : x.cells = some [x]) : fillA (repl 1 [AV.nils]) [(0, 1, x)] = some [x] := by simp only [fillA, h]; rfl
theorem collectO {h0 h : T Blk} {nx p : Pa} {o : Option Pa} {T : List TRow} {L : List Ob} {cells : Int} {K : Kw Prop} (hj : ∀ B, JOk Tryz.prog B hookS) (hl : LinesOk (T.map (·.2.2))) (hT : ∀ t ∈ T, RowOk t)
  (H : Hp h0 h nx ((.gro o 1 T.length (T.map (·.1)) :: T.map (·.2.1)) ++ L))
  (hK : ∀ h', Hp h0 h' nx L → K (.agg [I cells, encT (T.map (·.2.2))]) h' nx = .ok True) : (CS Tryz.prog B).fn 153 p [I cells, rowV o 1 T.length] h nx K = .ok True := by
 obtain ⟨h', hkeep, H1, HA⟩ := H.letAll
 have hF := tabFrz HA (k := 0) rfl fun t ht => ⟨hT t ht, List.mem_cons_of_mem _ (List.mem_map_of_mem ht)⟩
 refine CS_let hkeep (.cons (.int _ _) (.cons hF .nil)) ?_
 refine collect146 hj hl _ _ _ _ ?_
 rintro _ rfl _
 exact hK h' H1
theorem edgeMagic115 {V : Int} {E : List (Int × Int)} (hj : ∀ B, JOk Tryz.prog B hookS) (hE : E.length ≤ 1000000) : Pure Tryz.prog B 76 [.agg [I V, encP E]] (· = if emErr V E ≠ 0 then .tup [.agg [I 0, .nils], I (emErr V E)] else .tup [sysV V E (edgeL V E E.length), I 0]) := by
 refine pure_hp fun h nx K H0 hK => by_body tbl_ok dreg 10000 fun hf => ?_
 rw [F76.go]
 refine H0.box (l := [I V, encP E]) rfl fun bx h1 nx1 H1 => ?_
 refine H1.alloc fun r h2 nx2 H2 => ?_
 rw [H2.loadN (k := 1) (n := 2) rfl rfl]
 simp only [sFx]
 rw [H2.load (k := 1) (i := 0 + 1) rfl rfl]
 simp only [sLen_lst, sEql]
 refine checkGraph133 hE _ _ _ _ ?_
 rintro _ rfl _
 simp only [sSame_refl]
 rw [H2.load (k := 1) (i := 0 + 1) rfl rfl]
 simp only [sSame_refl]
 refine when123 _ _ _ _ _ _ ?_
 rintro _ rfl _
 refine H2.bslice (l := [I (graphErr V E), I (if decide ((E.length : Int) = 0) = true then 12 else 0)]) rfl fun tb h3 nx3 H3 => ?_
 refine own_plain (l := [graphErr V E, if decide ((E.length : Int) = 0) = true then 12 else 0]) H3 (k := 0) rfl (fun B => first121 (by simp)) (fun v hv => by rw [hv]; exact .int _ _) ?_
 rintro _ rfl
 have e : firstE [graphErr V E, if decide ((E.length : Int) = 0) = true then 12 else 0] = emErr V E := by
  have : decide ((E.length : Int) = 0) = decide (E.length = 0) := decide_eq_decide.2 (by omega)
  rw [this]
 rw [e]
 simp only [sNeq]
 have H3 := H3.drop
 by_cases c : emErr V E = 0
 case neg =>
  rw [if_pos c] at hK
  simp only [c, decide_false, Bool.not_false, sCond_t]
  rw [sBuild0]
  refine H3.storeN (l2 := [I 0, .nils]) (k := 0) rfl rfl rfl fun h4 H4 => ?_
  rw [H4.loadN (k := 0) (n := 2) rfl rfl]
  exact hK _ _ _ _ _ H4 (frz_tup2 (frz_agg (by simp [fixd])) (frz_fixd rfl)) rfl
 have hg : graphErr V E = 0 := by
  by_cases q : graphErr V E = 0
  ·exact q
  ·rw [emErr, firstE, if_pos q] at c; exact absurd c q
 obtain ⟨g1, g2, g3⟩ := graph_ok hg
 rw [if_neg (by simp [c])] at hK
 rw [c]
 simp only [decide_true, Bool.not_true, sCond_f]
 rw [H3.load (k := 1) (i := 0 + 1) rfl rfl]
 simp only [sLen_lst]
 refine F76.L2 (fun m x5 x11 h' nx' => ∃ (i : Nat) (T : List TRow) (o : Option Pa), x11 = I i ∧ x5 = rowV o 1 T.length ∧ E.length - i = m ∧ i ≤ E.length ∧ T.map (·.2.2) = edgeL V E i ∧ (∀ t ∈ T, RowOk t) ∧
  Hp h h' nx' (.gro o 1 T.length (T.map (·.1)) :: .arr r [I 0, .nils] :: .arr bx [I V, encP E] :: T.map (·.2.1))) (m := E.length) (by omega) ⟨0, [], none, rfl, rfl, rfl, by omega, rfl, by simp, H3.addGro 1⟩ ?_
 rintro m z5 z6 z7 z11 z12 h4 nx4 R ⟨i, T, o, rfl, rfl, rfl, hi, hTl, hT, H4⟩ hR
 have hTn : T.length = i := by have := congrArg List.length hTl; simpa [edgeL] using this
 simp only [sLss]
 by_cases hlt : i < E.length
 case neg =>
  simp only [show ¬ (i : Int) < (E.length : Int) by omega, decide_false, sCond_f]
  obtain rfl : i = E.length := by omega
  rw [F76.k9, sFx, H4.load (k := 2) (i := 0) rfl rfl, sFx, H4.load (k := 2) (i := 0 + 1) rfl rfl]
  simp only [sLen_lst]
  rw [sAdd (by omega)]
  have H5 : Hp h h4 nx4 ((.gro o 1 T.length (T.map (·.1)) :: T.map (·.2.1)) ++ [.arr r [I 0, .nils], .arr bx [I V, encP E]]) := H4.perm ((List.perm_append_comm (l₁ := [_, _])).cons _)
  refine collectO hj (by rw [hTl]; exact (edge_lines hg).1) hT H5 fun h5 H6 => ?_
  rw [hTl]
  refine H6.storeN (l2 := [I (V + (E.length : Int)), encT (edgeL V E E.length)]) (k := 0) rfl rfl rfl fun h6 H7 => ?_
  rw [H7.loadN (k := 0) (n := 2) rfl rfl]
  exact hK _ _ _ _ _ H7 (frz_tup2 (frz_agg fixd_sys) (frz_fixd rfl)) rfl
 simp only [show (i : Int) < (E.length : Int) by omega, decide_true, sCond_t]
 obtain ⟨⟨a1, a2, a3, a4⟩, a5⟩ := g3 _ (List.getElem_mem hlt)
 rw [sIxL rfl hlt, flat2_cons hlt, sLoadNP]
 refine H4.alloc fun b h5 nx5 H5 => ?_
 refine H5.storeN (k := 0) (n := 2) rfl rfl rfl fun h6 H6 => ?_
 rw [sAx0, H6.load (k := 0) (i := 0) rfl rfl, sAx1, H6.load (k := 0) (i := 0 + 1) rfl rfl, sFx, H6.load (k := 3) (i := 0) rfl rfl, sAdd (by omega)]
 refine H6.bslice (l := [I E[i].1, I E[i].2, I (V + (i : Int))]) rfl fun p h7 nx7 H7 => ?_
 refine H7.bslice (l := [.sl p 0 3 (some 3) 1]) rfl fun tb h8 nx8 H8 => ?_
 refine H8.appN (k := 3) (o := o) (c := 1) (new := [.sl p 0 3 (some 3) 1]) rfl (HasArr.rd (l := [.sl p 0 3 (some 3) 1]) (n := 1) (H8.own _ (List.mem_cons_self ..)) rfl) rfl rfl (by decide) (by decide) (by omega) fun o' h9 nx9 _ H9 => ?_
 rw [sAdd (by omega)]
 refine hR _ _ _ _ _ _ _ _ (by omega) ⟨i + 1, T ++ [(.sl p 0 3 (some 3) 1, .arr p [I E[i].1, I E[i].2, I (V + (i : Int))], [E[i].1, E[i].2, V + (i : Int)])], o', rfl, by rw [List.length_append]; rfl, rfl, by omega, ?_, ?_, ?_⟩
 ·rw [List.map_append, hTl, edgeL_succ, eAt_get hlt]; rfl
 ·intro t ht
  rcases List.mem_append.1 ht with q | q
  ·exact hT t q
  ·rw [List.mem_singleton.1 q]
   exact .inl ⟨p, some 3, Nat.le_refl _, rfl, rfl⟩
 ·rw [List.length_append, List.map_append, List.map_append]
  have H10 : Hp h h9 nx9 (.arr p [I E[i].1, I E[i].2, I (V + (i : Int))] :: (.arr b [I E[i].1, I E[i].2] :: .gro o' 1 (T.length + 1) (T.map (·.1) ++ [.sl p 0 3 (some 3) 1]) :: .arr r [I 0, .nils] :: .arr bx [I V, encP E] :: T.map (·.2.1))) := H9.drop
  exact (H10.perm (List.perm_append_singleton _ _).symm).drop
end Go.Ev
namespace Go.Ev
open Go Go.Proofs
set_option maxRecDepth 100000
variable {N : Nat} {C : Calls Prop} {K0 : Kw Prop} {K R : Ks Prop} {h : T Blk} {nx : Pa} {x0 x1 x2 x3 x4 x5 x6 x7 x8 x9 a0 : AV}
theorem F80.g2_eq (X3 : IR) (O : Outs Prop) (t : T AV) : IR.run (F80.g2 X3) C N O K t h nx = IR.run X3 C N (O.blk 0 K) K t h nx := by kernel_rfl
theorem F80.tab : T.get none (.of 80) tbl = some F80 := by kernel_rfl
theorem F80.go : callFn tbl N C (.of 80) [a0] h nx K0 =
 sBox a0 h nx fun v1 h2 n3 =>
 sAlloc [(I 0), .nils] h2 n3 fun v4 h5 n6 =>
 sFaddr 1 v1 fun v7 =>
 sLoad v7 h5 fun v8 =>
 sLen v8 fun v9 =>
 sBin .eql .int v9 (I 0) fun v10 =>
 sCond v10 (sBuild [(I 0), .nils] [] fun v11 =>
 sStore 2 v4 v11 h5 n6 fun v12 h13 n14 =>
 sLoadN 2 v4 h13 fun v15 => K0 (.tup [v15, (I 12)]) h13 n14) (IR.run F80.b2 C N (fnO F80.res K0) (IR.run F80.b9 C N (fnO F80.res K0) (retK F80.res K0)) (F80.fr a0 v1 v4 (I 0) .nils (I 0) v10 .undef) h5 n6) := by
 rw [callFn_of F80.tab]; kernel_rfl
theorem F80.L2 (Inv : Nat → AV → AV → T Blk → Pa → Prop) {m : Nat} (hm : m < N) (hi : Inv m x4 x5 h nx)
  (step : ∀ (m : Nat) (z4 z5 z7 : AV) (h : T Blk) (nx : Pa) (R : Ks Prop), Inv m z4 z5 h nx → (∀ (m' : Nat) (w4 w5 w7 : AV) (h' : T Blk) (nx' : Pa), m' < m → Inv m' w4 w5 h' nx' → R (F80.fr x0 x1 x2 x3 w4 w5 x6 w7) h' nx' = .ok True) →
   (sFaddr 1 x1 fun v1 =>
 sLoad v1 h fun v2 =>
 sLen v2 fun v3 =>
 sBin .lss .int z5 v3 fun v4 =>
 sCond v4 (sFaddr 1 x1 fun v5 =>
 sLoad v5 h fun v6 =>
 sIaddr 2 v6 z5 fun v7 =>
 sAaddr 1 2 v7 (I 0) fun v8 =>
 sLoad v8 h fun v9 =>
 sFaddr 1 x1 fun v10 =>
 sLoad v10 h fun v11 =>
 sIaddr 2 v11 z5 fun v12 =>
 sAaddr 1 2 v12 (I 1) fun v13 =>
 sLoad v13 h fun v14 =>
 sFaddr 0 x1 fun v15 =>
 sLoad v15 h fun v16 =>
 sBin .add .int v16 z5 fun v17 =>
 sBslice 1 3 [(I 0)] [(0, 1, v9), (1, 1, v14), (2, 1, v17)] h nx fun v18 h19 n20 =>
 sSame z4 z4 (C.fn 164 (.of 164) [z4, v18] h19 n20 fun v21 h22 n23 =>
 sBin .add .int z5 (I 1) fun v24 =>
 R (F80.fr x0 x1 x2 x3 v21 v24 x6 v4) h22 n23)) (K (F80.fr x0 x1 x2 x3 z4 z5 x6 v4) h nx)) = .ok True) :
  IR.run F80.b2 C N (fnO F80.res K0) K (F80.fr x0 x1 x2 x3 x4 x5 x6 x7) h nx = .ok True := by
 rw [F80.b2, F80.g2_eq, F80.b3]
 refine loop_ok (fun m tm h nx => ∃ z4 z5 z7, tm = (F80.fr x0 x1 x2 x3 z4 z5 x6 z7) ∧ Inv m z4 z5 h nx) ?_ hm ⟨_, _, _, rfl, hi⟩
 rintro m tm h nx R ⟨z4, z5, z7, rfl, hi⟩ hR
 refine Eq.trans ?_ (step m z4 z5 z7 h nx R hi fun m' w4 w5 w7 h' nx' hlt hi' => hR m' _ h' nx' hlt ⟨_, _, _, rfl, hi'⟩)
 kernel_rfl
theorem F80.k9 : IR.run F80.b9 C N (fnO F80.res K0) K (F80.fr x0 x1 x2 x3 x4 x5 x6 x7) h nx =
 sFaddr 0 x1 fun v1 =>
 sLoad v1 h fun v2 =>
 sFaddr 1 x1 fun v3 =>
 sLoad v3 h fun v4 =>
 sLen v4 fun v5 =>
 sBin .add .int v2 v5 fun v6 =>
 sBuild [(I 0), .nils] [(0, 1, v6), (1, 1, x4)] fun v7 =>
 sStore 2 x2 v7 h nx fun v8 h9 n10 =>
 sLoadN 2 x2 h9 fun v11 => K0 (.tup [v11, (I 0)]) h9 n10 := by kernel_rfl
theorem F81.g7_eq (X8 : IR) (O : Outs Prop) (t : T AV) : IR.run (F81.g7 X8) C N O K t h nx = IR.run X8 C N (O.blk 2 K) K t h nx := by kernel_rfl
theorem F81.g1_eq (X2 : IR) (O : Outs Prop) (t : T AV) : IR.run (F81.g1 X2) C N O K t h nx = IR.run X2 C N (O.blk 0 K) K t h nx := by kernel_rfl
theorem F81.tab : T.get none (.of 81) tbl = some F81 := by kernel_rfl
theorem F81.go : callFn tbl N C (.of 81) [a0] h nx K0 =
 sBox a0 h nx fun v1 h2 n3 =>
 sAlloc [(I 0), .nils] h2 n3 fun v4 h5 n6 =>
 IR.run F81.b1 C N (fnO F81.res K0) (IR.run F81.b16 C N (fnO F81.res K0) (retK F81.res K0)) (F81.fr a0 v1 v4 .nils (I 0) .undef .undef .undef .undef .undef) h5 n6 := by
 rw [callFn_of F81.tab]; kernel_rfl
theorem F81.L1 (Inv : Nat → AV → AV → T Blk → Pa → Prop) {m : Nat} (hm : m < N) (hi : Inv m x3 x4 h nx)
  (step : ∀ (m : Nat) (z3 z4 z5 z6 z7 z8 z9 : AV) (h : T Blk) (nx : Pa) (R : Ks Prop), Inv m z3 z4 h nx → (∀ (m' : Nat) (w3 w4 w5 w6 w7 w8 w9 : AV) (h' : T Blk) (nx' : Pa), m' < m → Inv m' w3 w4 h' nx' → R (F81.fr x0 x1 x2 w3 w4 w5 w6 w7 w8 w9) h' nx' = .ok True) →
   (sFaddr 0 x1 fun v1 =>
 sLoad v1 h fun v2 =>
 sBin .lss .int z4 v2 fun v3 =>
 sCond v3 (sBslice 1 1 [(I 0)] [(0, 1, z4)] h nx fun v4 h5 n6 =>
 IR.run F81.b7 C N (((fnO F81.res K0).blk 0 K).blk 1 (IR.run F81.b15 C N ((fnO F81.res K0).blk 0 K) R)) (IR.run F81.b14 C N (((fnO F81.res K0).blk 0 K).blk 1 (IR.run F81.b15 C N ((fnO F81.res K0).blk 0 K) R)) (IR.run F81.b15 C N ((fnO F81.res K0).blk 0 K) R)) (F81.fr x0 x1 x2 z3 z4 v4 (I 0) v3 z8 z9) h5 n6) (K (F81.fr x0 x1 x2 z3 z4 z5 z6 v3 z8 z9) h nx)) = .ok True) :
  IR.run F81.b1 C N (fnO F81.res K0) K (F81.fr x0 x1 x2 x3 x4 x5 x6 x7 x8 x9) h nx = .ok True := by
 rw [F81.b1, F81.g1_eq, F81.b2]
 refine loop_ok (fun m tm h nx => ∃ z3 z4 z5 z6 z7 z8 z9, tm = (F81.fr x0 x1 x2 z3 z4 z5 z6 z7 z8 z9) ∧ Inv m z3 z4 h nx) ?_ hm ⟨_, _, _, _, _, _, _, rfl, hi⟩
 rintro m tm h nx R ⟨z3, z4, z5, z6, z7, z8, z9, rfl, hi⟩ hR
 refine Eq.trans ?_ (step m z3 z4 z5 z6 z7 z8 z9 h nx R hi fun m' w3 w4 w5 w6 w7 w8 w9 h' nx' hlt hi' => hR m' _ h' nx' hlt ⟨_, _, _, _, _, _, _, rfl, hi'⟩)
 kernel_rfl
theorem F81.k16 : IR.run F81.b16 C N (fnO F81.res K0) K (F81.fr x0 x1 x2 x3 x4 x5 x6 x7 x8 x9) h nx =
 sFaddr 0 x1 fun v1 =>
 sLoad v1 h fun v2 =>
 sFaddr 1 x1 fun v3 =>
 sLoad v3 h fun v4 =>
 sLen v4 fun v5 =>
 sBin .add .int v2 v5 fun v6 =>
 sBuild [(I 0), .nils] [(0, 1, v6), (1, 1, x3)] fun v7 =>
 sStore 2 x2 v7 h nx fun v8 h9 n10 =>
 sLoadN 2 x2 h9 fun v11 => K0 v11 h9 n10 := by kernel_rfl
theorem F81.k15 {E0 : Ks Prop} : IR.run F81.b15 C N ((fnO F81.res K0).blk 0 E0) K (F81.fr x0 x1 x2 x3 x4 x5 x6 x7 x8 x9) h nx =
 sBin .add .int x4 (I 1) fun v1 =>
 K (F81.fr x0 x1 x2 x3 v1 x5 x6 x7 x8 x9) h nx := by kernel_rfl
theorem F81.L7 {E0 E1 : Ks Prop} (Inv : Nat → AV → AV → T Blk → Pa → Prop) {m : Nat} (hm : m < N) (hi : Inv m x5 x6 h nx)
  (step : ∀ (m : Nat) (z5 z6 z8 z9 : AV) (h : T Blk) (nx : Pa) (R : Ks Prop), Inv m z5 z6 h nx → (∀ (m' : Nat) (w5 w6 w8 w9 : AV) (h' : T Blk) (nx' : Pa), m' < m → Inv m' w5 w6 h' nx' → R (F81.fr x0 x1 x2 x3 x4 w5 w6 x7 w8 w9) h' nx' = .ok True) →
   (sFaddr 1 x1 fun v1 =>
 sLoad v1 h fun v2 =>
 sLen v2 fun v3 =>
 sBin .lss .int z6 v3 fun v4 =>
 sCond v4 (sFaddr 1 x1 fun v5 =>
 sLoad v5 h fun v6 =>
 sIaddr 2 v6 z6 fun v7 =>
 sAaddr 1 2 v7 (I 0) fun v8 =>
 sLoad v8 h fun v9 =>
 sBin .eql .int v9 x4 fun v10 =>
 sG v10 false (fun k => sFaddr 1 x1 k) fun v11 =>
 sG v10 false (fun k => sLoad v11 h k) fun v12 =>
 sG v10 false (fun k => k z6) fun v13 =>
 sG v10 false (fun k => sIaddr 2 v12 v13 k) fun v14 =>
 sG v10 false (fun k => sAaddr 1 2 v14 (I 1) k) fun v15 =>
 sG v10 false (fun k => sLoad v15 h k) fun v16 =>
 sG v10 false (fun k => k x4) fun v17 =>
 sG v10 false (fun k => sBin .eql .int v16 v17 k) fun v18 =>
 sPick v10 (.bool true) v18 fun v19 =>
 sCond v19 (sFaddr 0 x1 fun v20 =>
 sLoad v20 h fun v21 =>
 sBin .add .int v21 z6 fun v22 =>
 sBslice 1 1 [(I 0)] [(0, 1, v22)] h nx fun v23 h24 n25 =>
 sApp 1 8 z5 v23 h24 n25 fun v26 h27 n28 =>
 sBin .add .int z6 (I 1) fun v29 =>
 R (F81.fr x0 x1 x2 x3 x4 v26 v29 x7 v4 v19) h27 n28) (sBin .add .int z6 (I 1) fun v30 =>
 R (F81.fr x0 x1 x2 x3 x4 z5 v30 x7 v4 v19) h nx)) (K (F81.fr x0 x1 x2 x3 x4 z5 z6 x7 v4 z9) h nx)) = .ok True) :
  IR.run F81.b7 C N (((fnO F81.res K0).blk 0 E0).blk 1 E1) K (F81.fr x0 x1 x2 x3 x4 x5 x6 x7 x8 x9) h nx = .ok True := by
 rw [F81.b7, F81.g7_eq, F81.b8]
 refine loop_ok (fun m tm h nx => ∃ z5 z6 z8 z9, tm = (F81.fr x0 x1 x2 x3 x4 z5 z6 x7 z8 z9) ∧ Inv m z5 z6 h nx) ?_ hm ⟨_, _, _, _, rfl, hi⟩
 rintro m tm h nx R ⟨z5, z6, z8, z9, rfl, hi⟩ hR
 refine Eq.trans ?_ (step m z5 z6 z8 z9 h nx R hi fun m' w5 w6 w8 w9 h' nx' hlt hi' => hR m' _ h' nx' hlt ⟨_, _, _, _, rfl, hi'⟩)
 kernel_rfl
theorem F81.k14 {E0 E1 : Ks Prop} : IR.run F81.b14 C N (((fnO F81.res K0).blk 0 E0).blk 1 E1) K (F81.fr x0 x1 x2 x3 x4 x5 x6 x7 x8 x9) h nx =
 C.fn 164 (.of 164) [x3, x5] h nx fun v1 h2 n3 =>
 K (F81.fr x0 x1 x2 v1 x4 x5 x6 x7 x8 x9) h2 n3 := by kernel_rfl
end Go.Ev
namespace Go.Ev
open Go Go.Proofs
variable {B : Nat}
def StarSt (x : AV) (X : Ob) (l : List Int) (v : Int) : Prop := (l = [v] ∧ ∃ p, x = .sl p 0 1 (some 1) 1 ∧ X = .arr p [I v]) ∨ ∃ o, x = rowV (some o) 1 l.length ∧ X = .gro (some o) 1 l.length (l.map I)
theorem StarSt.ok {x : AV} {X : Ob} {l : List Int} {v : Int} (h : StarSt x X l v) : RowOk (x, X, l) := by
 rcases h with ⟨rfl, p, rfl, rfl⟩ | ⟨o, rfl, rfl⟩
 ·exact .inl ⟨p, some 1, Nat.le_refl _, rfl, rfl⟩
 ·exact .inr ⟨some o, rfl, rfl⟩
theorem star_app {h0 h : T Blk} {nx : Pa} {J L : List Ob} {x xv : AV} {X : Ob} {l : List Int} {v y : Int} {bytes : Nat} {K : AV → T Blk → Pa → OP} (hs : StarSt x X l v) (H : Hp h0 h nx (J ++ X :: L)) (hx : ∀ (no : OP) (K' : List AV → Nat → OP), readSl xv h no K' = K' [I y] 1) (hb : bytes * 1000000 ≤ 70368744177664) (hl : l.length + 1 ≤ 1000000)
  (hK : ∀ x' X' h' nx', StarSt x' X' (l ++ [y]) v → Hp h0 h' nx' (X' :: L) → K x' h' nx' = .ok True) : sApp 1 bytes x xv h nx K = .ok True := by
 have hk : (J ++ X :: L)[J.length]? = some X := by rw [List.getElem?_append_right (by omega), Nat.sub_self]; rfl
 rcases hs with ⟨rfl, p, rfl, rfl⟩ | ⟨o, rfl, rfl⟩
 ·refine H.appFull hk rfl hx rfl rfl hb (by omega) fun o' h' nx' H' => ?_
  refine hK _ _ _ _ (.inr ⟨o', rfl, rfl⟩) ?_
  have H'' : Hp h0 h' nx' (.gro (some o') 1 (1 + 1) ([I v] ++ [I y]) :: ((J ++ [.arr p [I v]]) ++ L)) := H'.cast (by simp)
  exact H''.dropMid
 ·refine H.appN hk hx rfl rfl (by decide) hb hl fun o' h' nx' ho H' => ?_
  obtain ⟨q, rfl⟩ : ∃ q, o' = some q := by
   cases o' with
   | none => exact (ho (.inl (by simp)) rfl).elim
   | some q => exact ⟨q, rfl⟩
  refine hK (rowV (some q) 1 (l.length + 1)) (.gro (some q) 1 (l.length + 1) (l.map I ++ [I y])) _ _ (.inr ⟨q, by simp, by simp⟩) ?_
  rw [List.set_append_right _ _ (by omega), Nat.sub_self, List.set_cons_zero] at H'
  exact Hp.dropL H'
theorem F77.star {N : Nat} {K0 : Kw Prop} {E0 E1 K : Ks Prop} {h0 h : T Blk} {nx : Pa} {L : List Ob} {x0 x2 x3 x4 x5 x8 x9 x10 x11 x12 x13 x17 x18 : AV} {bx p : Pa} {V : Int} {E : List (Int × Int)} {v k : Nat} (hN : 1000 < N) (hV : 0 ≤ V ∧ V ≤ 16) (hE : E.length ≤ 32) (hk : L[k]? = some (.arr bx [I V, encP E]))
  (H : Hp h0 h nx (.arr p [I (v : Int)] :: L))
  (hK : ∀ x X w8 w9 w17 w18 h' nx', StarSt x X (starL V E (v : Int) E.length) (v : Int) → Hp h0 h' nx' (X :: L) → K (F77.fr x0 (.ptr bx 0) x2 x3 x4 x5 (I (v : Int)) x w8 w9 x10 x11 x12 x13 (encP E) (I E.length) (I E.length) w17 w18) h' nx' = .ok True) :
  IR.run F77.b8 (CS Tryz.prog B) N (((fnO F77.res K0).blk 0 E0).blk 1 E1) K (F77.fr x0 (.ptr bx 0) x2 x3 x4 x5 (I (v : Int)) (.sl p 0 1 (some 1) 1) x8 x9 x10 x11 x12 x13 (encP E) (I E.length) (I 0) x17 x18) h nx = .ok True := by
 refine F77.L8 (fun m x7 x16 h' nx' => ∃ (j : Nat) (X : Ob), x16 = I j ∧ E.length - j = m ∧ j ≤ E.length ∧ StarSt x7 X (starL V E (v : Int) j) (v : Int) ∧ Hp h0 h' nx' (X :: L)) (m := E.length) (by omega) ⟨0, _, rfl, rfl, by omega, .inl ⟨by simp [starL], p, rfl, rfl⟩, H⟩ ?_
 rintro m z7 z8 z9 z16 z17 z18 h1 nx1 R ⟨j, X, rfl, rfl, hj, hs, H1⟩ hR
 simp only [sLss]
 by_cases hlt : j < E.length
 case neg =>
  simp only [show ¬ (j : Int) < (E.length : Int) by omega, decide_false, sCond_f]
  obtain rfl : j = E.length := by omega
  exact hK _ _ _ _ _ _ _ _ hs H1
 simp only [show (j : Int) < (E.length : Int) by omega, decide_true, sCond_t]
 have hss := starL_succ V E (v : Int) j
 have hsl := starL_len V E (v : Int) j
 rw [eAt_get hlt] at hss
 rw [sIxL rfl hlt, flat2_cons hlt, sLoadNP]
 refine H1.alloc fun b h2 nx2 H2 => ?_
 refine H2.storeN (k := 0) (n := 2) rfl rfl rfl fun h3 H3 => ?_
 rw [sAx0, H3.load (k := 0) (i := 0) rfl rfl]
 simp only [sEql]
 have app : (E[j].1 = (v : Int) ∨ E[j].2 = (v : Int)) → ∀ w17 w18, (sFaddr 0 (.ptr bx 0) fun v18 =>
   sLoad v18 h3 fun v19 =>
   sBin .add .int v19 (I (j : Int)) fun v20 =>
   sBslice 1 1 [(I 0)] [(0, 1, v20)] h3 nx2 fun v21 h22 n23 =>
   sApp 1 8 z7 v21 h22 n23 fun v24 h25 n26 =>
   sBin .add .int (I (j : Int)) (I 1) fun v27 =>
   R (F77.fr x0 (.ptr bx 0) x2 x3 x4 x5 (I (v : Int)) v24 (I (j : Int)) (.ptr b 0) x10 x11 x12 x13 (encP E) (I E.length) v27 w17 w18) h25 n26) = .ok True := by
  intro hc w17 w18
  rw [if_pos hc] at hss
  rw [sFx, H3.load (k := k + 2) (i := 0) hk rfl, sAdd (by omega)]
  refine H3.bslice (l := [I (V + (j : Int))]) rfl fun tb h4 nx4 H4 => ?_
  refine star_app (J := [_, _]) hs H4 (HasArr.rd (l := [I (V + (j : Int))]) (n := 1) (H4.own _ (List.mem_cons_self ..)) rfl) (by decide) (by omega) fun x' X' h5 nx5 hs' H5 => ?_
  rw [sAdd (by omega)]
  exact hR _ _ _ _ _ _ _ _ _ (by omega) ⟨j + 1, X', rfl, rfl, by omega, by rw [hss]; exact hs', H5⟩
 by_cases c1 : E[j].1 = (v : Int)
 ·simp only [c1, decide_true, sG_tf, sPick_t, sCond_t]
  exact app (.inl c1) _ _
 simp only [c1, decide_false, sG_ff]
 rw [sAx1, H3.load (k := 0) (i := 0 + 1) rfl rfl]
 simp only [sEql, sPick_f]
 by_cases c2 : E[j].2 = (v : Int)
 ·simp only [c2, decide_true, sCond_t]
  exact app (.inr c2) _ _
 simp only [c2, decide_false, sCond_f]
 rw [if_neg (by simp [c1, c2])] at hss
 rw [sAdd (by omega)]
 exact hR _ _ _ _ _ _ _ _ _ (by omega) ⟨j + 1, X, rfl, rfl, by omega, by rw [hss]; exact hs, H3.drop⟩
theorem vertexMagic116 {V : Int} {E : List (Int × Int)} (hj : ∀ B, JOk Tryz.prog B hookS) (hE : E.length ≤ 1000000) : Pure Tryz.prog B 77 [.agg [I V, encP E]] (· = if graphErr V E ≠ 0 then .tup [.agg [I 0, .nils], I (graphErr V E)] else .tup [sysV V E (vertL V E V.toNat), I 0]) := by
 refine pure_hp fun h nx K H0 hK => by_body tbl_ok dreg 10000 fun hf => ?_
 rw [F77.go]
 refine H0.box (l := [I V, encP E]) rfl fun bx h1 nx1 H1 => ?_
 refine H1.alloc fun r h2 nx2 H2 => ?_
 rw [H2.loadN (k := 1) (n := 2) rfl rfl]
 refine checkGraph133 hE _ _ _ _ ?_
 rintro _ rfl _
 simp only [sNeq]
 by_cases c : graphErr V E = 0
 case neg =>
  rw [if_pos c] at hK
  simp only [c, decide_false, Bool.not_false, sCond_t]
  rw [sBuild0]
  refine H2.storeN (l2 := [I 0, .nils]) (k := 0) rfl rfl rfl fun h4 H4 => ?_
  rw [H4.loadN (k := 0) (n := 2) rfl rfl]
  exact hK _ _ _ _ _ H4 (frz_tup2 (frz_agg (by simp [fixd])) (frz_fixd rfl)) rfl
 obtain ⟨g1, g2, g3⟩ := graph_ok c
 rw [if_neg (by simp [c])] at hK
 rw [c]
 simp only [decide_true, Bool.not_true, sCond_f, sFx]
 rw [H2.load (k := 1) (i := 0) rfl rfl]
 refine F77.L2 (fun m x5 x12 h' nx' => ∃ (i : Nat) (T : List TRow) (o : Option Pa), x12 = I i ∧ x5 = rowV o 1 T.length ∧ V.toNat - i = m ∧ i ≤ V.toNat ∧ T.map (·.2.2) = vertL V E i ∧ (∀ t ∈ T, RowOk t) ∧
  Hp h h' nx' (.gro o 1 T.length (T.map (·.1)) :: .arr r [I 0, .nils] :: .arr bx [I V, encP E] :: T.map (·.2.1))) (m := V.toNat) (by omega) ⟨0, [], none, rfl, rfl, rfl, by omega, rfl, by simp, H2.addGro 1⟩ ?_
 rintro m z5 z6 z7 z8 z9 z12 z13 z14 z15 z16 z17 z18 h4 nx4 R ⟨i, T, o, rfl, rfl, rfl, hi, hTl, hT, H4⟩ hR
 have hTn : T.length = i := by have := congrArg List.length hTl; simpa [vertL] using this
 simp only [sLss]
 by_cases hlt : i < V.toNat
 case neg =>
  simp only [show ¬ (i : Int) < V by omega, decide_false, sCond_f]
  obtain rfl : i = V.toNat := by omega
  rw [F77.k17, sFx, H4.load (k := 2) (i := 0) rfl rfl, sFx, H4.load (k := 2) (i := 0 + 1) rfl rfl]
  simp only [sLen_lst]
  rw [sAdd (by omega)]
  have H5 : Hp h h4 nx4 ((.gro o 1 T.length (T.map (·.1)) :: T.map (·.2.1)) ++ [.arr r [I 0, .nils], .arr bx [I V, encP E]]) := H4.perm ((List.perm_append_comm (l₁ := [_, _])).cons _)
  refine collectO hj (by rw [hTl]; exact (vert_lines c).1) hT H5 fun h5 H6 => ?_
  rw [hTl]
  refine H6.storeN (l2 := [I (V + (E.length : Int)), encT (vertL V E V.toNat)]) (k := 0) rfl rfl rfl fun h6 H7 => ?_
  rw [H7.loadN (k := 0) (n := 2) rfl rfl]
  exact hK _ _ _ _ _ H7 (frz_tup2 (frz_agg fixd_sys) (frz_fixd rfl)) rfl
 simp only [show (i : Int) < V by omega, decide_true, sCond_t]
 refine H4.bslice (l := [I (i : Int)]) rfl fun p h5 nx5 H5 => ?_
 simp only [sFx]
 rw [H5.load (k := 3) (i := 0 + 1) rfl rfl]
 simp only [sLen_lst]
 refine F77.star (k := 2) (by omega) (by omega) (by omega) rfl H5 fun x X w8 w9 w17 w18 h6 nx6 hs H6 => ?_
 have hro := hs.ok
 rw [F77.k15]
 refine H6.bslice (l := [x]) (fillCell hro.cells) fun tb h7 nx7 H7 => ?_
 refine H7.appN (k := 2) (o := o) (c := 1) (new := [x]) rfl (HasArr.rd (l := [x]) (n := 1) (H7.own _ (List.mem_cons_self ..)) rfl) rfl (by simp [show scal x = true from hro.scal]) (by decide) (by decide) (by omega) fun o' h8 nx8 _ H8 => ?_
 rw [F77.k16, sAdd (by omega)]
 refine hR _ _ _ _ _ _ _ _ _ _ _ _ _ _ _ (by omega) ⟨i + 1, T ++ [(x, X, starL V E (i : Int) E.length)], o', rfl, by rw [List.length_append]; rfl, rfl, by omega, ?_, ?_, ?_⟩
 ·rw [List.map_append, hTl, vertL_succ]; rfl
 ·intro t ht
  rcases List.mem_append.1 ht with q | q
  ·exact hT t q
  ·rw [List.mem_singleton.1 q]; exact hro
 ·rw [List.length_append, List.map_append, List.map_append]
  have H10 : Hp h h8 nx8 (X :: (.gro o' 1 (T.length + 1) (T.map (·.1) ++ [x]) :: .arr r [I 0, .nils] :: .arr bx [I V, encP E] :: T.map (·.2.1))) := H8.drop
  exact H10.perm (List.perm_append_singleton _ _).symm
theorem with117 {h0 h : T Blk} {nx p : Pa} {L : List Ob} {o : Option Pa} {T : List TRow} {t : TRow} {K : Kw Prop} (hT : ∀ q ∈ T, RowOk q ∧ q.2.2.length ≤ 1000) (hTl : T.length ≤ 1000) (ht : RowOk t) (hasc : t.2.2.Pairwise (· < ·)) (hne : t.2.2 ≠ []) (hl : t.2.2.length ≤ 1000) (hnew : t.2.2 ∉ T.map (·.2.2))
  (H : Hp h0 h nx (.gro o 1 T.length (T.map (·.1)) :: t.2.1 :: (T.map (·.2.1) ++ L)))
  (hK : ∀ o' t' h' nx', RowOk t' → t'.2.2 = t.2.2 → Hp h0 h' nx' (.gro o' 1 (T.length + 1) (T.map (·.1) ++ [t'.1]) :: t'.2.1 :: (T.map (·.2.1) ++ L)) → K (rowV o' 1 (T.length + 1)) h' nx' = .ok True) :
  (CS Tryz.prog B).fn 164 p [rowV o 1 T.length, t.1] h nx K = .ok True := by
 obtain ⟨x, X, l⟩ := t
 dsimp only at hasc hne hl hnew H hK ⊢
 have hpos := List.length_pos_iff.2 hne
 refine CS_fn_mono (p := .of 164) (K := K) (by_body tbl_ok dreg 10000 fun hf => ?_) fun _ _ _ _ q => q
 rw [F164.go]
 refine H.copyArrO (new := l.map I) (c := l.length) (fun e h1 n1 H1 => ht.rd H1 (by simp)) (by simp) (scal_I l) (by decide) (by omega) fun id cap h1 nx1 hcap H1 => ?_
 refine F164.L1 (fun m x4 h' nx' => ∃ i : Nat, x4 = I i ∧ 1 ≤ i ∧ l.length - i = m ∧ i ≤ l.length ∧ h' = h1 ∧ nx' = nx1) (m := l.length - 1) (by omega) ⟨1, rfl, by omega, rfl, by omega, rfl, rfl⟩ ?_
 rintro m z4 z5 z6 z7 h1 nx1 R ⟨i, rfl, hi1, rfl, hi, rfl, rfl⟩ hR
 simp only [sLen_sl, sLss]
 by_cases hlt : i < l.length
 ·simp only [show (i : Int) < (l.length : Int) by omega, decide_true, sCond_t]
  have g1 : (l.map I)[i]? = some (I l[i]) := by rw [List.getElem?_map, List.getElem?_eq_getElem hlt]; rfl
  have g0 : (l.map I)[i - 1]? = some (I l[i - 1]) := by rw [List.getElem?_map, List.getElem?_eq_getElem (show i - 1 < l.length by omega)]; rfl
  have hle : l[i - 1] < l[i] := List.pairwise_iff_getElem.1 hasc (i - 1) i (by omega) hlt (by omega)
  refine F164.L7 (fun m x5 h' nx' => x5 = I (i : Int) ∧ h' = h1 ∧ nx' = nx1) (m := 0) (by omega) ⟨rfl, rfl, rfl⟩ ?_
  rintro m y5 y7 h1 nx1 R2 ⟨rfl, rfl, rfl⟩ hR2
  simp only [sGtr, show (0 : Int) < (i : Int) by omega, decide_true, sG_tt]
  rw [sIx (i := i) rfl hlt, H1.load (k := 0) rfl g1, sSub (by omega), sIx (i := i - 1) (by omega) (by omega), H1.load (k := 0) rfl g0]
  simp only [sLss, sPick_t, show ¬ l[i] < l[i - 1] by omega, decide_false, sCond_f]
  rw [F164.k14, sAdd (by omega)]
  exact hR _ _ _ _ _ _ _ (by omega) ⟨i + 1, rfl, by omega, rfl, by omega, rfl, rfl⟩
 ·simp only [show ¬ (i : Int) < (l.length : Int) by omega, decide_false, sCond_f]
  rw [F164.k15]
  have hmem : ∀ q ∈ T, q.2.1 ∈ (.arr id (l.map I) :: .gro o 1 T.length (T.map (·.1)) :: X :: (T.map (·.2.1) ++ L)) := fun q hq => by
   have : q.2.1 ∈ T.map (·.2.1) := List.mem_map_of_mem hq
   simp only [List.mem_cons, List.mem_append]
   exact .inr (.inr (.inr (.inl this)))
  have f1 := tabFrz H1.base (k := 1) rfl fun q hq => ⟨(hT q hq).1, hmem q hq⟩
  have f2 := H1.base.frzArr (k := 0) (e := 1) (n := l.length) (cap := cap) rfl hcap (by simp) (fixd_Is l)
  refine CS_plain (args' := [encT (T.map (·.2.2)), encI l]) (Q := (· = .bool (decide (l ∈ T.map (·.2.2))))) (.cons f1 (.cons f2 .nil)) ?_ (fun B => hasLine84 (by simp; omega) fun q hq => by obtain ⟨t, ht', rfl⟩ := List.mem_map.1 hq; have := (hT t ht').2; omega) (fun v hv => by rw [hv]; exact .bool _) fun v hv _ => ?_
  ·simp only [nns, fixd.nn (fixd_encI l), fixd.nn (fixd_encT _), Bool.and_self]
  subst hv
  rw [decide_eq_false hnew, sCond_f]
  refine H1.bslice (l := [.sl id 0 l.length cap 1]) rfl fun tb h2 nx2 H2 => ?_
  refine H2.appN (k := 2) (o := o) (c := 1) (new := [.sl id 0 l.length cap 1]) rfl (HasArr.rd (l := [.sl id 0 l.length cap 1]) (n := 1) (H2.own _ (List.mem_cons_self ..)) rfl) rfl rfl (by decide) (by decide) (by omega) fun o' h3 nx3 _ H3 => ?_
  refine hK o' (.sl id 0 l.length cap 1, .arr id (l.map I), l) h3 nx3 (.inl ⟨id, cap, hcap, rfl, rfl⟩) rfl ?_
  have H4 : Hp h0 h3 nx3 (.arr id (l.map I) :: .gro o' 1 (T.length + 1) (T.map (·.1) ++ [.sl id 0 l.length cap 1]) :: X :: (T.map (·.2.1) ++ L)) := H3.drop
  exact ((H4.perm (List.Perm.swap _ _ _)).perm (((List.Perm.swap _ _ _).cons _).trans (List.Perm.swap _ _ _))).drop
theorem sBuild2s {x : Int} {v : AV} {K : AV → OP} (h : v.cells = some [v]) : sBuild [(I 0), .nils] [(0, 1, I x), (1, 1, v)] K = K (.agg [I x, v]) := by
 have e : fillA [(I 0), AV.nils] [(0, 1, I x), (1, 1, v)] = some [I x, v] := by simp only [fillA, h]; rfl
 show (match fillA [(I 0), AV.nils] [(0, 1, I x), (1, 1, v)] with
  | some l => K (.agg l)
  | none => Out.no 2) = _
 rw [e]
theorem frz_sys {h0 h : T Blk} {x : Int} {v : AV} {ls : List (List Int)} (hF : FrzN h0 h v (encT ls)) : FrzN h0 h (.agg [I x, v]) (.agg [I x, encT ls]) :=
 Frz.agg _ _ rfl rfl fun j v v' h1 h2 => match j, h1, h2 with
  | 0, h1, h2 => by cases h1; cases h2; exact frz_fixd rfl
  | 1, h1, h2 => by cases h1; cases h2; exact hF
  | j + 2, h1, h2 => by simp at h1
theorem refEdge69 {V : Int} {E : List (Int × Int)} (hg : graphErr V E = 0) : Pure Tryz.prog B 80 [.agg [I V, encP E]] (· = if E.length = 0 then .tup [.agg [I 0, .nils], I 12] else .tup [sysV V E (edgeL V E E.length), I 0]) := by
 obtain ⟨g1, g2, g3⟩ := graph_ok hg
 obtain ⟨lo, lr⟩ := edge_lines hg
 refine pure_hp fun h nx K H0 hK => by_body tbl_ok dreg 10000 fun hf => ?_
 rw [F80.go]
 refine H0.box (l := [I V, encP E]) rfl fun bx h1 nx1 H1 => ?_
 refine H1.alloc fun r h2 nx2 H2 => ?_
 simp only [sFx]
 rw [H2.load (k := 1) (i := 0 + 1) rfl rfl]
 simp only [sLen_lst, sEql]
 by_cases c : E.length = 0
 ·rw [if_pos c] at hK
  simp only [show (E.length : Int) = 0 by omega, decide_true, sCond_t]
  rw [sBuild0]
  refine H2.storeN (l2 := [I 0, .nils]) (k := 0) rfl rfl rfl fun h4 H4 => ?_
  rw [H4.loadN (k := 0) (n := 2) rfl rfl]
  exact hK _ _ _ _ _ H4 (frz_tup2 (frz_agg (by simp [fixd])) (frz_fixd rfl)) rfl
 rw [if_neg c] at hK
 simp only [show ¬ (E.length : Int) = 0 by omega, decide_false, sCond_f]
 refine F80.L2 (fun m x4 x5 h' nx' => ∃ (i : Nat) (T : List TRow) (o : Option Pa), x5 = I i ∧ x4 = rowV o 1 T.length ∧ E.length - i = m ∧ i ≤ E.length ∧ T.map (·.2.2) = edgeL V E i ∧ (∀ t ∈ T, RowOk t) ∧
  Hp h h' nx' (.gro o 1 T.length (T.map (·.1)) :: (T.map (·.2.1) ++ [Ob.arr r [I 0, .nils], Ob.arr bx [I V, encP E]]))) (m := E.length) (by omega) ⟨0, [], none, rfl, rfl, rfl, by omega, rfl, by simp, H2.addGro 1⟩ ?_
 rintro m z4 z5 z7 h4 nx4 R ⟨i, T, o, rfl, rfl, rfl, hi, hTl, hT, H4⟩ hR
 have hTn : T.length = i := by have := congrArg List.length hTl; simpa [edgeL] using this
 have kb : (Ob.gro o 1 T.length (T.map (·.1)) :: (T.map (·.2.1) ++ [Ob.arr r [I 0, .nils], Ob.arr bx [I V, encP E]]))[T.length + 2]? = some (.arr bx [I V, encP E]) := by
  rw [List.getElem?_cons_succ, List.getElem?_append_right (by simp), List.length_map, show T.length + 1 - T.length = 1 by omega]; rfl
 simp only [sFx]
 rw [H4.load (k := T.length + 2) (i := 0 + 1) kb rfl]
 simp only [sLen_lst, sLss]
 by_cases hlt : i < E.length
 case neg =>
  simp only [show ¬ (i : Int) < (E.length : Int) by omega, decide_false, sCond_f]
  obtain rfl : i = E.length := by omega
  rw [F80.k9]
  simp only [sFx]
  rw [H4.load (k := T.length + 2) (i := 0) kb rfl, H4.load (k := T.length + 2) (i := 0 + 1) kb rfl]
  simp only [sLen_lst]
  rw [sAdd (by omega), sBuild2s (rowV_cells _ _ _)]
  have kr : (Ob.gro o 1 T.length (T.map (·.1)) :: (T.map (·.2.1) ++ [Ob.arr r [I 0, .nils], Ob.arr bx [I V, encP E]]))[T.length + 1]? = some (.arr r [I 0, .nils]) := by
   rw [List.getElem?_cons_succ, List.getElem?_append_right (by simp), List.length_map, Nat.sub_self]; rfl
  refine H4.storeN (l2 := [I (V + (E.length : Int)), rowV o 1 T.length]) (k := T.length + 1) kr rfl rfl fun h6 H6 => ?_
  rw [H6.loadN (k := T.length + 1) (n := 2) (List.getElem?_set_self (by simp)) rfl]
  have hF : FrzN h h6 (rowV o 1 T.length) (encT (edgeL V E E.length)) := by
   rw [← hTl]
   refine tabFrz H6 (k := 0) (by simp) fun t ht => ⟨hT t ht, ?_⟩
   have : t.2.1 ∈ T.map (·.2.1) := List.mem_map_of_mem ht
   rw [List.set_cons_succ, List.set_append_right _ _ (by simp)]
   exact List.mem_cons_of_mem _ (List.mem_append_left _ this)
  refine hK _ _ _ _ _ H6 (frz_tup2 (frz_sys hF) (frz_fixd rfl)) rfl
 simp only [show (i : Int) < (E.length : Int) by omega, decide_true, sCond_t]
 obtain ⟨⟨a1, a2, a3, a4⟩, a5⟩ := g3 _ (List.getElem_mem hlt)
 rw [H4.load (k := T.length + 2) (i := 0 + 1) kb rfl, sIxL rfl hlt, flat2_cons hlt, sAxF0, sLoad_fp1, H4.load (k := T.length + 2) (i := 0 + 1) kb rfl, sIxL rfl hlt, flat2_cons hlt, sAxF1, sLoad_fp1, H4.load (k := T.length + 2) (i := 0) kb rfl, sAdd (by omega)]
 refine H4.bslice (l := [I E[i].1, I E[i].2, I (V + (i : Int))]) rfl fun p h7 nx7 H7 => ?_
 simp only [sSame_refl]
 have hin : [E[i].1, E[i].2, V + (i : Int)] ∈ edgeL V E E.length := by
  rw [← eAt_get hlt]; exact List.mem_map.2 ⟨i, List.mem_range.2 hlt, rfl⟩
 obtain ⟨b1, b2, b3, b4⟩ := lo.asc _ hin
 refine with117 (t := (.sl p 0 3 (some 3) 1, .arr p [I E[i].1, I E[i].2, I (V + (i : Int))], [E[i].1, E[i].2, V + (i : Int)])) (fun q hq => ⟨hT q hq, ?_⟩) (by omega) (.inl ⟨p, some 3, Nat.le_refl _, rfl, rfl⟩) b2 b1 b4 ?_ (H7.perm (List.Perm.swap _ _ _)) fun o' t' h8 nx8 ht' hl' H8 => ?_
 ·have : q.2.2 ∈ T.map (·.2.2) := List.mem_map_of_mem hq
  rw [hTl] at this
  obtain ⟨j, hj, e⟩ := List.mem_map.1 this
  rw [← e]; simp
 ·rw [hTl]
  intro hm
  obtain ⟨j, hj, e⟩ := List.mem_map.1 hm
  have := List.mem_range.1 hj
  simp only [List.cons.injEq, and_true] at e
  omega
 rw [sAdd (by omega)]
 refine hR _ _ _ _ _ _ (by omega) ⟨i + 1, T ++ [t'], o', rfl, by rw [List.length_append]; rfl, rfl, by omega, ?_, ?_, ?_⟩
 ·rw [List.map_append, hTl, edgeL_succ, eAt_get hlt]
  simp [hl']
 ·intro t ht
  rcases List.mem_append.1 ht with q | q
  ·exact hT t q
  ·rw [List.mem_singleton.1 q]; exact ht'
 ·rw [List.length_append, List.map_append, List.map_append, List.append_assoc]
  exact H8.perm ((List.perm_middle (l₁ := T.map (·.2.1))).symm.cons _)
end Go.Ev
namespace Go.Ev
open Go Go.Proofs
variable {B : Nat}
theorem refVert70 {V : Int} {E : List (Int × Int)} (hg : graphErr V E = 0) : Pure Tryz.prog B 81 [.agg [I V, encP E]] (· = sysV V E (vertL V E V.toNat)) := by
 obtain ⟨g1, g2, g3⟩ := graph_ok hg
 obtain ⟨lo, lr⟩ := vert_lines hg
 refine pure_hp fun h nx K H0 hK => by_body tbl_ok dreg 10000 fun hf => ?_
 rw [F81.go]
 refine H0.box (l := [I V, encP E]) rfl fun bx h1 nx1 H1 => ?_
 refine H1.alloc fun r h2 nx2 H2 => ?_
 refine F81.L1 (fun m x3 x4 h' nx' => ∃ (i : Nat) (T : List TRow) (o : Option Pa), x4 = I i ∧ x3 = rowV o 1 T.length ∧ V.toNat - i = m ∧ i ≤ V.toNat ∧ T.map (·.2.2) = vertL V E i ∧ (∀ t ∈ T, RowOk t) ∧
  Hp h h' nx' (.gro o 1 T.length (T.map (·.1)) :: (T.map (·.2.1) ++ [Ob.arr r [I 0, .nils], Ob.arr bx [I V, encP E]]))) (m := V.toNat) (by omega) ⟨0, [], none, rfl, rfl, rfl, by omega, rfl, by simp, H2.addGro 1⟩ ?_
 rintro m z3 z4 z5 z6 z7 z8 z9 h4 nx4 R ⟨i, T, o, rfl, rfl, rfl, hi, hTl, hT, H4⟩ hR
 have hTn : T.length = i := by have := congrArg List.length hTl; simpa [vertL] using this
 have kb : (Ob.gro o 1 T.length (T.map (·.1)) :: (T.map (·.2.1) ++ [Ob.arr r [I 0, .nils], Ob.arr bx [I V, encP E]]))[T.length + 2]? = some (.arr bx [I V, encP E]) := by
  rw [List.getElem?_cons_succ, List.getElem?_append_right (by simp), List.length_map, show T.length + 1 - T.length = 1 by omega]; rfl
 simp only [sFx]
 rw [H4.load (k := T.length + 2) (i := 0) kb rfl]
 simp only [sLss]
 by_cases hlt : i < V.toNat
 case neg =>
  simp only [show ¬ (i : Int) < V by omega, decide_false, sCond_f]
  obtain rfl : i = V.toNat := by omega
  rw [F81.k16]
  simp only [sFx]
  rw [H4.load (k := T.length + 2) (i := 0) kb rfl, H4.load (k := T.length + 2) (i := 0 + 1) kb rfl]
  simp only [sLen_lst]
  rw [sAdd (by omega), sBuild2s (rowV_cells _ _ _)]
  have kr : (Ob.gro o 1 T.length (T.map (·.1)) :: (T.map (·.2.1) ++ [Ob.arr r [I 0, .nils], Ob.arr bx [I V, encP E]]))[T.length + 1]? = some (.arr r [I 0, .nils]) := by
   rw [List.getElem?_cons_succ, List.getElem?_append_right (by simp), List.length_map, Nat.sub_self]; rfl
  refine H4.storeN (l2 := [I (V + (E.length : Int)), rowV o 1 T.length]) (k := T.length + 1) kr rfl rfl fun h6 H6 => ?_
  rw [H6.loadN (k := T.length + 1) (n := 2) (List.getElem?_set_self (by simp)) rfl]
  have hF : FrzN h h6 (rowV o 1 T.length) (encT (vertL V E V.toNat)) := by
   rw [← hTl]
   refine tabFrz H6 (k := 0) (by simp) fun t ht => ⟨hT t ht, ?_⟩
   have : t.2.1 ∈ T.map (·.2.1) := List.mem_map_of_mem ht
   rw [List.set_cons_succ, List.set_append_right _ _ (by simp)]
   exact List.mem_cons_of_mem _ (List.mem_append_left _ this)
  refine hK _ _ _ _ _ H6 (frz_sys hF) rfl
 simp only [show (i : Int) < V by omega, decide_true, sCond_t]
 refine H4.bslice (l := [I (i : Int)]) rfl fun p h5 nx5 H5 => ?_
 have star : ∀ {K : Ks Prop} {E0 E1 : Ks Prop} {w7 w8 w9}, (∀ x X w8 w9 h' nx', StarSt x X (starL V E (i : Int) E.length) (i : Int) → Hp h h' nx' (X :: Ob.gro o 1 T.length (T.map (·.1)) :: (T.map (·.2.1) ++ [Ob.arr r [I 0, .nils], Ob.arr bx [I V, encP E]])) → K (F81.fr (.agg [I V, encP E]) (.ptr bx 0) (.ptr r 0) (rowV o 1 T.length) (I (i : Int)) x (I (E.length : Int)) w7 w8 w9) h' nx' = .ok True) →
   IR.run F81.b7 (CS Tryz.prog B) 10000 (((fnO F81.res ‹Kw Prop›).blk 0 E0).blk 1 E1) K (F81.fr (.agg [I V, encP E]) (.ptr bx 0) (.ptr r 0) (rowV o 1 T.length) (I (i : Int)) (.sl p 0 1 (some 1) 1) (I 0) w7 w8 w9) h5 nx5 = .ok True := by
  intro K E0 E1 w7 w8 w9 hK'
  refine F81.L7 (fun m x5 x6 h' nx' => ∃ (j : Nat) (X : Ob), x6 = I j ∧ E.length - j = m ∧ j ≤ E.length ∧ StarSt x5 X (starL V E (i : Int) j) (i : Int) ∧ Hp h h' nx' (X :: Ob.gro o 1 T.length (T.map (·.1)) :: (T.map (·.2.1) ++ [Ob.arr r [I 0, .nils], Ob.arr bx [I V, encP E]]))) (m := E.length) (by omega) ⟨0, _, rfl, rfl, by omega, .inl ⟨by simp [starL], p, rfl, rfl⟩, H5⟩ ?_
  rintro m y5 y6 y8 y9 h6 nx6 R2 ⟨j, X, rfl, rfl, hj, hs, H6⟩ hR2
  have kb6 : (X :: Ob.gro o 1 T.length (T.map (·.1)) :: (T.map (·.2.1) ++ [Ob.arr r [I 0, .nils], Ob.arr bx [I V, encP E]]))[T.length + 3]? = some (.arr bx [I V, encP E]) := kb
  simp only [sFx]
  rw [H6.load (k := T.length + 3) (i := 0 + 1) kb6 rfl]
  simp only [sLen_lst, sLss]
  by_cases hjt : j < E.length
  case neg =>
   simp only [show ¬ (j : Int) < (E.length : Int) by omega, decide_false, sCond_f]
   obtain rfl : j = E.length := by omega
   exact hK' _ _ _ _ _ _ hs H6
  simp only [show (j : Int) < (E.length : Int) by omega, decide_true, sCond_t]
  have hss := starL_succ V E (i : Int) j
  have hsl := starL_len V E (i : Int) j
  rw [eAt_get hjt] at hss
  have app : (E[j].1 = (i : Int) ∨ E[j].2 = (i : Int)) → ∀ w8 w9, (sLoad (.ptr bx 0) h6 fun v21 =>
    sBin .add .int v21 (I (j : Int)) fun v22 =>
    sBslice 1 1 [(I 0)] [(0, 1, v22)] h6 nx6 fun v23 h24 n25 =>
    sApp 1 8 y5 v23 h24 n25 fun v26 h27 n28 =>
    sBin .add .int (I (j : Int)) (I 1) fun v29 =>
    R2 (F81.fr (.agg [I V, encP E]) (.ptr bx 0) (.ptr r 0) (rowV o 1 T.length) (I (i : Int)) v26 v29 w7 w8 w9) h27 n28) = .ok True := by
   intro hc w8 w9
   rw [if_pos hc] at hss
   rw [H6.load (k := T.length + 3) (i := 0) kb6 rfl, sAdd (by omega)]
   refine H6.bslice (l := [I (V + (j : Int))]) rfl fun tb h7 nx7 H7 => ?_
   refine star_app (J := [_]) hs H7 (HasArr.rd (l := [I (V + (j : Int))]) (n := 1) (H7.own _ (List.mem_cons_self ..)) rfl) (by decide) (by omega) fun x' X' h8 nx8 hs' H8 => ?_
   rw [sAdd (by omega)]
   exact hR2 _ _ _ _ _ _ _ (by omega) ⟨j + 1, X', rfl, rfl, by omega, by rw [hss]; exact hs', H8⟩
  rw [H6.load (k := T.length + 3) (i := 0 + 1) kb6 rfl, sIxL rfl hjt, flat2_cons hjt, sAxF0, sLoad_fp1]
  simp only [sEql]
  by_cases c1 : E[j].1 = (i : Int)
  ·simp only [c1, decide_true, sG_tf, sPick_t, sCond_t]
   exact app (.inl c1) _ _
  simp only [c1, decide_false, sG_ff]
  rw [H6.load (k := T.length + 3) (i := 0 + 1) kb6 rfl, sIxL rfl hjt, flat2_cons hjt, sAxF1, sLoad_fp1]
  simp only [sEql, sPick_f]
  by_cases c2 : E[j].2 = (i : Int)
  ·simp only [c2, decide_true, sCond_t]
   exact app (.inr c2) _ _
  simp only [c2, decide_false, sCond_f]
  rw [if_neg (by simp [c1, c2])] at hss
  rw [sAdd (by omega)]
  exact hR2 _ _ _ _ _ _ _ (by omega) ⟨j + 1, X, rfl, rfl, by omega, by rw [hss]; exact hs, H6⟩
 refine star fun x X w8 w9 h6 nx6 hs H6 => ?_
 rw [F81.k14]
 have hin : starL V E (i : Int) E.length ∈ vertL V E V.toNat := List.mem_map.2 ⟨i, List.mem_range.2 hlt, rfl⟩
 obtain ⟨b1, b2, b3, b4⟩ := lo.asc _ hin
 refine with117 (t := (x, X, starL V E (i : Int) E.length)) (fun q hq => ⟨hT q hq, ?_⟩) (by omega) hs.ok b2 b1 b4 ?_ (H6.perm (List.Perm.swap _ _ _)) fun o' t' h8 nx8 ht' hl' H8 => ?_
 ·have : q.2.2 ∈ T.map (·.2.2) := List.mem_map_of_mem hq
  rw [hTl] at this
  obtain ⟨j, hj, e⟩ := List.mem_map.1 this
  rw [← e]
  have := starL_len V E (j : Int) E.length
  omega
 ·rw [hTl]
  intro hm
  obtain ⟨j, hj, e⟩ := List.mem_map.1 hm
  have := List.mem_range.1 hj
  simp only [starL, List.cons.injEq] at e
  omega
 rw [F81.k15, sAdd (by omega)]
 refine hR _ _ _ _ _ _ _ _ _ _ (by omega) ⟨i + 1, T ++ [t'], o', rfl, by rw [List.length_append]; rfl, rfl, by omega, ?_, ?_, ?_⟩
 ·rw [List.map_append, hTl, vertL_succ]
  simp [hl']
 ·intro t ht
  rcases List.mem_append.1 ht with q | q
  ·exact hT t q
  ·rw [List.mem_singleton.1 q]; exact ht'
 ·rw [List.length_append, List.map_append, List.map_append, List.append_assoc]
  exact H8.perm ((List.perm_middle (l₁ := T.map (·.2.1))).symm.cons _)
end Go.Ev
namespace Go.Ev
open Go Go.Proofs
variable {B : Nat}
set_option maxRecDepth 100000
def labErr (V : Int) (E : List (Int × Int)) (ls : List Int) : Int := if graphErr V E ≠ 0 then graphErr V E else if ls.length ≠ E.length then 2 else if srt ls = upTo ls.length then 0 else 14
theorem lab168 {V : Int} {E : List (Int × Int)} {ls : List Int} (hj : ∀ B, JOk Tryz.prog B hookS) (hE : E.length ≤ 1000000) (hl : ls.length ≤ 100000) : Pure Tryz.prog B 168 [.agg [I V, encP E], encI ls] (· = I (labErr V E ls)) := by
 refine pure_hp fun h nx K H0 hK => by_body tbl_ok dreg 1000 fun hf => ?_
 rw [F168.go]
 refine H0.box (l := [I V, encP E]) rfl fun bx h1 nx1 H1 => ?_
 rw [H1.loadN (k := 0) (n := 2) rfl rfl]
 simp only [sLen_lst, sFx]
 rw [H1.load (k := 0) (i := 0 + 1) rfl rfl]
 simp only [sLen_lst, sNeq]
 refine checkGraph133 hE _ _ _ _ ?_
 rintro _ rfl _
 simp only [sSame_refl]
 rw [H1.load (k := 0) (i := 0 + 1) rfl rfl]
 simp only [sSame_refl]
 refine when123 _ _ _ _ _ _ ?_
 rintro _ rfl _
 refine isNormal136 hj hl _ _ _ _ ?_
 rintro _ rfl _
 simp only [sNot_b]
 refine when123 _ _ _ _ _ _ ?_
 rintro _ rfl _
 refine H1.bslice (l := [I (graphErr V E), I (if (!decide ((ls.length : Int) = (E.length : Int))) = true then 2 else 0), I (if (!decide (srt ls = upTo ls.length)) = true then 14 else 0)]) rfl fun tb h3 nx3 H3 => ?_
 refine own_plain (l := [graphErr V E, if (!decide ((ls.length : Int) = (E.length : Int))) = true then 2 else 0, if (!decide (srt ls = upTo ls.length)) = true then 14 else 0]) H3 (k := 0) rfl (fun B => first121 (by simp)) (fun v hv => by rw [hv]; exact .int _ _) ?_
 rintro _ rfl
 refine hK _ _ _ _ _ H3 (frz_fixd rfl) ?_
 congr 1
 simp only [firstE, labErr]
 by_cases c1 : graphErr V E = 0
 ·have e : ((ls.length : Int) = (E.length : Int)) ↔ ls.length = E.length := by omega
  by_cases c2 : ls.length = E.length <;> by_cases c3 : srt ls = upTo ls.length <;> simp [c1, c2, c3, e]
 ·simp [c1]
theorem lab_ok {V : Int} {E : List (Int × Int)} {ls : List Int} (h : labErr V E ls = 0) : graphErr V E = 0 ∧ ls.length = E.length ∧ srt ls = upTo ls.length := by
 unfold labErr at h
 by_cases c1 : graphErr V E = 0
 ·rw [if_neg (by simp [c1])] at h
  by_cases c2 : ls.length = E.length
  ·rw [if_neg (by simp [c2])] at h
   by_cases c3 : srt ls = upTo ls.length
   ·exact ⟨c1, c2, c3⟩
   ·rw [if_neg c3] at h; omega
  ·rw [if_pos c2] at h; omega
 ·rw [if_pos c1] at h; exact absurd h c1
theorem lab_sm {ls : List Int} (h : srt ls = upTo ls.length) (hl : ls.length ≤ 1000) : ∀ x ∈ ls, 0 ≤ x ∧ x ≤ ((1000 : Nat) : Int) := fun x hx => by
 rw [← (srt_perm ls).mem_iff, h, mem_upTo] at hx; omega
theorem vsums169 {V : Nat} {E : List (Int × Int)} {ls : List Int} (hV : V ≤ 1000) (hE : ∀ e ∈ E, (0 ≤ e.1 ∧ e.1 < (V : Int) ∧ 0 ≤ e.2 ∧ e.2 < (V : Int)) ∧ e.1 < e.2) (hle : ls.length = E.length) (hl : ls.length ≤ 1000) (hs : ∀ x ∈ ls, 0 ≤ x ∧ x ≤ ((1000 : Nat) : Int)) : Pure Tryz.prog B 169 [.agg [I V, encP E], encI ls] (· = encI (vsF V E ls)) := by
 refine pure_hp fun h nx K H0 hK => by_body tbl_ok dreg 10000 fun hf => ?_
 rw [F169.go]
 refine H0.box (l := [I V, encP E]) rfl fun bx h1 nx1 H1 => ?_
 rw [sFx, H1.load (k := 0) (i := 0) rfl rfl]
 refine H1.mk1 V rfl rfl (by omega) (by decide) fun o h2 nx2 H2 => ?_
 have hz : List.replicate V (I 0) = (vsF V E (ls.take 0)).map I := by
  cases E <;> simp [vsF, vsG]
 rw [hz] at H2
 rw [sFx, H2.load (k := 1) (i := 0 + 1) rfl rfl]
 simp only [sLen_lst]
 refine F169.L1 (fun m x9 h' nx' => ∃ i : Nat, x9 = I i ∧ E.length - i = m ∧ i ≤ E.length ∧ Hp h h' nx' [.arr o ((vsF V E (ls.take i)).map I), .arr bx [I V, encP E]]) (m := E.length) (by omega) ⟨0, rfl, rfl, by omega, H2⟩ ?_
 rintro m z5 z6 z9 z10 h3 nx3 R ⟨i, rfl, rfl, hi, H3⟩ hR
 simp only [sLss]
 by_cases hlt : i < E.length
 case neg =>
  simp only [show ¬ (i : Int) < (E.length : Int) by omega, decide_false, sCond_f]
  rw [F169.k8]
  rw [List.take_of_length_le (by omega)] at H3
  refine hK _ _ _ _ _ H3 (H3.frzArr (k := 0) rfl (Nat.le_refl _) (by simp [vsF_len]) (fun v hv => by obtain ⟨x, _, rfl⟩ := List.mem_map.1 hv; rfl)) ?_
  show AV.lst 1 _ _ = AV.lst 1 _ _
  rw [vsF_len]
 simp only [show (i : Int) < (E.length : Int) by omega, decide_true, sCond_t]
 have hil : i < ls.length := by omega
 have hx : ls[i]? = some ls[i] := List.getElem?_eq_getElem hil
 obtain ⟨⟨e1, e2, e3, e4⟩, e5⟩ := hE _ (List.getElem_mem hlt)
 have hxr := hs _ (List.getElem_mem hil)
 have hlen := vsF_len V E (ls.take i)
 have hsm := vsF_sm (V := V) (X := 1000) (E := E) (ls := ls.take i) fun x hx => hs x (List.mem_of_mem_take hx)
 have hsn : vsF V E (ls.take (i + 1)) = vs1 (vsF V E (ls.take i)) E[i] ls[i] := by
  rw [List.take_add_one, hx, Option.toList_some, vsF_snoc (e := E[i])]
  rw [List.length_take, Nat.min_eq_left (by omega)]; exact List.getElem?_eq_getElem hlt
 have hsM : (ls.take i).length * (2 * 1000) ≤ 2000000 := by rw [List.length_take]; omega
 replace hsm := Sm.mono hsm hsM
 generalize vsF V E (ls.take i) = s at *
 have g1 := hsm.get (E[i].1).toNat
 have g2 := (hsm.add (v := E[i].1) hxr).get (E[i].2).toNat
 have hv1 : (s.map I)[(E[i].1).toNat]? = some (I (s.getD (E[i].1).toNat 0)) := by rw [List.getElem?_map, List.getD_eq_getElem?_getD, List.getElem?_eq_getElem (by omega)]; rfl
 rw [sIxL rfl hlt, flat2_cons hlt, sLoadNP]
 refine H3.alloc fun b h5 nx5 H5 => ?_
 refine H5.storeN (k := 0) (n := 2) rfl rfl rfl fun h6 H6 => ?_
 rw [sAx0, H6.load (k := 0) (i := 0) rfl rfl, sIx (i := (E[i].1).toNat) (by omega) (by omega), H6.load (k := 1) rfl hv1, sIxL rfl hil, ldL (getI hx), sAdd (by omega), sIx (i := (E[i].1).toNat) (by omega) (by omega)]
 refine H6.store (k := 1) rfl (by simp; omega) rfl fun h7 H7 => ?_
 have es : (s.map I).set (E[i].1).toNat (I (s.getD (E[i].1).toNat 0 + ls[i])) = (addVx s E[i].1 ls[i]).map I := by rw [addVx, List.map_set]
 have H7 : Hp h h7 nx5 [.arr b [I E[i].1, I E[i].2], .arr o ((addVx s E[i].1 ls[i]).map I), .arr bx [I V, encP E]] := H7.cast (by rw [← es]; rfl)
 have hl2 := addVx_len s E[i].1 ls[i]
 have hv2 : ((addVx s E[i].1 ls[i]).map I)[(E[i].2).toNat]? = some (I ((addVx s E[i].1 ls[i]).getD (E[i].2).toNat 0)) := by rw [List.getElem?_map, List.getD_eq_getElem?_getD, List.getElem?_eq_getElem (by omega)]; rfl
 rw [sAx1, H7.load (k := 0) (i := 0 + 1) rfl rfl, sIx (i := (E[i].2).toNat) (by omega) (by omega), H7.load (k := 1) rfl hv2, sIxL rfl hil, ldL (getI hx), sAdd (by omega), sIx (i := (E[i].2).toNat) (by omega) (by omega)]
 refine H7.store (k := 1) rfl (by simp; omega) rfl fun h8 H8 => ?_
 rw [sAdd (by omega)]
 refine hR _ _ _ _ _ _ _ (by omega) ⟨i + 1, rfl, rfl, by omega, H8.drop.cast ?_⟩
 rw [hsn, vs1]
 show Ob.arr o (((addVx s E[i].1 ls[i]).map I).set (E[i].2).toNat (I ((addVx s E[i].1 ls[i]).getD (E[i].2).toNat 0 + ls[i]))) :: _ = _
 rw [← List.map_set]; rfl
theorem vsums78 {V : Int} {E : List (Int × Int)} {ls : List Int} (hj : ∀ B, JOk Tryz.prog B hookS) (hE : E.length ≤ 1000000) (hl : ls.length ≤ 100000) : Pure Tryz.prog B 78 [.agg [I V, encP E], encI ls] (· = if labErr V E ls ≠ 0 then .tup [.nils, I (labErr V E ls)] else .tup [encI (vsF V.toNat E ls), I 0]) := by
 refine pure_hp fun h nx K H0 hK => by_body tbl_ok dreg 1000 fun hf => ?_
 rw [F78.go]
 refine H0.box (l := [I V, encP E]) rfl fun bx h1 nx1 H1 => ?_
 rw [H1.loadN (k := 0) (n := 2) rfl rfl]
 refine lab168 hj hE hl _ _ _ _ ?_
 rintro _ rfl _
 simp only [sNeq]
 by_cases c : labErr V E ls = 0
 case neg =>
  simp only [c, decide_false, Bool.not_false, sCond_t]
  exact hK _ _ _ _ _ H1 (frz_tup2 (frz_fixd rfl) (frz_fixd rfl)) (if_pos c).symm
 simp only [c, decide_true, Bool.not_true, sCond_f]
 obtain ⟨c1, c2, c3⟩ := lab_ok c
 obtain ⟨g1, g2, g3⟩ := graph_ok c1
 have hsm := lab_sm c3 (by omega)
 rw [H1.loadN (k := 0) (n := 2) rfl rfl]
 rw [if_neg (by simp [c])] at hK
 obtain ⟨n, rfl⟩ : ∃ n : Nat, V = (n : Int) := ⟨V.toNat, by omega⟩
 rw [Int.toNat_natCast] at hK
 refine vsums169 (by omega) g3 c2 (by omega) hsm _ _ _ _ ?_
 rintro _ rfl _
 exact hK _ _ _ _ _ H1 (frz_tup2 (frz_fixd (fixd_encI _)) (frz_fixd rfl)) rfl
theorem srt_pw (l : List Int) : (srt l).Pairwise (· ≤ ·) :=
 (List.pairwise_mergeSort (le := fun x y : Int => decide (x ≤ y)) (by intro a b c; simp; omega) (by intro a b; simp; omega) l).imp (by intro a b h; simpa using h)
theorem anti79 {V : Int} {E : List (Int × Int)} {ls : List Int} (hj : ∀ B, JOk Tryz.prog B hookS) (hE : E.length ≤ 1000000) (hl : ls.length ≤ 100000) : Pure Tryz.prog B 79 [.agg [I V, encP E], encI ls] (· = if labErr V E ls ≠ 0 then .tup [.bool false, I (labErr V E ls)] else .tup [.bool (decide (vsF V.toNat E ls).Nodup), I 0]) := by
 refine pure_hp fun h nx K H0 hK => by_body tbl_ok dreg 1000 fun hf => ?_
 rw [F79.go]
 refine H0.box (l := [I V, encP E]) rfl fun bx h1 nx1 H1 => ?_
 rw [H1.loadN (k := 0) (n := 2) rfl rfl]
 refine lab168 hj hE hl _ _ _ _ ?_
 rintro _ rfl _
 simp only [sNeq]
 by_cases c : labErr V E ls = 0
 case neg =>
  simp only [c, decide_false, Bool.not_false, sCond_t]
  exact hK _ _ _ _ _ H1 (frz_tup2 (frz_fixd rfl) (frz_fixd rfl)) (if_pos c).symm
 simp only [c, decide_true, Bool.not_true, sCond_f]
 obtain ⟨c1, c2, c3⟩ := lab_ok c
 obtain ⟨g1, g2, g3⟩ := graph_ok c1
 have hsm := lab_sm c3 (by omega)
 rw [H1.loadN (k := 0) (n := 2) rfl rfl]
 rw [if_neg (by simp [c])] at hK
 obtain ⟨n, rfl⟩ : ∃ n : Nat, V = (n : Int) := ⟨V.toNat, by omega⟩
 rw [Int.toNat_natCast] at hK
 refine vsums169 (by omega) g3 c2 (by omega) hsm _ _ _ _ ?_
 rintro _ rfl _
 have hlen := vsF_len n E ls
 generalize vsF n E ls = s at *
 refine values126 _ _ _ _ ?_
 rintro _ rfl _
 refine CS_fn_mono (p := .of 170) (K := _) (by_body tbl_ok dreg 100 fun hf => ?_) fun _ _ _ _ q => q
 rw [F170.go]
 refine CS_fn_mono (p := .of 242) (K := fun v1 h2 n3 => (CS Tryz.prog B).fn 243 (.of 243) [v1] h2 n3 _) (by_body tbl_ok dreg 100 fun hf => ?_) fun _ _ _ _ q => q
 rw [F242.go]
 refine append173 (by omega) H1 fun o h2 nx2 H2 => ?_
 refine sort152 hj H2 (k := 0) rfl (by omega) fun h3 H3 => ?_
 rw [sFx, H3.load (k := 1) (i := 0) rfl rfl]
 refine compact135o (by rw [srt_length]) (by omega) (srt_pw s) H3 fun v m X h4 nx4 hv hm1 hm2 H4 => ?_
 rw [H4.load (k := 1) (i := 0) rfl rfl]
 simp only [sSame_refl, sFx]
 rw [hv]
 simp only [sEql]
 refine hK _ _ _ _ _ H4 (frz_tup2 (frz_fixd rfl) (frz_fixd rfl)) ?_
 have : decide ((m : Int) = (n : Int)) = decide s.Nodup := decide_eq_decide.2 (by rw [← (srt_perm s).nodup_iff, ← hm2]; omega)
 rw [this]
theorem refLab82 {V : Int} {E : List (Int × Int)} {ls : List Int} (hl : ls.length ≤ 100000) (hg : graphErr V E = 0) : Pure Tryz.prog B 82 [.agg [I V, encP E], encI ls] (· = I (labErr V E ls)) := by
 refine pure_hp fun h nx K H0 hK => by_body tbl_ok dreg 1000 fun hf => ?_
 rw [F82.go]
 refine H0.box (l := [I V, encP E]) rfl fun bx h1 nx1 H1 => ?_
 simp only [sFx, sLen_lst]
 rw [H1.load (k := 0) (i := 0 + 1) rfl rfl]
 simp only [sLen_lst, sNeq, sGtr]
 have e0 : labErr V E ls = if ls.length ≠ E.length then 2 else if srt ls = upTo ls.length then 0 else 14 := by rw [labErr, if_neg (by simp [hg])]
 by_cases c1 : ls.length = E.length
 case neg =>
  simp only [show ¬ (ls.length : Int) = (E.length : Int) by omega, decide_false, Bool.not_false, sCond_t]
  exact hK _ _ _ _ _ H1 (frz_fixd rfl) (by rw [e0, if_pos c1])
 simp only [show (ls.length : Int) = (E.length : Int) by omega, decide_true, Bool.not_true, sCond_f]
 rw [if_neg (by simp [c1])] at e0
 by_cases c2 : 0 < E.length
 case neg =>
  obtain rfl : ls = [] := List.eq_nil_of_length_eq_zero (by omega)
  simp only [show ¬ (0 : Int) < (E.length : Int) by omega, decide_false, sG_ft, sPick_f, sCond_f]
  simp only [show ∀ (op : KW3 → OP) (h : T Blk) (nx : Pa) (k : KW3), sGW (.bool false) true op h nx k = k .undef h nx from fun _ _ _ _ => rfl, sPick_f, sCond_f]
  exact hK _ _ _ _ _ H1 (frz_fixd rfl) (by rw [e0]; simp [srt, upTo])
 simp only [show (0 : Int) < (E.length : Int) by omega, decide_true, sG_tt]
 simp only [show ∀ (op : KW3 → OP) (h : T Blk) (nx : Pa) (k : KW3), sGW (.bool true) true op h nx k = op k from fun _ _ _ _ => rfl]
 refine refNormal46 hl _ _ _ _ ?_
 rintro _ rfl _
 simp only [sNot_b, sPick_t]
 by_cases c3 : srt ls = upTo ls.length
 ·simp only [c3, decide_true, Bool.not_true, sCond_f]
  exact hK _ _ _ _ _ H1 (frz_fixd rfl) (by rw [e0, if_pos c3])
 ·simp only [c3, decide_false, Bool.not_false, sCond_t]
  exact hK _ _ _ _ _ H1 (frz_fixd rfl) (by rw [e0, if_neg c3])
theorem refVs83 {V : Nat} {E : List (Int × Int)} {ls : List Int} (hV : V ≤ 1000) (hle : ls.length = E.length) (hl : ls.length ≤ 1000) (hs : ∀ x ∈ ls, 0 ≤ x ∧ x ≤ ((1000 : Nat) : Int)) : Pure Tryz.prog B 83 [.agg [I V, encP E], encI ls] (· = encI ((List.range V).map fun v => vS E ls v)) := by
 refine pure_hp fun h nx K H0 hK => by_body tbl_ok dreg 10000 fun hf => ?_
 rw [F83.go]
 refine H0.box (l := [I V, encP E]) rfl fun bx h1 nx1 H1 => ?_
 refine F83.L1 (fun m x4 x5 h' nx' => ∃ (v : Nat) (o : Option Pa), x5 = I v ∧ x4 = rowV o 1 v ∧ V - v = m ∧ v ≤ V ∧ Hp h h' nx' [.gro o 1 v (((List.range v).map fun v => vS E ls v).map I), .arr bx [I V, encP E]]) (m := V) (by omega) ⟨0, none, rfl, rfl, rfl, by omega, H1.addGro 1⟩ ?_
 rintro m z4 z5 z6 z7 z8 z9 z10 h2 nx2 R ⟨v, o, rfl, rfl, rfl, hv, H2⟩ hR
 rw [sFx, H2.load (k := 1) (i := 0) rfl rfl]
 simp only [sLss]
 by_cases hlt : v < V
 case neg =>
  simp only [show ¬ (v : Int) < (V : Int) by omega, decide_false, sCond_f]
  obtain rfl : v = V := by omega
  rw [F83.k16]
  refine hK _ _ _ _ _ H2 (H2.frzGro (k := 0) rfl fun v hv => by obtain ⟨x, _, rfl⟩ := List.mem_map.1 hv; rfl) ?_
  show AV.lst 1 _ _ = AV.lst 1 _ _
  simp
 simp only [show (v : Int) < (V : Int) by omega, decide_true, sCond_t]
 refine F83.L7 (fun m x6 x7 h' nx' => ∃ i : Nat, x7 = I i ∧ x6 = I (vS E (ls.take i) v) ∧ ls.length - i = m ∧ i ≤ ls.length ∧ h' = h2 ∧ nx' = nx2) (m := ls.length) (by omega) ⟨0, rfl, by cases E <;> rfl, rfl, by omega, rfl, rfl⟩ ?_
 rintro m y6 y7 y9 y10 h2 nx2 R2 ⟨i, rfl, rfl, rfl, hi, rfl, rfl⟩ hR2
 simp only [sLen_lst, sLss]
 by_cases hit : i < ls.length
 case neg =>
  simp only [show ¬ (i : Int) < (ls.length : Int) by omega, decide_false, sCond_f]
  rw [List.take_of_length_le (by omega), F83.k14]
  refine H2.bslice (l := [I (vS E ls v)]) rfl fun tb h4 nx4 H4 => ?_
  refine H4.appN (k := 1) (o := o) (c := 1) (new := [I (vS E ls v)]) rfl (HasArr.rd (l := [I (vS E ls v)]) (n := 1) (H4.own _ (List.mem_cons_self ..)) rfl) rfl rfl (by decide) (by decide) (by simp; omega) fun o' h5 nx5 _ H5 => ?_
  rw [F83.k15, sAdd (by omega)]
  refine hR _ _ _ _ _ _ _ _ _ _ (by omega) ⟨v + 1, o', rfl, rfl, rfl, by omega, H5.drop.cast ?_⟩
  rw [List.range_succ]; simp
 simp only [show (i : Int) < (ls.length : Int) by omega, decide_true, sCond_t]
 have hiE : i < E.length := by omega
 have hx : ls[i]? = some ls[i] := List.getElem?_eq_getElem hit
 have hxb := hs _ (List.getElem_mem hit)
 have hsn : vS E (ls.take (i + 1)) v = vS E (ls.take i) v + if E[i].1 = (v : Int) ∨ E[i].2 = (v : Int) then ls[i] else 0 := by
  rw [List.take_add_one, hx, Option.toList_some, vS_snoc (e := E[i])]
  rw [List.length_take, Nat.min_eq_left (by omega)]; exact List.getElem?_eq_getElem hiE
 have hbd := vS_bd (E := E) (v := v) (ls := ls.take i) fun x hx => by have := hs x (List.mem_of_mem_take hx); omega
 rw [List.length_take, Nat.min_eq_left hi] at hbd
 rw [sFx, H2.load (k := 1) (i := 0 + 1) rfl rfl, sIxL rfl hiE, flat2_cons hiE, sAxF0, sLdF]
 simp only [sEql]
 by_cases c1 : E[i].1 = (v : Int)
 ·simp only [c1, decide_true, sG_tf, sPick_t, sCond_t]
  rw [if_pos (.inl c1)] at hsn
  rw [sIxL rfl hit, ldL (getI hx), sAdd (by omega), sAdd (by omega)]
  exact hR2 _ _ _ _ _ _ _ (by omega) ⟨i + 1, rfl, by rw [hsn], rfl, by omega, rfl, rfl⟩
 simp only [c1, decide_false, sG_ff]
 rw [sFx, H2.load (k := 1) (i := 0 + 1) rfl rfl, sIxL rfl hiE, flat2_cons hiE, sAxF1, sLdF]
 simp only [sEql, sPick_f]
 by_cases c2 : E[i].2 = (v : Int)
 ·simp only [c2, decide_true, sCond_t]
  rw [if_pos (.inr c2)] at hsn
  rw [sIxL rfl hit, ldL (getI hx), sAdd (by omega), sAdd (by omega)]
  exact hR2 _ _ _ _ _ _ _ (by omega) ⟨i + 1, rfl, by rw [hsn], rfl, by omega, rfl, rfl⟩
 simp only [c2, decide_false, sCond_f]
 rw [if_neg (by simp [c1, c2]), Int.add_zero] at hsn
 rw [sAdd (by omega)]
 exact hR2 _ _ _ _ _ _ _ (by omega) ⟨i + 1, rfl, by rw [hsn], rfl, by omega, rfl, rfl⟩
end Go.Ev
namespace Go.Ev
open Go Go.Proofs
set_option maxRecDepth 100000
variable {N : Nat} {C : Calls Prop} {K0 : Kw Prop} {K R : Ks Prop} {h : T Blk} {nx : Pa} {x0 x1 x2 x3 x4 x5 x6 x7 x8 x9 x10 x11 x12 x13 x14 x15 x16 x17 x18 x19 a0 a1 : AV}
theorem F15.tab : T.get none (.of 15) tbl = some F15 := by kernel_rfl
theorem F15.go : callFn tbl N C (.of 15) [a0, a1] h nx K0 =
 sBox a0 h nx fun v1 h2 n3 =>
 sFaddr 1 v1 fun v4 =>
 sLoad v4 h2 fun v5 =>
 sLen v5 fun v6 =>
 sBin .gtr .int v6 (I 40) fun v7 =>
 sG v7 false (fun k => k a1) fun v8 =>
 sG v7 false (fun k => sLen v8 k) fun v9 =>
 sG v7 false (fun k => sBin .gtr .int v9 (I 40) k) fun v10 =>
 sPick v7 (.bool true) v10 fun v11 =>
 sCond v11 (C.fn 17 (.of 17) [] h2 n3 fun v12 h13 n14 =>
 K0 v12 h13 n14) (sLoadN 2 v1 h2 fun v15 =>
 C.fn 76 (.of 76) [v15] h2 n3 fun v16 h17 n18 =>
 sExt 0 v16 fun v19 =>
 sExt 1 v16 fun v20 =>
 sAlloc [(I 0), .nils] h17 n18 fun v21 h22 n23 =>
 sStore 2 v21 v19 h22 n23 fun v24 h25 n26 =>
 sLoadN 2 v1 h25 fun v27 =>
 C.fn 77 (.of 77) [v27] h25 n26 fun v28 h29 n30 =>
 sExt 0 v28 fun v31 =>
 sExt 1 v28 fun v32 =>
 sAlloc [(I 0), .nils] h29 n30 fun v33 h34 n35 =>
 sStore 2 v33 v31 h34 n35 fun v36 h37 n38 =>
 sLoadN 2 v1 h37 fun v39 =>
 C.fn 78 (.of 78) [v39, a1] h37 n38 fun v40 h41 n42 =>
 sExt 0 v40 fun v43 =>
 sExt 1 v40 fun v44 =>
 sLoadN 2 v1 h41 fun v45 =>
 C.fn 79 (.of 79) [v45, a1] h41 n42 fun v46 h47 n48 =>
 sExt 0 v46 fun v49 =>
 sExt 1 v46 fun v50 =>
 sLoadN 2 v1 h47 fun v51 =>
 C.fn 21 (.of 21) [v51] h47 n48 fun v52 h53 n54 =>
 sBin .neq .int v52 (I 0) fun v55 =>
 sCond v55 (sLoadN 2 v21 h53 fun v56 =>
 sBuild [(I 0), .nils] [] fun v57 =>
 C.fn 74 (.of 74) [v56, v20, v57, v52] h53 n54 fun v58 h59 n60 =>
 sG v58 true (fun k => sLoadN 2 v33 h59 k) fun v61 =>
 sG v58 true (fun k => k v32) fun v62 =>
 sG v58 true (fun k => sBuild [(I 0), .nils] [] k) fun v63 =>
 sG v58 true (fun k => k v52) fun v64 =>
 sGW v58 true (fun k => C.fn 74 (.of 74) [v61, v62, v63, v64] h59 n60 k) h59 n60 fun v65 h66 n67 =>
 sPick v58 v65 (.bool false) fun v68 =>
 sG v68 true (fun k => k v43) fun v69 =>
 sG v68 true (fun k => sLen v69 k) fun v70 =>
 sG v68 true (fun k => sBin .eql .int v70 (I 0) k) fun v71 =>
 sPick v68 v71 (.bool false) fun v72 =>
 sG v72 true (fun k => k v44) fun v73 =>
 sG v72 true (fun k => k v52) fun v74 =>
 sG v72 true (fun k => sBin .eql .int v73 v74 k) fun v75 =>
 sPick v72 v75 (.bool false) fun v76 =>
 sG v76 true (fun k => k v49) fun v77 =>
 sG v76 true (fun k => sNot v77 k) fun v78 =>
 sPick v76 v78 (.bool false) fun v79 =>
 sG v79 true (fun k => k v50) fun v80 =>
 sG v79 true (fun k => k v52) fun v81 =>
 sG v79 true (fun k => sBin .eql .int v80 v81 k) fun v82 =>
 sPick v79 v82 (.bool false) fun v83 =>
 sGW v83 true (fun k => C.fn 17 (.of 17) [] h66 n67 k) h66 n67 fun v84 h85 n86 =>
 sPick v83 v84 (.bool false) fun v87 =>
 K0 v87 h85 n86) ((IR.run F15.b2 C N (fnO F15.res K0) (retK F15.res K0)) (F15.fr a0 a1 v1 (.bool false) v21 v20 v33 v32 v43 v44 v49 v50 v52 .undef .undef .undef v11 v55 .undef .undef) h53 n54)) := by
 rw [callFn_of F15.tab]; kernel_rfl
theorem F15.k2 : IR.run F15.b2 C N (fnO F15.res K0) K (F15.fr x0 x1 x2 x3 x4 x5 x6 x7 x8 x9 x10 x11 x12 x13 x14 x15 x16 x17 x18 x19) h nx =
 sLoadN 2 x2 h fun v1 =>
 C.fn 80 (.of 80) [v1] h nx fun v2 h3 n4 =>
 sExt 0 v2 fun v5 =>
 sExt 1 v2 fun v6 =>
 sAlloc [(I 0), .nils] h3 n4 fun v7 h8 n9 =>
 sStore 2 v7 v5 h8 n9 fun v10 h11 n12 =>
 sLoadN 2 x4 h11 fun v13 =>
 sLoadN 2 v7 h11 fun v14 =>
 C.fn 74 (.of 74) [v13, x5, v14, v6] h11 n12 fun v15 h16 n17 =>
 sNot v15 fun v18 =>
 bif gOk v18 false then (sLoadN 2 x6 h16 fun v19 => bif gOk v18 false then (sG v18 false (fun k => sLoadN 2 x2 h16 k) fun v21 =>
 sGW v18 false (fun k => C.fn 81 (.of 81) [v21] h16 n17 fun v25 h26 n27 => sSame x7 x7 ((sLoadN 2 x6 h26 fun v28 => sSame v28 v19 (k v25 h26 n27)))) h16 n17 fun v22 h23 n24 =>
 sGW v18 false (fun k => C.fn 74 (.of 74) [v19, x7, v22, (I 0)] h23 n24 k) h23 n24 fun v29 h30 n31 =>
 sG v18 false (fun k => sNot v29 k) fun v32 =>
 sPick v18 (.bool true) v32 fun v33 =>
 sCond v33 (K0 (.bool false) h30 n31) ((IR.run F15.b3 C N (fnO F15.res K0) K) (F15.fr x0 x1 x2 x3 x4 x5 x6 x7 x8 x9 x10 x11 x12 v7 v6 x15 x16 x17 v33 x19) h30 n31)) else (sG v18 false (fun k => sLoadN 2 x2 h16 k) fun v34 =>
 sGW v18 false (fun k => C.fn 81 (.of 81) [v34] h16 n17 fun v38 h39 n40 => (sLoadN 2 x6 h39 fun v41 => sSame v41 v19 (k v38 h39 n40))) h16 n17 fun v35 h36 n37 =>
 sGW v18 false (fun k => C.fn 74 (.of 74) [v19, .undef, v35, (I 0)] h36 n37 k) h36 n37 fun v42 h43 n44 =>
 sG v18 false (fun k => sNot v42 k) fun v45 =>
 sPick v18 (.bool true) v45 fun v46 =>
 sCond v46 (K0 (.bool false) h43 n44) ((IR.run F15.b3 C N (fnO F15.res K0) K) (F15.fr x0 x1 x2 x3 x4 x5 x6 x7 x8 x9 x10 x11 x12 v7 v6 x15 x16 x17 v46 x19) h43 n44))) else (bif gOk v18 false then (sG v18 false (fun k => sLoadN 2 x2 h16 k) fun v48 =>
 sGW v18 false (fun k => C.fn 81 (.of 81) [v48] h16 n17 fun v52 h53 n54 => sSame x7 x7 (k v52 h53 n54)) h16 n17 fun v49 h50 n51 =>
 sGW v18 false (fun k => C.fn 74 (.of 74) [.undef, x7, v49, (I 0)] h50 n51 k) h50 n51 fun v55 h56 n57 =>
 sG v18 false (fun k => sNot v55 k) fun v58 =>
 sPick v18 (.bool true) v58 fun v59 =>
 sCond v59 (K0 (.bool false) h56 n57) ((IR.run F15.b3 C N (fnO F15.res K0) K) (F15.fr x0 x1 x2 x3 x4 x5 x6 x7 x8 x9 x10 x11 x12 v7 v6 x15 x16 x17 v59 x19) h56 n57)) else (sG v18 false (fun k => sLoadN 2 x2 h16 k) fun v60 =>
 sGW v18 false (fun k => C.fn 81 (.of 81) [v60] h16 n17 k) h16 n17 fun v61 h62 n63 =>
 sGW v18 false (fun k => C.fn 74 (.of 74) [.undef, .undef, v61, (I 0)] h62 n63 k) h62 n63 fun v64 h65 n66 =>
 sG v18 false (fun k => sNot v64 k) fun v67 =>
 sPick v18 (.bool true) v67 fun v68 =>
 sCond v68 (K0 (.bool false) h65 n66) ((IR.run F15.b3 C N (fnO F15.res K0) K) (F15.fr x0 x1 x2 x3 x4 x5 x6 x7 x8 x9 x10 x11 x12 v7 v6 x15 x16 x17 v68 x19) h65 n66))) := by kernel_rfl
theorem F15.k3 : IR.run F15.b3 C N (fnO F15.res K0) K (F15.fr x0 x1 x2 x3 x4 x5 x6 x7 x8 x9 x10 x11 x12 x13 x14 x15 x16 x17 x18 x19) h nx =
 sLoadN 2 x2 h fun v1 =>
 C.fn 82 (.of 82) [v1, x1] h nx fun v2 h3 n4 =>
 sBin .neq .int v2 (I 0) fun v5 =>
 sCond v5 (sLen x8 fun v6 =>
 sBin .eql .int v6 (I 0) fun v7 =>
 sG v7 true (fun k => k x9) fun v8 =>
 sG v7 true (fun k => k v2) fun v9 =>
 sG v7 true (fun k => sBin .eql .int v8 v9 k) fun v10 =>
 sPick v7 v10 (.bool false) fun v11 =>
 sG v11 true (fun k => k x10) fun v12 =>
 sG v11 true (fun k => sNot v12 k) fun v13 =>
 sPick v11 v13 (.bool false) fun v14 =>
 sG v14 true (fun k => k x11) fun v15 =>
 sG v14 true (fun k => k v2) fun v16 =>
 sG v14 true (fun k => sBin .eql .int v15 v16 k) fun v17 =>
 sPick v14 v17 (.bool false) fun v18 =>
 sGW v18 true (fun k => C.fn 17 (.of 17) [] h3 n4 k) h3 n4 fun v19 h20 n21 =>
 sPick v18 v19 (.bool false) fun v22 =>
 K0 v22 h20 n21) ((IR.run F15.b4 C N (fnO F15.res K0) K) (F15.fr x0 x1 x2 x3 x4 x5 x6 x7 x8 x9 x10 x11 v2 x13 x14 x15 x16 x17 x18 v5) h3 n4) := by kernel_rfl
theorem F15.k4 : IR.run F15.b4 C N (fnO F15.res K0) K (F15.fr x0 x1 x2 x3 x4 x5 x6 x7 x8 x9 x10 x11 x12 x13 x14 x15 x16 x17 x18 x19) h nx =
 sLoadN 2 x2 h fun v1 =>
 C.fn 83 (.of 83) [v1, x1] h nx fun v2 h3 n4 =>
 sBin .eql .int x9 (I 0) fun v5 =>
 sG v5 true (fun k => k x8) fun v6 =>
 sG v5 true (fun k => k v2) fun v7 =>
 sGW v5 true (fun k => C.fn 49 (.of 49) [v6, v7] h3 n4 k) h3 n4 fun v8 h9 n10 =>
 sPick v5 v8 (.bool false) fun v11 =>
 sG v11 true (fun k => k x11) fun v12 =>
 sG v11 true (fun k => sBin .eql .int v12 (I 0) k) fun v13 =>
 sPick v11 v13 (.bool false) fun v14 =>
 sG v14 true (fun k => k x10) fun v15 =>
 sG v14 true (fun k => k v2) fun v16 =>
 sGW v14 true (fun k => C.fn 84 (.of 84) [v16] h9 n10 k) h9 n10 fun v17 h18 n19 =>
 sG v14 true (fun k => sBin .eql .bool v15 v17 k) fun v20 =>
 sPick v14 v20 (.bool false) fun v21 =>
 sGW v21 true (fun k => C.fn 17 (.of 17) [] h18 n19 k) h18 n19 fun v22 h23 n24 =>
 sPick v21 v22 (.bool false) fun v25 =>
 K0 v25 h23 n24 := by kernel_rfl
end Go.Ev
namespace Go.Ev
open Go Go.Proofs
variable {B : Nat}
set_option maxRecDepth 100000
theorem sGW_ff (op : KW3 → OP) (h : T Blk) (nx : Pa) (k : KW3) : sGW (.bool false) false op h nx k = op k := nr rfl
theorem sEqlBo {a b : Bool} {K : AV → OP} : sBin .eql .bool (.bool a) (.bool b) K = K (.bool (a == b)) := by cases a <;> cases b <;> exact nr rfl
theorem none166 {x : Int} {v : AV} (hv : fixd v = true) (hs : v.cells = some [v]) (hz : ∀ op : AV → OP, sLen v op = op (I 0)) : Pure Tryz.prog B 166 [.agg [I x, v]] (· = .bool (decide (x = 0))) := by
 refine pure_hp fun h nx K H0 hK => by_body tbl_ok dreg 1000 fun hf => ?_
 rw [F166.go]
 refine H0.box (l := [I x, v]) rfl fun bx h1 nx1 H1 => ?_
 rw [sFx, H1.load (k := 0) (i := 0) rfl rfl]
 simp only [sEql]
 by_cases c : x = 0
 ·simp only [c, decide_true, sG_tt, sFx]
  subst c
  rw [H1.load (k := 0) (i := 0 + 1) rfl rfl, hz]
  simp only [sEql, decide_true, sPick_t]
  exact hK _ _ _ _ _ H1 (frz_fixd rfl) (by simp)
 ·simp only [c, decide_false, sG_ft, sPick_f]
  exact hK _ _ _ _ _ H1 (frz_fixd rfl) (by simp [c])
theorem same167 {x y : Int} {a b : List (List Int)} (ha : a.length ≤ 1000000000) (hw : ∀ l ∈ a, l.length ≤ 1000000000) : Pure Tryz.prog B 167 [.agg [I x, encT a], .agg [I y, encT b]] (· = .bool (decide (x = y ∧ a = b))) := by
 refine pure_hp fun h nx K H0 hK => by_body tbl_ok dreg 1000 fun hf => ?_
 rw [F167.go]
 refine H0.box (l := [I x, encT a]) rfl fun bx h1 nx1 H1 => ?_
 refine H1.box (l := [I y, encT b]) rfl fun by' h2 nx2 H2 => ?_
 rw [sFx, H2.load (k := 1) (i := 0) rfl rfl, sFx, H2.load (k := 0) (i := 0) rfl rfl]
 simp only [sEql]
 by_cases c : x = y
 ·simp only [c, decide_true, sG_tt, sFx, sGW_tt]
  rw [H2.load (k := 1) (i := 0 + 1) rfl rfl, H2.load (k := 0) (i := 0 + 1) rfl rfl]
  refine sameTable23 ha hw _ _ _ _ ?_
  rintro _ rfl _
  simp only [sPick_t]
  exact hK _ _ _ _ _ H2 (frz_fixd rfl) (by simp [c])
 ·simp only [c, decide_false, sG_ft, sGW_ft, sPick_f]
  exact hK _ _ _ _ _ H2 (frz_fixd rfl) (by simp [c])
theorem system74e {x y e bad : Int} {v w : AV} (hbad : bad ≠ 0) (hv : fixd v = true) (hs : v.cells = some [v]) (hz : ∀ op : AV → OP, sLen v op = op (I 0)) (hx : x = 0) (hw : fixd w = true) (hws : w.cells = some [w]) (he : e = bad) : Pure Tryz.prog B 74 [.agg [I x, v], I e, .agg [I y, w], I bad] (· = .bool true) := by
 refine pure_hp fun h nx K H0 hK => by_body tbl_ok dreg 1000 fun hf => ?_
 rw [F74.go]
 refine H0.box (l := [I x, v]) rfl fun bx h1 nx1 H1 => ?_
 refine H1.box (l := [I y, w]) rfl fun by' h2 nx2 H2 => ?_
 subst he; subst hx
 simp only [sNeq, hbad, decide_false, Bool.not_false, sCond_t]
 rw [H2.loadN (k := 1) (n := 2) rfl rfl]
 refine none166 hv hs hz _ _ _ _ ?_
 rintro _ rfl _
 simp only [decide_true, sG_tt, sEql, sPick_t]
 exact hK _ _ _ _ _ H2 (frz_fixd rfl) rfl
theorem system74o {x : Int} {a : List (List Int)} (ha : a.length ≤ 1000000000) (hw : ∀ l ∈ a, l.length ≤ 1000000000) : Pure Tryz.prog B 74 [.agg [I x, encT a], I 0, .agg [I x, encT a], I 0] (· = .bool true) := by
 refine pure_hp fun h nx K H0 hK => by_body tbl_ok dreg 1000 fun hf => ?_
 rw [F74.go]
 refine H0.box (l := [I x, encT a]) rfl fun bx h1 nx1 H1 => ?_
 refine H1.box (l := [I x, encT a]) rfl fun by' h2 nx2 H2 => ?_
 simp only [sNeq, decide_true, Bool.not_true, sCond_f, sEql, sG_tt, sGW_tt]
 rw [H2.loadN (k := 1) (n := 2) rfl rfl, H2.loadN (k := 0) (n := 2) rfl rfl]
 refine same167 ha hw _ _ _ _ ?_
 rintro _ rfl _
 simp only [sPick_t]
 exact hK _ _ _ _ _ H2 (frz_fixd rfl) (by simp)
theorem law15 {V : Int} {E : List (Int × Int)} {ls : List Int} (hj : ∀ B, JOk Tryz.prog B hookS) (haw : ∀ {B}, Pure Tryz.prog B 17 [] (· = .bool true)) : Pure Tryz.prog B 15 [.agg [I V, encP E], encI ls] (· = .bool true) := by
 refine pure_hp fun h nx K H0 hK => by_body tbl_ok dreg 1000 fun hf => ?_
 rw [F15.go]
 refine H0.box (l := [I V, encP E]) rfl fun bx h1 nx1 H1 => ?_
 have awk : ∀ (h : T Blk) (nx : Pa) (Z : Kw Prop), Z (.bool true) h nx = .ok True → (CS Tryz.prog B).fn 17 (.of 17) [] h nx Z = .ok True := fun h nx Z hZ => haw _ _ _ _ fun v hv _ => by rw [hv]; exact hZ
 have ret : ∀ h1 nx1 L, Hp h h1 nx1 L → K (.bool true) h1 nx1 = .ok True := fun _ _ _ H => hK _ _ _ _ _ H (frz_fixd rfl) rfl
 rw [sFx, H1.load (k := 0) (i := 0 + 1) rfl rfl]
 simp only [sLen_lst, sGtr]
 by_cases c1 : 40 < E.length
 ·simp only [show (40 : Int) < (E.length : Int) by omega, decide_true, sG_tf, sPick_t, sCond_t]
  exact awk _ _ _ (ret _ _ _ H1)
 simp only [show ¬ (40 : Int) < (E.length : Int) by omega, decide_false, sG_ff, sLen_lst, sGtr, sPick_f]
 by_cases c2 : 40 < ls.length
 ·simp only [show (40 : Int) < (ls.length : Int) by omega, decide_true, sCond_t]
  exact awk _ _ _ (ret _ _ _ H1)
 simp only [show ¬ (40 : Int) < (ls.length : Int) by omega, decide_false, sCond_f]
 have hE : E.length ≤ 1000000 := by omega
 have hl : ls.length ≤ 100000 := by omega
 by_cases cg : graphErr V E = 0
 case neg =>
  have ce : emErr V E = graphErr V E := by rw [emErr, firstE, if_pos cg]
  have cl : labErr V E ls = graphErr V E := by rw [labErr, if_pos cg]
  rw [H1.loadN (k := 0) (n := 2) rfl rfl]
  refine edgeMagic115 hj hE _ _ _ _ ?_
  rintro _ rfl _
  rw [ce, if_pos cg]
  simp only [sExt0, sExt1]
  refine H1.alloc fun p2 h2 nx2 H2 => ?_
  refine H2.storeN (l2 := [I 0, .nils]) (k := 0) rfl rfl rfl fun h3 H3 => ?_
  rw [H3.loadN (k := 1) (n := 2) rfl rfl]
  refine vertexMagic116 hj hE _ _ _ _ ?_
  rintro _ rfl _
  rw [if_pos cg]
  simp only [sExt0, sExt1]
  refine H3.alloc fun p4 h4 nx4 H4 => ?_
  refine H4.storeN (l2 := [I 0, .nils]) (k := 0) rfl rfl rfl fun h5 H5 => ?_
  rw [H5.loadN (k := 2) (n := 2) rfl rfl]
  refine vsums78 hj hE hl _ _ _ _ ?_
  rintro _ rfl _
  rw [cl, if_pos cg]
  simp only [sExt0, sExt1]
  rw [H5.loadN (k := 2) (n := 2) rfl rfl]
  refine anti79 hj hE hl _ _ _ _ ?_
  rintro _ rfl _
  rw [cl, if_pos cg]
  simp only [sExt0, sExt1]
  rw [H5.loadN (k := 2) (n := 2) rfl rfl]
  refine refGraph42 hE _ _ _ _ ?_
  rintro _ rfl _
  simp only [sNeq, cg, decide_false, Bool.not_false, sCond_t]
  rw [H5.loadN (k := 1) (n := 2) rfl rfl, sBuild0]
  refine system74e cg rfl rfl (fun _ => rfl) rfl rfl rfl rfl _ _ _ _ ?_
  rintro _ rfl _
  simp only [sG_tt, sGW_tt]
  rw [H5.loadN (k := 0) (n := 2) rfl rfl, sBuild0]
  refine system74e cg rfl rfl (fun _ => rfl) rfl rfl rfl rfl _ _ _ _ ?_
  rintro _ rfl _
  simp only [sPick_t, sG_tt, sGW_tt, sLen_nils, sEql, decide_true, sNot_b, Bool.not_false]
  exact awk _ _ _ (ret _ _ _ H5)
 obtain ⟨g1, g2, g3⟩ := graph_ok cg
 obtain ⟨n, rfl⟩ : ∃ n : Nat, V = (n : Int) := ⟨V.toNat, by omega⟩
 obtain ⟨lo1, lr1⟩ := edge_lines cg
 obtain ⟨lo2, lr2⟩ := vert_lines cg
 have em : emErr (n : Int) E = if E.length = 0 then 12 else 0 := by
  rw [emErr, firstE, if_neg (by simp [cg]), firstE]
  by_cases q : E.length = 0 <;> simp [q, firstE]
 have key : ∃ (ex : Int) (ev : AV) (ee : Int) (rx : Int) (rv : AV), (if emErr (n : Int) E ≠ 0 then AV.tup [.agg [I 0, .nils], I (emErr (n : Int) E)] else .tup [sysV (n : Int) E (edgeL (n : Int) E E.length), I 0]) = .tup [.agg [I ex, ev], I ee] ∧ ev.cells = some [ev] ∧ fixd ev = true ∧
   (if E.length = 0 then AV.tup [.agg [I 0, .nils], I 12] else .tup [sysV (n : Int) E (edgeL (n : Int) E E.length), I 0]) = .tup [.agg [I rx, rv], I ee] ∧ rv.cells = some [rv] ∧ fixd rv = true ∧ Pure Tryz.prog B 74 [.agg [I ex, ev], I ee, .agg [I rx, rv], I ee] (· = .bool true) := by
  by_cases q : E.length = 0
  ·refine ⟨0, .nils, 12, 0, .nils, ?_, rfl, rfl, if_pos q, rfl, rfl, system74e (by decide) rfl rfl (fun _ => rfl) rfl rfl rfl rfl⟩
   rw [em, if_pos q]; rfl
  ·refine ⟨_, encT (edgeL n E E.length), 0, _, encT (edgeL n E E.length), ?_, rfl, fixd_encT _, if_neg q, rfl, fixd_encT _, system74o ?_ fun l hl => ?_⟩
   ·rw [em, if_neg q]; rfl
   ·have := lo1.len; omega
   ·have := (lo1.asc l hl).2.2.2; omega
 obtain ⟨ex, ev, ee, rx, rv, k1, k2, k3, k4, k5, k6, k7⟩ := key
 rw [H1.loadN (k := 0) (n := 2) rfl rfl]
 refine edgeMagic115 hj hE _ _ _ _ ?_
 rintro _ rfl _
 rw [k1]
 simp only [sExt0, sExt1]
 refine H1.alloc fun p2 h2 nx2 H2 => ?_
 refine H2.storeN (l2 := [I ex, ev]) (k := 0) rfl rfl rfl fun h3 H3 => ?_
 rw [H3.loadN (k := 1) (n := 2) rfl rfl]
 refine vertexMagic116 hj hE _ _ _ _ ?_
 rintro _ rfl _
 rw [if_neg (by simp [cg])]
 simp only [sExt0, sExt1]
 refine H3.alloc fun p4 h4 nx4 H4 => ?_
 refine H4.storeN (l2 := [I ((n : Int) + (E.length : Int)), encT (vertL n E n)]) (k := 0) rfl rfl rfl fun h5 H5 => ?_
 rw [H5.loadN (k := 2) (n := 2) rfl rfl]
 have h6 := labErr n E ls
 obtain ⟨lv, le, bv, q1, q2, q3⟩ : ∃ (lv : AV) (le : Int) (bv : Bool), le = labErr n E ls ∧ (if labErr n E ls ≠ 0 then AV.tup [.nils, I (labErr n E ls)] else .tup [encI (vsF (n : Int).toNat E ls), I 0]) = .tup [lv, I le] ∧ (if labErr n E ls ≠ 0 then AV.tup [.bool false, I (labErr n E ls)] else .tup [.bool (decide (vsF (n : Int).toNat E ls).Nodup), I 0]) = .tup [.bool bv, I le] := by
  by_cases q : labErr n E ls = 0
  ·exact ⟨_, 0, _, q.symm, if_neg (by simp [q]), if_neg (by simp [q])⟩
  ·exact ⟨_, _, _, rfl, if_pos q, if_pos q⟩
 refine vsums78 hj hE hl _ _ _ _ ?_
 rintro _ rfl _
 rw [q2]
 simp only [sExt0, sExt1]
 rw [H5.loadN (k := 2) (n := 2) rfl rfl]
 refine anti79 hj hE hl _ _ _ _ ?_
 rintro _ rfl _
 rw [q3]
 simp only [sExt0, sExt1]
 rw [H5.loadN (k := 2) (n := 2) rfl rfl]
 refine refGraph42 hE _ _ _ _ ?_
 rintro _ rfl _
 simp only [sNeq, cg, decide_true, Bool.not_true, sCond_f]
 rw [F15.k2, H5.loadN (k := 2) (n := 2) rfl rfl]
 refine refEdge69 cg _ _ _ _ ?_
 rintro _ rfl _
 rw [k4]
 simp only [sExt0, sExt1]
 refine H5.alloc fun p6 h7 nx7 H7 => ?_
 refine H7.storeN (l2 := [I rx, rv]) (k := 0) rfl rfl rfl fun h8 H8 => ?_
 rw [H8.loadN (k := 2) (n := 2) rfl rfl, H8.loadN (k := 0) (n := 2) rfl rfl]
 refine k7 _ _ _ _ ?_
 rintro _ rfl _
 simp only [sNot_b, Bool.not_true, show gOk (.bool false) false = true from rfl, cond_true]
 rw [H8.loadN (k := 1) (n := 2) rfl rfl]
 simp only [sG_ff, sGW_ff]
 rw [H8.loadN (k := 3) (n := 2) rfl rfl]
 refine refVert70 cg _ _ _ _ ?_
 rintro _ rfl _
 simp only [sSame_refl]
 rw [H8.loadN (k := 1) (n := 2) rfl rfl]
 simp only [sSame_refl]
 refine system74o ?_ ?_ _ _ _ _ ?_
 ·have := lo2.len; rw [Int.toNat_natCast] at this; omega
 ·intro l hl
  rw [← Int.toNat_natCast n] at hl
  have := (lo2.asc l hl).2.2.2; omega
 rintro _ rfl _
 simp only [sNot_b, Bool.not_true, sPick_f, sCond_f]
 rw [F15.k3, H8.loadN (k := 3) (n := 2) rfl rfl]
 refine refLab82 hl cg _ _ _ _ ?_
 rintro _ rfl _
 rw [← q1]
 simp only [sNeq]
 by_cases c : le = 0
 case neg =>
  have c' : labErr n E ls ≠ 0 := by rw [← q1]; exact c
  rw [if_pos c'] at q2 q3
  obtain rfl : lv = .nils := by simp at q2; exact q2.1.symm
  obtain rfl : bv = false := by simp at q3; exact q3.1
  simp only [c, decide_false, Bool.not_false, sCond_t, sLen_nils, sEql, decide_true, sG_tt, sPick_t, sNot_b, sGW_tt]
  exact awk _ _ _ (ret _ _ _ H8)
 simp only [c, decide_true, Bool.not_true, sCond_f]
 have c' : labErr n E ls = 0 := by rw [← q1]; exact c
 rw [if_neg (by simp [c'])] at q2 q3
 obtain ⟨_, c2, c3⟩ := lab_ok c'
 rw [Int.toNat_natCast] at q2 q3
 obtain rfl : lv = encI (vsF n E ls) := by simp only [AV.tup.injEq, List.cons.injEq] at q2; exact q2.1.symm
 obtain rfl : bv = decide (vsF n E ls).Nodup := by simp only [AV.tup.injEq, List.cons.injEq, AV.bool.injEq] at q3; exact q3.1.symm
 rw [F15.k4, H8.loadN (k := 3) (n := 2) rfl rfl]
 refine refVs83 (by omega) c2 (by omega) (lab_sm c3 (by omega)) _ _ _ _ ?_
 rintro _ rfl _
 rw [← vsF_eq g3]
 have hlen := vsF_len n E ls
 subst c
 simp only [sEql, decide_true, sG_tt, sGW_tt]
 refine sameInts35 (by omega) _ _ _ _ ?_
 rintro _ rfl _
 simp only [decide_true, sPick_t, sG_tt, sGW_tt, sEql]
 refine differs102 (by omega) _ _ _ _ ?_
 rintro _ rfl _
 rw [sEqlBo]
 simp only [beq_self_eq_true, sPick_t, sGW_tt]
 exact awk _ _ _ (ret _ _ _ H8)
end Go.Ev
