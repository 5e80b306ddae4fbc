import Derived.Test.YtepfaegpjddehaaGreatDoorEvD
import Derived.Deep.Matrix
import Derived.Lib.SmallJoins
import Derived.Test.YtepfaegpjddehaaGreatDoorCode
import GoSem.Core.Next
import Derived.Test.YtepfaegpjddehaaGreatDoorLaws
import Derived.KernelRfl
import Derived.IntWalk
set_option linter.unusedSimpArgs false
set_option linter.unusedVariables false
namespace Go.Ev
open Go Go.RowKit Go.ChangeShapes Go.WideShapes Go.Deep Go.Joins
variable {H : Type} {enc : TypeId × Value → H} {P : Program}
theorem cellOf_of_cell {w : World} {a : Addr} {i : Nat} {v : Value} (h : w.cell? (a.add i) = some v) : a = ⟨a.block, a.off, a.spot⟩ ∧ (i = 0 → a.spot = none) ∧ uE w a.block (a.off + i) = some v := by
 unfold Addr.add at h
 by_cases hi : i = 0
 ·subst hi
  rw [if_pos rfl] at h
  unfold World.cell? at h
  split at h
  ·rename_i c ty fr hb
   split at h
   ·cases h
   ·rename_i hs
    refine ⟨rfl, fun _ => by cases e : a.spot <;> simp_all, ?_⟩
    simp [uE, hb, h]
  ·cases h
 ·rw [if_neg hi] at h
  unfold World.cell? at h
  split at h
  ·rename_i c ty fr hb
   refine ⟨rfl, fun q => absurd q hi, ?_⟩
   simp at h hb
   simp [uE, hb, h]
  ·cases h
theorem VRF_mk {E : Env} {b : Nat} : ∀ {l : List AV} {off : Nat}, (∀ i a, l[i]? = some a → ∃ v, E.fz b (off + i) = some v ∧ VR E a v) → VRF E l b off
 | [], _, _ => by simp only [VRF]
 | a :: l, off, h => by
  simp only [VRF]
  obtain ⟨v, h1, h2⟩ := h 0 a rfl
  refine ⟨v, h1, h2, VRF_mk fun i x hx => ?_⟩
  obtain ⟨v', h3, h4⟩ := h (i + 1) x (by simpa using hx)
  exact ⟨v', by rw [Nat.add_assoc, Nat.add_comm 1 i]; exact h3, h4⟩
end Go.Ev
namespace Go.Ev
open Go
def gR (q : List (Int × Int)) : List AV := q.flatMap fun p => [I p.1, I p.2]
abbrev encP (q : List (Int × Int)) : AV := .lst 2 q.length (gR q)
theorem flat2_len (q : List (Int × Int)) : (gR q).length = q.length * 2 := by
 induction q with
 | nil => rfl
 | cons p q ih => rw [gR, List.flatMap_cons, List.length_append, ← gR, ih]; simp; omega
theorem flat2_drop : ∀ (q : List (Int × Int)) (i : Nat), (gR q).drop (i * 2) = gR (q.drop i)
 | q, 0 => by simp
 | [], i + 1 => by simp [gR]
 | p :: q, i + 1 => by
  rw [List.drop_succ_cons, ← flat2_drop q i, show (i + 1) * 2 = i * 2 + 1 + 1 by omega]
  rfl
theorem flat2_take : ∀ (q : List (Int × Int)) (i : Nat), (gR q).take (i * 2) = gR (q.take i)
 | q, 0 => by simp [gR]
 | [], i + 1 => by simp [gR]
 | p :: q, i + 1 => by
  rw [List.take_succ_cons, show (i + 1) * 2 = i * 2 + 1 + 1 by omega]
  show I p.1 :: I p.2 :: (gR q).take (i * 2) = _
  rw [flat2_take q i]
  rfl
theorem flat2_mem {q : List (Int × Int)} : ∀ v ∈ gR q, ∃ x, v = I x := fun v hv => by
 obtain ⟨p, _, h⟩ := List.mem_flatMap.1 hv
 simp only [List.mem_cons, List.not_mem_nil, or_false] at h
 rcases h with rfl | rfl
 ·exact ⟨_, rfl⟩
 ·exact ⟨_, rfl⟩
theorem fixd_flat2 {q : List (Int × Int)} : ∀ v ∈ gR q, fixd v = true := fun v hv => by obtain ⟨x, rfl⟩ := flat2_mem v hv; rfl
theorem scal_flat2 {q : List (Int × Int)} : (gR q).all scal = true := List.all_eq_true.2 fun v hv => by obtain ⟨x, rfl⟩ := flat2_mem v hv; rfl
theorem fixd_encP (q : List (Int × Int)) : fixd (encP q) = true := fixd_all fixd_flat2
theorem uC {q : List (Int × Int)} {i : Nat} (h : i < q.length) : (gR q).drop (i * 2) = I q[i].1 :: I q[i].2 :: (gR q).drop ((i + 1) * 2) := by
 rw [flat2_drop, flat2_drop, List.drop_eq_getElem_cons h]; rfl
theorem sAx0 {K : AV → OP} {id : Pa} {off : Nat} : zO 1 2 (.ptr id off) (I 0) K = K (.ptr id off) := by
 show (bif Nat.ble (0 + 1) 2 then natK (off + 0 * 1) (fun o => K (.ptr id o)) else .no 14) = _
 rw [Nat.ble_eq_true_of_le (by omega), zX]; simp
theorem sAx1 {K : AV → OP} {id : Pa} {off : Nat} : zO 1 2 (.ptr id off) (I 1) K = K (.ptr id (off + 1)) := by
 show (bif Nat.ble (1 + 1) 2 then natK (off + 1 * 1) (fun o => K (.ptr id o)) else .no 14) = _
 rw [Nat.ble_eq_true_of_le (by omega), zX]; simp
theorem sAxF0 {a b : AV} {l : List AV} {K : AV → OP} : zO 1 2 (.fp (a :: b :: l)) (I 0) K = K (.fp (a :: b :: l)) := nr rfl
theorem sAxF1 {a b : AV} {l : List AV} {K : AV → OP} : zO 1 2 (.fp (a :: b :: l)) (I 1) K = K (.fp (b :: l)) := nr rfl
theorem sLdF {a : AV} {l : List AV} {h : T Blk} {K : AV → OP} : zA (.fp (a :: l)) h K = K a := nr rfl
theorem sLoadNP {a b : AV} {l : List AV} {h : T Blk} {K : AV → OP} : yB 2 (.fp (a :: b :: l)) h K = K (.agg [a, b]) := nr rfl
theorem sEqlP {a b c d : Int} {K : AV → OP} : sBin .eql (.agg 2) (.agg [I a, I b]) (.agg [I c, I d]) K = K (.bool (decide (a = c) && decide (b = d))) := by
 have e : sBin .eql (.agg 2) (.agg [I a, I b]) (.agg [I c, I d]) K = K (.bool (ieq a c && ieq b d)) := by
  have e1 : jZ [I a, I b] [I c, I d] = some (ieq a c && ieq b d) := by
   show (bif ieq a c then (bif ieq b d then some true else some false) else some false) = _
   cases ieq a c <;> cases ieq b d <;> rfl
  show (match jZ [I a, I b] [I c, I d] with | some r => eqOut .eql r K | none => Out.no 5) = _
  rw [e1]
  rfl
 rw [e, ieq_eq, ieq_eq]
 congr 3
theorem sSliceP {n i : Nat} {l : List AV} {op : AV → OP} (hn : 1 ≤ n) (hi : i ≤ n) : sSlice 2 (.lst 2 n l) none (some (I (i : Int))) none op = op (.lst 2 i (l.take (i * 2))) := by
 show (bif Nat.beq 2 2 && Nat.ble 1 n then (match bnd (some (I (i : Int))) n n with | none => Out.no 17 | some h => match bnd none h 0 with | none => .no 17 | some q => op (.lst 2 (h - q) ((l.drop (q * 2)).take ((h - q) * 2)))) else .no 17) = _
 rw [Nat.ble_eq_true_of_le hn]
 have : bnd (some (I (i : Int))) n n = some i := by
  show (bif Nat.ble i n then some i else none) = _
  rw [Nat.ble_eq_true_of_le hi]; rfl
 rw [this]
 show op (.lst 2 (i - 0) ((l.drop (0 * 2)).take ((i - 0) * 2))) = _
 simp
theorem encP_take {E : List (Int × Int)} {i : Nat} (h : i ≤ E.length) : AV.lst 2 i ((gR E).take (i * 2)) = encP (E.take i) := by
 rw [flat2_take]
 show _ = AV.lst 2 (E.take i).length (gR (E.take i))
 rw [List.length_take, Nat.min_eq_left h]
theorem sGW_tf2 (op : KW3 → OP) (h : T Blk) (nx : Pa) (k : KW3) : sGW (.bool true) false op h nx k = k .undef h nx := nr rfl
theorem sGW_ff2 (op : KW3 → OP) (h : T Blk) (nx : Pa) (k : KW3) : sGW (.bool false) false op h nx k = op k := nr rfl
end Go.Ev
namespace Go.Ev
open Go Go.RowKit Go.ChangeShapes Go.WideShapes Go.Deep Go.Joins
variable {H : Type} {enc : TypeId × Value → H} {P : Program}
theorem flatP_get : ∀ (q : List (Int × Int)) (i : Nat), (gR q)[i]? = (q[i / 2]?).map fun p => if i % 2 = 0 then I p.1 else I p.2
 | [], i => by simp [gR]
 | p :: q, 0 => rfl
 | p :: q, 1 => rfl
 | p :: q, i + 2 => by
  show (I p.1 :: I p.2 :: gR q)[i + 2]? = _
  rw [List.getElem?_cons_succ, List.getElem?_cons_succ, flatP_get q i, show (i + 2) / 2 = i / 2 + 1 by omega, show (i + 2) % 2 = i % 2 by omega, List.getElem?_cons_succ]
theorem open_listP {t e q : TypeId} {w : World} {base : Nat} {held : Bool} {fuel : Nat} {cs : List Value} {x : DataW H × List MemPlace} (ht : P.underlying t = some (.slice e)) (he : P.underlying e = some (.array 2 q)) (hq : P.underlying q = some (.int .i64))
  (ce : P.cellsOf e = 2) (cq : P.cellsOf q = 1) (h : DataW.trod enc P w base (fun _ => true) held fuel t cs = some x) :
  ∃ (l : List (Int × Int)) (v : Value), cs = [v] ∧ VR (allE w) (encP l) v ∧ l.length ≤ maxLen := by
 rcases open_slice ht h with ⟨rfl, _⟩ | ⟨a, len, cap, m, n, D, Pl, rfl, hb, hl, hm, hmm, _, hx⟩
 ·exact ⟨[], _, rfl, by simp only [VR]; exact ⟨rfl, rfl, none, 0, rfl, .inl rfl⟩, by simp⟩
 ·have each : ∀ i, i < len → ∃ p : Int × Int, w.cell? (a.add (i * 2)) = some (.int .i64 p.1) ∧ w.cell? (a.add (i * 2 + 1)) = some (.int .i64 p.2) := by
   intro i hi
   obtain ⟨cs', h1, h2⟩ := hx i (by rw [hmm, if_pos rfl]; omega)
   rw [ce] at h1
   obtain ⟨_, hlen, hcell⟩ := World.cells?_some h1
   obtain ⟨xs, k, hk, _, _, hxl, hf⟩ := DataW.trod_array he h2
   match xs, hxl, cs', hlen with
   | [y0, y1], _, [v0, v1], _ =>
    have g0 := hf 0 (by omega)
    have g1 := hf 1 (by omega)
    simp [cq] at g0 g1
    obtain ⟨p0, q0, _⟩ := DataW.trod_int hq g0
    obtain ⟨p1, q1, _⟩ := DataW.trod_int hq g1
    simp only [List.cons.injEq, and_true] at q0 q1
    subst q0 q1
    have e0 := hcell 0 (by omega)
    have e1 := hcell 1 (by omega)
    rw [add_add] at e0 e1
    exact ⟨(p0, p1), by simpa using e0, by simpa using e1⟩
  obtain ⟨Q, hQ⟩ := choose_lt each
  refine ⟨(List.range len).map Q, _, rfl, ?_, by simp; omega⟩
  simp only [VR]
  refine ⟨scal_flat2, flat2_len _, some a, cap, by simp, ?_⟩
  by_cases h0 : len = 0
  ·exact .inl (by simp [h0])
  ·obtain ⟨_, hs, _⟩ := cellOf_of_cell (hQ 0 (by omega)).1
   obtain ⟨b, off, sp⟩ := a
   have : sp = none := hs (by omega)
   subst this
   refine .inr ⟨b, off, rfl, by simpa using hl, VRF_mk fun i x hx => ?_⟩
   rw [flatP_get] at hx
   have hi : i / 2 < len := by
    cases e : ((List.range len).map Q)[i / 2]? with
    | none => rw [e] at hx; cases hx
    | some y => have := (List.getElem?_eq_some_iff.1 e).1; simpa using this
   rw [List.getElem?_map, List.getElem?_range hi] at hx
   have hx := Option.some.inj hx
   obtain ⟨g0, g1⟩ := hQ (i / 2) hi
   by_cases c : i % 2 = 0
   ·simp only [if_pos c] at hx
    obtain ⟨_, _, h3⟩ := cellOf_of_cell g0
    subst hx
    refine ⟨_, (show off + i = off + i / 2 * 2 by omega) ▸ h3, by simp only [VR]⟩
   ·simp only [if_neg c] at hx
    obtain ⟨_, _, h3⟩ := cellOf_of_cell g1
    subst hx
    refine ⟨_, (show off + i = off + (i / 2 * 2 + 1) by omega) ▸ h3, by simp only [VR]⟩
theorem open_graph {r : Reach} {b0 base : Nat} {held : Bool} {w : World} {t ti tl tr : TypeId} {f0 f1 : Field} {v : Value} {d : DataW H} {p : List MemPlace} (hs : P.underlying t = some (.struct #[f0, f1])) (hone : oneCellFields P #[f0, f1] = true) (hC : P.cellsOf t = 2)
  (e0 : f0.type = ti) (e1 : f1.type = tl) (u0 : P.underlying ti = some (.int .i64)) (u1 : P.underlying tl = some (.slice tr)) (u2 : P.underlying tr = some (.array 2 ti)) (c1 : P.cellsOf tr = 2) (c2 : P.cellsOf ti = 1)
  (hv : Value.okWide P w r b0 t v) (h : DataW.Trod enc P w base (fun _ => true) held t v d p) :
  ∃ (c : Int) (l : List (Int × Int)), VR (allE w) (.agg [I c, encP l]) v ∧ (Lit.int .i64 c).wf = true ∧ l.length ≤ maxLen := by
 obtain ⟨v0, v1, y0, y1, n, rfl, _, _, h0, h1⟩ := open_agg2 hs hone hC hv h
 rw [e0] at h0
 rw [e1] at h1
 obtain ⟨x, hx, _, hw⟩ := DataW.trod_int u0 h0
 simp only [List.cons.injEq, and_true] at hx
 subst hx
 obtain ⟨l, v', hv', g1, g2⟩ := open_listP u1 u2 u0 c1 c2 h1
 simp only [List.cons.injEq, and_true] at hv'
 subst hv'
 refine ⟨x, l, ?_, hw, g2⟩
 simp only [VR]
 exact ⟨rfl, _, rfl, VRL.cons (by simp only [VR]) (VRL.cons g1 VRL.nil)⟩
end Go.Ev
namespace Go.Ev
open Go Go.Proofs
theorem dreg {B : Nat} : DregAll Tryz.prog B Prop := dreg_all mixed
variable {B : Nat}
theorem sameInts35 {a b : List Int} (ha : a.length ≤ 1000000000) : Pure Tryz.prog B 35 [encI a, encI b] (· = .bool (decide (a = b))) := by
 intro p h nx K hK
 refine zZ yD dreg (a.length + 2) fun hf => ?_
 rw [F35.go]
 simp (disch := omega) only [sAdd, sSub, sMul, sEql, sNeq, sLss, sLeq, sGtr, sGeq, zI, zJ, zE, zD, yJ, yP, yV, yW, yE, yX, yT, jH, yN, yM, yL, zH, zT, zK, zC, decide_true, decide_false, Bool.not_true, Bool.not_false, yO]
 by_cases hl : a.length = b.length
 ·simp only [hl, decide_true, Bool.not_true, zD]
  refine F35.L2 (fun m z3 h' nx' => ∃ i : Nat, z3 = I i ∧ m = a.length - i ∧ i ≤ a.length ∧ h' = h ∧ nx' = nx ∧ a.take i = b.take i) (m := a.length) (by omega) ⟨0, rfl, by simp, by omega, rfl, rfl, by simp⟩ ?_
  rintro m z2 z3 z5 z6 _ _ R ⟨i, rfl, rfl, hi, rfl, rfl, htk⟩ hR
  simp (disch := omega) only [sAdd, sSub, sMul, sEql, sNeq, sLss, sLeq, sGtr, sGeq, zI, zJ, zE, zD, yJ, yP, yV, yW, yE, yX, yT, jH, yN, yM, yL, zH, zT, zK, zC, decide_true, decide_false, Bool.not_true, Bool.not_false, yO]
  by_cases hlt : i < a.length
  ·have h1 : (i : Int) < a.length := by omega
   have hb : i < b.length := by omega
   simp only [h1, decide_true, zE]
   rw [sIxL rfl hlt, ldL (getI (List.getElem?_eq_getElem hlt)), sIxL rfl hb, ldL (getI (List.getElem?_eq_getElem hb))]
   simp (disch := omega) only [sAdd, sSub, sMul, sEql, sNeq, sLss, sLeq, sGtr, sGeq, zI, zJ, zE, zD, yJ, yP, yV, yW, yE, yX, yT, jH, yN, yM, yL, zH, zT, zK, zC, decide_true, decide_false, Bool.not_true, Bool.not_false, yO]
   by_cases he : a[i] = b[i]
   ·simp only [he, decide_true, Bool.not_true, zD]
    refine hR (a.length - (i + 1)) _ _ _ _ _ _ (by omega) ⟨i + 1, rfl, rfl, by omega, rfl, rfl, ?_⟩
    rw [List.take_add_one, List.take_add_one, htk, List.getElem?_eq_getElem hlt, List.getElem?_eq_getElem hb, he]
   ·simp only [he, decide_false, Bool.not_false, zE]
    refine hK _ ?_ hf
    rw [decide_eq_false]
    rintro rfl
    exact he rfl
  ·have h1 : ¬ (i : Int) < a.length := by omega
   simp only [h1, decide_false, zD]
   rw [F35.k9]
   refine hK _ ?_ hf
   rw [List.take_of_length_le (by omega), List.take_of_length_le (by omega)] at htk
   rw [decide_eq_true htk]
 ·have h1 : ¬ (a.length : Int) = b.length := by omega
  simp only [h1, decide_false, Bool.not_false, zE]
  refine hK _ ?_ hf
  rw [decide_eq_false]
  rintro rfl; exact hl rfl
end Go.Ev
namespace Go.Ev
def addAt (y : List Nat) (i k : Nat) : List Nat := y.set i ((y.getD i 0 + k) % 256)
def addL (y : List Nat) (idx : List Nat) (k : Nat) : List Nat := idx.foldl (fun y i => addAt y i k) y
@[simp] theorem addAt_length (y : List Nat) (i k : Nat) : (addAt y i k).length = y.length := by simp [addAt]
@[simp] theorem addL_length (idx : List Nat) (k : Nat) : ∀ y : List Nat, (addL y idx k).length = y.length := by
 induction idx with
 | nil => intro y; rfl
 | cons i l ih => intro y; show (addL (addAt y i k) l k).length = _; rw [ih]; simp
theorem addL_snoc (y : List Nat) (l : List Nat) (i k : Nat) : addL y (l ++ [i]) k = addAt (addL y l k) i k := by simp [addL]
def onP (lines : List (List Int)) (i c : Nat) : List Nat := (List.range i).flatMap fun j => ((lines.getD j []).filter (· = (c : Int))).map fun _ => j
abbrev onC (lines : List (List Int)) (c : Nat) : List Nat := onP lines lines.length c
theorem onP_succ (lines : List (List Int)) (i c : Nat) : onP lines (i + 1) c = onP lines i c ++ ((lines.getD i []).filter (· = (c : Int))).map fun _ => i := by
 simp [onP, List.range_succ, List.flatMap_append]
theorem onP_lt {lines : List (List Int)} {i c x : Nat} (h : x ∈ onP lines i c) : x < i := by
 simp only [onP, List.mem_flatMap, List.mem_range, List.mem_map] at h
 obtain ⟨j, h1, y, _, rfl⟩ := h
 exact h1
def tallyT (lines : List (List Int)) (most fr : Nat) : Nat → List (List Nat)
 | 0 => [List.replicate lines.length 0]
 | n + 1 => (tallyT lines most fr n).flatMap fun x => (List.range (most + 1)).map fun k => addL x (onC lines (fr + n)) k
theorem tallyT_length (lines : List (List Int)) (most fr : Nat) : ∀ n, (tallyT lines most fr n).length = (most + 1) ^ n
 | 0 => rfl
 | n + 1 => by
  simp only [tallyT, List.length_flatMap, List.length_map, List.length_range, List.map_const', List.sum_replicate_nat]
  rw [tallyT_length lines most fr n, Nat.pow_succ]
def blk (x : List Nat) (idx : List Nat) (n : Nat) : Nat → List (List Nat)
 | 0 => []
 | j + 1 => List.replicate n (addL x idx j) ++ blk x idx n j
theorem blk_length (x idx : List Nat) (n : Nat) : ∀ j, (blk x idx n j).length = j * n
 | 0 => by simp [blk]
 | j + 1 => by simp [blk, blk_length x idx n j, Nat.add_mul]; omega
theorem perm_self (ks G : List (List Nat)) (nd : ks.Nodup) (hm : ∀ y, y ∈ ks ↔ y ∈ G) : (ks.flatMap fun x => List.replicate (G.count x) x).Perm G := by
 rw [List.perm_iff_count]
 intro y
 have key : ∀ (l : List (List Nat)), l.Nodup → (l.flatMap fun x => List.replicate (G.count x) x).count y = if y ∈ l then G.count y else 0 := by
  intro l
  induction l with
  | nil => intro _; rfl
  | cons a l ih =>
   intro nd
   rw [List.flatMap_cons, List.count_append, ih (List.nodup_cons.1 nd).2, List.count_replicate]
   by_cases e : y = a
   ·subst e
    have : y ∉ l := (List.nodup_cons.1 nd).1
    simp [this]
   ·have : ¬ (a == y) = true := by simpa using fun q => e q.symm
    simp [this, e]
 rw [key ks nd]
 by_cases e : y ∈ ks
 ·rw [if_pos e]
 ·rw [if_neg e, List.count_eq_zero.2 fun q => e ((hm y).2 q)]
theorem blk_perm (x idx : List Nat) (n : Nat) : ∀ j, (blk x idx n j).Perm ((List.replicate n x).flatMap fun x => (List.range j).map fun k => addL x idx k)
 | 0 => by
  have : ((List.replicate n x).flatMap fun x => (List.range 0).map fun k => addL x idx k) = [] := by simp
  rw [this]; exact .refl _
 | j + 1 => by
  refine (List.Perm.append_left _ (blk_perm x idx n j)).trans ?_
  clear blk_perm
  induction n with
  | zero => simp
  | succ n ih =>
   rw [List.replicate_succ, List.replicate_succ, List.flatMap_cons, List.flatMap_cons, List.range_succ, List.map_append, List.map_singleton]
   rw [List.range_succ] at ih
   generalize addL x idx j = a at *
   generalize (List.range j).map (fun k => addL x idx k) = r at *
   have : (a :: List.replicate n a ++ (r ++ (List.replicate n x).flatMap fun x => (List.range j).map fun k => addL x idx k)).Perm (r ++ [a] ++ (List.replicate n a ++ (List.replicate n x).flatMap fun x => (List.range j).map fun k => addL x idx k)) := by
    rw [List.perm_iff_count]; intro y; simp only [List.count_append, List.count_cons, List.cons_append, List.nil_append, List.count_nil]; omega
   refine this.trans ?_
   exact List.Perm.append_left _ ih
theorem next_perm (ks G : List (List Nat)) (idx : List Nat) (j : Nat) (nd : ks.Nodup) (hm : ∀ y, y ∈ ks ↔ y ∈ G) : (ks.flatMap fun x => blk x idx (G.count x) j).Perm (G.flatMap fun x => (List.range j).map fun k => addL x idx k) := by
 refine List.Perm.trans ?_ ((perm_self ks G nd hm).flatMap_right _)
 rw [List.flatMap_assoc]
 clear hm nd
 induction ks with
 | nil => exact .refl _
 | cons a l ih =>
  rw [List.flatMap_cons, List.flatMap_cons]
  exact (blk_perm a idx _ j).append ih
theorem seen_perm {n : Nat} {seen : List Nat} (nd : seen.Nodup) (h1 : ∀ i ∈ seen, i < n) (h2 : ∀ i, i < n → i ∈ seen) : seen.Perm (List.range n) := by
 rw [List.perm_iff_count]
 intro a
 rw [nd.count, List.nodup_range.count]
 by_cases e : a < n
 ·rw [if_pos (h2 a e), if_pos (by simpa using e)]
 ·rw [if_neg fun q => e (h1 a q), if_neg (by simpa using e)]
end Go.Ev
namespace Go.Ev
open Go Go.Proofs
variable {B : Nat}
abbrev nI (x : Nat) : AV := I (x : Int)
noncomputable abbrev Lt (on bx : Pa) (cells : Nat) (lines : List (List Int)) (o : Nat → Option Pa) (D : Nat → List Nat) (L : List Ob) : List Ob :=
 .arr on (rowL cells fun c => rowV (o c) 1 (D c).length) :: .arr bx [I cells, encT lines] :: (rowL cells (fun c => Ob.gro (o c) 1 (D c).length ((D c).map nI)) ++ L)
theorem Lt_get {on bx : Pa} {cells c : Nat} {lines : List (List Int)} {o : Nat → Option Pa} {D : Nat → List Nat} {L : List Ob} (hc : c < cells) : (Lt on bx cells lines o D L)[c + 2]? = some (.gro (o c) 1 (D c).length ((D c).map nI)) := by
 show (rowL cells _ ++ L)[c]? = _
 rw [List.getElem?_append_left (by simpa using hc), rowL_get hc]
theorem F89.on {N : Nat} {K0 : Kw Prop} {K : Ks Prop} {h0 h : T Blk} {nx : Pa} {L : List Ob} {x0 x1 x2 x3 x5 x7 x8 x9 x10 x11 x12 x13 x14 x15 x16 x17 x21 x22 x23 x24 x25 x26 x27 x28 x29 x30 x31 x32 x33 : AV} {on bx : Pa} {cells : Nat} {lines : List (List Int)} (hN : 100000000 < N) (hm : lines.length ≤ 128) (hw : ∀ l ∈ lines, l.length ≤ 1000) (hl : ∀ l ∈ lines, ∀ c ∈ l, 0 ≤ c ∧ c < (cells : Int))
  (H : Hp h0 h nx (.arr on (List.replicate cells .nils) :: .arr bx [I cells, encT lines] :: L))
  (hK : ∀ x7 x8 x9 x20 x21 x22 x23 x24 x25 h' nx' o, Hp h0 h' nx' (Lt on bx cells lines o (onC lines) L) → K (F89.fr x0 x1 x2 x3 (.ptr bx 0) x5 (.sl on 0 cells (some cells) 1) x7 x8 x9 x10 x11 x12 x13 x14 x15 x16 x17 (encT lines) (I lines.length) x20 x21 x22 x23 x24 x25 x26 x27 x28 x29 x30 x31 x32 x33) h' nx' = .ok True) :
  IR.run F89.b1 (CS Tryz.prog B) N (fnO F89.res K0) K (F89.fr x0 x1 x2 x3 (.ptr bx 0) x5 (.sl on 0 cells (some cells) 1) x7 x8 x9 x10 x11 x12 x13 x14 x15 x16 x17 (encT lines) (I lines.length) (I 0) x21 x22 x23 x24 x25 x26 x27 x28 x29 x30 x31 x32 x33) h nx = .ok True := by
 refine F89.L1 (fun m x20 h' nx' => ∃ (i : Nat) (o : Nat → Option Pa), x20 = I i ∧ lines.length - i = m ∧ i ≤ lines.length ∧ Hp h0 h' nx' (Lt on bx cells lines o (onP lines i) L)) (m := lines.length) (by omega) ⟨0, fun _ => none, rfl, rfl, by omega, ?_⟩ ?_
 ·have H2 := (H.addE (E := rowL cells fun _ => Ob.gro none 1 0 []) fun x hx => by
   obtain ⟨j, _, rfl⟩ := rowL_mem hx
   exact ⟨rfl, fun _ => ⟨rfl, rfl⟩⟩).perm (List.perm_append_comm (l₂ := .arr on (List.replicate cells .nils) :: .arr bx [I cells, encT lines] :: L))
  refine (H2.perm (L' := .arr on (List.replicate cells .nils) :: .arr bx [I cells, encT lines] :: (rowL cells (fun _ => Ob.gro none 1 0 []) ++ L)) ?_).cast ?_
  ·exact (List.perm_append_comm.cons _).cons _
  ·rw [rowL_const]; rfl
 rintro m z7 z8 z9 z20 z21 z22 z23 z24 z25 h1 nx1 R ⟨i, o, rfl, rfl, hi, H1⟩ hR
 simp (disch := omega) only [sAdd, sSub, sMul, sEql, sNeq, sLss, sLeq, sGtr, sGeq, zI, zJ, zE, zD, yJ, yP, yV, yW, yE, yX, yT, jH, yN, yM, yL, zH, zT, zK, zC, decide_true, decide_false, Bool.not_true, Bool.not_false, yO]
 by_cases hlt : i < lines.length
 case neg =>
  simp only [show ¬ (i : Int) < (lines.length : Int) by omega, decide_false, zD]
  obtain rfl : i = lines.length := by omega
  exact hK _ _ _ _ _ _ _ _ _ _ _ _ H1
 simp only [show (i : Int) < (lines.length : Int) by omega, decide_true, zE]
 obtain ⟨line, hline⟩ : ∃ l, lines[i]? = some l := ⟨_, List.getElem?_eq_getElem hlt⟩
 have hmem := List.mem_of_getElem? hline
 have hgd : lines.getD i [] = line := by rw [List.getD_eq_getElem?_getD, hline]; rfl
 rw [sIxL rfl hlt, ldL (getT hline)]
 simp (disch := omega) only [sAdd, sSub, sMul, sEql, sNeq, sLss, sLeq, sGtr, sGeq, zI, zJ, zE, zD, yJ, yP, yV, yW, yE, yX, yT, jH, yN, yM, yL, zH, zT, zK, zC, decide_true, decide_false, Bool.not_true, Bool.not_false, yO]
 have hlw := hw _ hmem
 refine F89.L7 (fun m x24 h' nx' => ∃ (j : Nat) (o : Nat → Option Pa), x24 = I j ∧ line.length - j = m ∧ j ≤ line.length ∧ Hp h0 h' nx' (Lt on bx cells lines o (fun c => onP lines i c ++ ((line.take j).filter (· = (c : Int))).map fun _ => i) L)) (m := line.length) (by omega) ⟨0, o, rfl, rfl, by omega, H1.cast (by simp [Lt])⟩ ?_
 rintro m z9 z24 z25 h2 nx2 R2 ⟨j, o2, rfl, rfl, hj, H2⟩ hR2
 simp (disch := omega) only [sAdd, sSub, sMul, sEql, sNeq, sLss, sLeq, sGtr, sGeq, zI, zJ, zE, zD, yJ, yP, yV, yW, yE, yX, yT, jH, yN, yM, yL, zH, zT, zK, zC, decide_true, decide_false, Bool.not_true, Bool.not_false, yO]
 by_cases hjt : j < line.length
 case neg =>
  simp only [show ¬ (j : Int) < (line.length : Int) by omega, decide_false, zD]
  rw [F89.k14]
  simp (disch := omega) only [sAdd, sSub, sMul, sEql, sNeq, sLss, sLeq, sGtr, sGeq, zI, zJ, zE, zD, yJ, yP, yV, yW, yE, yX, yT, jH, yN, yM, yL, zH, zT, zK, zC, decide_true, decide_false, Bool.not_true, Bool.not_false, yO]
  refine hR (lines.length - (i + 1)) _ _ _ _ _ _ _ _ _ _ _ (by omega) ⟨i + 1, o2, rfl, rfl, by omega, H2.cast ?_⟩
  have : ∀ c, onP lines (i + 1) c = onP lines i c ++ ((line.take j).filter (· = (c : Int))).map fun _ => i := fun c => by
   rw [onP_succ, hgd, List.take_of_length_le (by omega)]
  simp only [Lt, this]
 simp only [show (j : Int) < (line.length : Int) by omega, decide_true, zE]
 obtain ⟨cz, hcz⟩ : ∃ c, line[j]? = some c := ⟨_, List.getElem?_eq_getElem hjt⟩
 have hcr := hl _ hmem cz (List.mem_of_getElem? hcz)
 obtain ⟨c, rfl⟩ : ∃ c : Nat, cz = c := ⟨cz.toNat, by omega⟩
 have hc : c < cells := by omega
 rw [sIxL rfl hjt, ldL (getI hcz), sIx (i := c) rfl hc, H2.load (k := 0) rfl (rowL_get hc)]
 refine H2.bslice (l := [I i]) rfl fun t h3 nx3 H3 => ?_
 refine H3.appN (k := c + 3) (o := o2 c) (c := 1) (new := [I i]) (by exact Lt_get (on := on) (bx := bx) (lines := lines) hc) (HasArr.rd (l := [I i]) (n := 1) (H3.own _ (List.mem_cons_self ..)) rfl) rfl rfl (by decide) (by decide) ?_ fun o' h4 nx4 _ H4 => ?_
 ·have h1 : (onP lines i c).length ≤ 128000 := by
   have : ∀ i, i ≤ lines.length → (onP lines i c).length ≤ i * 1000 := by
    intro i
    induction i with
    | zero => intro _; simp [onP]
    | succ i ih =>
     intro hi
     rw [onP_succ, List.length_append, List.length_map]
     have h2 := ih (by omega)
     have h3 : ((lines.getD i []).filter (· = (c : Int))).length ≤ 1000 := by
      refine Nat.le_trans (List.length_filter_le _ _) ?_
      rw [List.getD_eq_getElem?_getD, List.getElem?_eq_getElem (by omega)]
      exact hw _ (List.getElem_mem _)
     omega
   have h9 := this i hi
   clear this
   omega
  have h2 : (((line.take j).filter (· = (c : Int))).map fun _ => i).length ≤ 1000 := by
   rw [List.length_map]
   refine Nat.le_trans (List.length_filter_le _ _) ?_
   rw [List.length_take]; omega
  rw [List.length_append]; omega
 rw [sIx (i := c) rfl hc]
 refine H4.store (k := 1) rfl (by simpa using hc) (rowV_cells _ _ _) fun h5 H5 => ?_
 refine hR2 (line.length - (j + 1)) _ _ _ _ _ (by omega) ⟨j + 1, fun p => if p = c then o' else o2 p, rfl, rfl, by omega, H5.drop.cast ?_⟩
 have hD : ∀ p : Nat, (onP lines i p ++ ((line.take (j + 1)).filter (· = (p : Int))).map fun _ => i) = if p = c then (onP lines i c ++ ((line.take j).filter (· = (c : Int))).map fun _ => i) ++ [i] else onP lines i p ++ ((line.take j).filter (· = (p : Int))).map fun _ => i := fun p => by
  rw [List.take_add_one, hcz]
  by_cases e : p = c
  ·subst e; simp
  ·have : ¬ (c : Int) = (p : Int) := by omega
   simp [e, this]
 simp only [hD]
 simp only [Lt, List.set_cons_succ, List.set_cons_zero, List.tail_cons]
 have e1 : ∀ x : Ob, (rowL cells (fun p => Ob.gro (o2 p) 1 (onP lines i p ++ ((line.take j).filter (· = (p : Int))).map fun _ => i).length ((onP lines i p ++ ((line.take j).filter (· = (p : Int))).map fun _ => i).map nI)) ++ L).set c x = rowL cells (fun p => if p = c then x else Ob.gro (o2 p) 1 (onP lines i p ++ ((line.take j).filter (· = (p : Int))).map fun _ => i).length ((onP lines i p ++ ((line.take j).filter (· = (p : Int))).map fun _ => i).map nI)) ++ L := fun x => by
  rw [List.set_append_left _ _ (by simpa using hc), rowL_set]
 rw [e1, rowL_set]
 congr 1
 ·congr 1
  refine rowL_congr fun p _ => ?_
  by_cases e : p = c
  ·subst e; simp [Nat.add_assoc]
  ·simp [e]
 ·congr 2
  refine rowL_congr fun p _ => ?_
  by_cases e : p = c
  ·subst e; simp [Nat.add_assoc]
  ·simp [e]
theorem sConv_u8 {k : IntKind} {x : Nat} {K : AV → OP} : sConv .u8 (.int k (x : Int)) K = K (u8 (x % 256)) := by
 show intK (wrapF .u8 (x : Int)) (fun z => K (.int .u8 z)) = _
 rw [uA, wrapF_eq, IntKind.wrap_u8]
 have : u8 (x % 256) = .int .u8 ((x : Int) % 256) := by unfold u8; congr 1
 rw [this]
theorem sAdd_u8 {x y : Nat} {K : AV → OP} : sBin .add .int (u8 x) (u8 y) K = K (u8 ((x + y) % 256)) := by
 rw [sAddW, IntKind.wrap_u8]
 have : u8 ((x + y) % 256) = .int .u8 (((x : Int) + (y : Int)) % 256) := by unfold u8; congr 1
 rw [this]
theorem F89.add {N : Nat} {K0 : Kw Prop} {E4 E5 E6 E7 E8 E9 K : Ks Prop} {h0 h : T Blk} {nx : Pa} {L : List Ob} {x0 x1 x2 x3 x4 x5 x6 x7 x8 x9 x10 x11 x12 x13 x14 x17 x18 x19 x20 x21 x22 x23 x24 x25 x26 x27 x28 x29 x33 : AV} {yb : Pa} {y : Key} {idx : List Nat} {o : Option Pa} {k c : Nat} (hN : 100000000 < N) (hy : y.length ≤ 128) (hi : ∀ x ∈ idx, x < y.length) (hn : idx.length ≤ 1000000)
  (H : Hp h0 h nx (.arr yb (yK y) :: L)) (hc : L[c]? = some (.gro o 1 idx.length (idx.map nI)))
  (hK : ∀ x17 x32 x33 h' nx', Hp h0 h' nx' (.arr yb (yK (addL y idx k)) :: L) → K (F89.fr x0 x1 x2 x3 x4 x5 x6 x7 x8 x9 x10 x11 x12 x13 x14 (I k) (.ptr yb 0) x17 x18 x19 x20 x21 x22 x23 x24 x25 x26 x27 x28 x29 (rowV o 1 idx.length) (I idx.length) x32 x33) h' nx' = .ok True) :
  IR.run F89.b33 (CS Tryz.prog B) N (((((((fnO F89.res K0).blk 4 E4).blk 5 E5).blk 6 E6).blk 7 E7).blk 8 E8).blk 9 E9) K (F89.fr x0 x1 x2 x3 x4 x5 x6 x7 x8 x9 x10 x11 x12 x13 x14 (I k) (.ptr yb 0) x17 x18 x19 x20 x21 x22 x23 x24 x25 x26 x27 x28 x29 (rowV o 1 idx.length) (I idx.length) (I 0) x33) h nx = .ok True := by
 refine F89.L33 (fun m x32 h' nx' => ∃ j : Nat, x32 = I j ∧ idx.length - j = m ∧ j ≤ idx.length ∧ Hp h0 h' nx' (.arr yb (yK (addL y (idx.take j) k)) :: L)) (m := idx.length) (by omega) ⟨0, rfl, rfl, by omega, H⟩ ?_
 rintro m z17 z32 z33 h1 nx1 R ⟨j, rfl, rfl, hj, H1⟩ hR
 simp (disch := omega) only [sAdd, sSub, sMul, sEql, sNeq, sLss, sLeq, sGtr, sGeq, zI, zJ, zE, zD, yJ, yP, yV, yW, yE, yX, yT, jH, yN, yM, yL, zH, zT, zK, zC, decide_true, decide_false, Bool.not_true, Bool.not_false, yO]
 by_cases hlt : j < idx.length
 case neg =>
  simp only [show ¬ (j : Int) < (idx.length : Int) by omega, decide_false, zD]
  rw [List.take_of_length_le (by omega)] at H1
  exact hK _ _ _ _ _ H1
 simp only [show (j : Int) < (idx.length : Int) by omega, decide_true, zE]
 obtain ⟨x, hx⟩ : ∃ x, idx[j]? = some x := ⟨_, List.getElem?_eq_getElem hlt⟩
 have hxl := hi x (List.mem_of_getElem? hx)
 obtain ⟨id, q1, q2⟩ := H1.groIx (k := c + 1) (by exact hc) (v := I x) (by rw [List.getElem?_map, hx]; rfl)
 have hyl : x < (addL y (idx.take j) k).length := by simpa using hxl
 rw [q1, q2, sAx (i := x) rfl (by omega), H1.load (k := 0) rfl (cellsK_get (List.getElem?_eq_getElem hyl)), sConv_u8, sAdd_u8, sAx (i := x) rfl (by omega)]
 refine H1.store (k := 0) rfl (by rw [jB (by simpa using hy)]; omega) rfl fun h2 H2 => ?_
 refine hR (idx.length - (j + 1)) _ _ _ _ _ (by omega) ⟨j + 1, rfl, rfl, by omega, H2.cast ?_⟩
 rw [List.set_cons_zero, cellsK_set hyl, List.take_add_one, hx]
 show _ = .arr yb (yK (addL y (idx.take j ++ [x]) k)) :: L
 rw [addL_snoc, addAt]
 congr 3
 congr 1
 rw [List.getD_eq_getElem?_getD, List.getElem?_eq_getElem hyl]
 simp
theorem Hp.dropL {h0 h : T Blk} {nx : Pa} : ∀ {A L : List Ob}, Hp h0 h nx (A ++ L) → Hp h0 h nx L
 | [], _, H => H
 | _ :: _, _, H => Hp.dropL H.drop
theorem Hp.dropMid {h0 h : T Blk} {nx : Pa} {A L : List Ob} {x : Ob} (H : Hp h0 h nx (x :: (A ++ L))) : Hp h0 h nx (x :: L) :=
 Hp.dropL (H.perm List.perm_middle.symm)
theorem F89.ks {N : Nat} {K0 : Kw Prop} {E4 E5 E6 E7 K : Ks Prop} {h0 h : T Blk} {nx : Pa} {Lr : List Ob} {x0 x1 x2 x4 x5 x7 x8 x9 x10 x16 x17 x18 x19 x20 x21 x22 x23 x24 x25 x26 x27 x28 x29 x30 x31 x32 x33 : AV} {xb nid on : Pa} {hdr : List AV} {x : Key} {idx : List Nat} {o : Option Pa} {ks G : List Key} {m most n p q r c cells : Nat} (hN : 100000000 < N) (hm : m ≤ 128) (hx : x.length = m) (hi : ∀ z ∈ idx, z < m) (hidx : idx.length ≤ 1000000) (hmost : most ≤ 1000) (hn : 1 ≤ n) (hG : G.length + (most + 2) * n ≤ 4000000000000000000)
  (H : Hp h0 h nx (.arr xb (yK x) :: Lr)) (hp : Lr[p]? = some (.map nid (ks.map (entK (cntV G))))) (O : KsOk m ks G) (hq : Lr[q]? = some (.arr on hdr)) (hqp : p ≠ q) (hh : hdr[c]? = some (rowV o 1 idx.length)) (hr : Lr[r]? = some (.gro o 1 idx.length (idx.map nI))) (hrp : p ≠ r) (hc : c < cells)
  (hK : ∀ x15 x16 x17 x29 x30 x31 x32 x33 h' nx' ks', KsOk m ks' (blk x idx n (most + 1) ++ G) → Hp h0 h' nx' (.arr xb (yK x) :: Lr.set p (.map nid (ks'.map (entK (cntV (blk x idx n (most + 1) ++ G)))))) → K (F89.fr x0 x1 x2 (I most) x4 x5 (.sl on 0 cells (some cells) 1) x7 x8 x9 x10 (I c) (.map nid) (.ptr xb 0) (I n) x15 x16 x17 x18 x19 x20 x21 x22 x23 x24 x25 x26 x27 x28 x29 x30 x31 x32 x33) h' nx' = .ok True) :
  IR.run F89.b27 (CS Tryz.prog B) N (((((fnO F89.res K0).blk 4 E4).blk 5 E5).blk 6 E6).blk 7 E7) K (F89.fr x0 x1 x2 (I most) x4 x5 (.sl on 0 cells (some cells) 1) x7 x8 x9 x10 (I c) (.map nid) (.ptr xb 0) (I n) (I 0) x16 x17 x18 x19 x20 x21 x22 x23 x24 x25 x26 x27 x28 x29 x30 x31 x32 x33) h nx = .ok True := by
 refine F89.L27 (fun m' x15 h' nx' => ∃ (k : Nat) (ks' : List Key), x15 = I k ∧ most + 1 - k = m' ∧ k ≤ most + 1 ∧ KsOk m ks' (blk x idx n k ++ G) ∧ Hp h0 h' nx' (.arr xb (yK x) :: Lr.set p (.map nid (ks'.map (entK (cntV (blk x idx n k ++ G))))))) (m := most + 1) (by omega) ⟨0, ks, rfl, rfl, by omega, O, H.cast ?_⟩ ?_
 ·have e : Lr.set p (.map nid (ks.map (entK (cntV G)))) = Lr := by rw [(getSplit hp).2]; exact (getSplit hp).1.symm
  exact congrArg _ e.symm
 rintro m' z15 z16 z17 z29 z30 z31 z32 z33 h1 nx1 R ⟨k, ks1, rfl, rfl, hk, O1, H1⟩ hR
 simp (disch := omega) only [sAdd, sSub, sMul, sEql, sNeq, sLss, sLeq, sGtr, sGeq, zI, zJ, zE, zD, yJ, yP, yV, yW, yE, yX, yT, jH, yN, yM, yL, zH, zT, zK, zC, decide_true, decide_false, Bool.not_true, Bool.not_false, yO]
 by_cases hlt : k ≤ most
 case neg =>
  simp only [show ¬ (k : Int) ≤ (most : Int) by omega, decide_false, zD]
  obtain rfl : k = most + 1 := by omega
  exact hK _ _ _ _ _ _ _ _ _ _ _ O1 H1
 simp only [show (k : Int) ≤ (most : Int) by omega, decide_true, zE]
 have hpl := (List.getElem?_eq_some_iff.1 hp).1
 rw [H1.loadN (k := 0) rfl (jB (by omega))]
 refine H1.alloc fun yb h2 nx2 H2 => ?_
 refine H2.storeN (k := 0) rfl rfl (jB (by omega)) fun h3 H3 => ?_
 have H3 : Hp h0 h3 nx2 (.arr yb (yK x) :: .arr xb (yK x) :: Lr.set p (.map nid (ks1.map (entK (cntV (blk x idx n k ++ G)))))) := H3
 have hq3 : (Lr.set p (.map nid (ks1.map (entK (cntV (blk x idx n k ++ G))))))[q]? = some (.arr on hdr) := by rw [List.getElem?_set_ne hqp]; exact hq
 have hr3 : (Lr.set p (.map nid (ks1.map (entK (cntV (blk x idx n k ++ G))))))[r]? = some (.gro o 1 idx.length (idx.map nI)) := by rw [List.getElem?_set_ne hrp]; exact hr
 rw [sIx (i := c) rfl hc, H3.load (k := q + 2) hq3 hh, H3.groLen (k := r + 2) hr3]
 refine F89.add (k := k) hN (by omega) (fun z hz => by rw [hx]; exact hi z hz) hidx H3 (c := r + 1) hr3 fun y17 y32 y33 h4 nx4 H4 => ?_
 rw [F89.k40]
 rw [H4.loadN (k := 0) rfl (jB (by rw [addL_length]; omega))]
 have hlen : (blk x idx n k ++ G).length + n ≤ 4000000000000000000 := by
  rw [List.length_append, blk_length]
  have : k * n + n ≤ (most + 2) * n := by
   have := Nat.mul_le_mul_right n (show k + 1 ≤ most + 2 by omega)
   rw [Nat.add_mul] at this; omega
  omega
 refine H4.mapAdd (k := p + 2) (nn := n) (y := addL x idx k) hm (by exact List.getElem?_set_self hpl) O1 (by rw [addL_length]; exact hx) hn (by omega) (K := fun h9 n10 => IR.run F89.b41 (CS Tryz.prog B) N ((((((fnO F89.res K0).blk 4 E4).blk 5 E5).blk 6 E6).blk 7 E7).blk 8 K) R _ h9 n10) fun h5 ks2 O2 H5 => ?_
 rw [F89.k41, sAdd (by omega)]
 refine hR (most + 1 - (k + 1)) _ _ _ _ _ _ _ _ _ _ (by omega) ⟨k + 1, ks2, rfl, rfl, by omega, O2.perm (by simp [blk]), H5.drop.cast ?_⟩
 simp only [List.set_cons_succ, List.tail_cons, List.set_set]
 rw [blk, List.append_assoc]
abbrev blkAt (ks G : List Key) (idx : List Nat) (most : Nat) (i : Nat) : List Key := blk (ks.getD i []) idx (G.count (ks.getD i [])) (most + 1)
theorem flatMap_len {α : Type} {f : α → List Key} {M : Nat} : ∀ (l : List α), (∀ i ∈ l, (f i).length ≤ M) → (l.flatMap f).length ≤ l.length * M
 | [], _ => by simp
 | a :: l, h => by
  have h1 := h a (by simp)
  have h2 := flatMap_len l fun i hi => h i (by simp [hi])
  rw [List.flatMap_cons, List.length_append, List.length_cons, Nat.add_mul]; omega
theorem F89.ents {N : Nat} {K0 : Kw Prop} {E4 E5 K : Ks Prop} {h0 h : T Blk} {nx : Pa} {L : List Ob} {x0 x1 x2 x4 x5 x7 x8 x9 x10 x13 x14 x15 x16 x17 x18 x19 x20 x21 x22 x23 x24 x25 x26 x28 x29 x30 x31 x32 x33 : AV} {it mid nid on bx : Pa} {o : Nat → Option Pa} {lines : List (List Int)} {ksM GM : List Key} {most c cells : Nat} (hN : 100000000 < N) (hm : lines.length ≤ 128) (hD : ∀ c, (onC lines c).length ≤ 1000000) (hmost : most ≤ 1000) (hGM : GM.length ≤ 1000000) (O : KsOk lines.length ksM GM) (hkl : ksM.length ≤ 1000000) (hc : c < cells)
  (H : Hp h0 h nx (.iter it mid (ksM.map (entK (cntV GM))).length [] (ksM.map (entK (cntV GM))).length :: .map nid [] :: .map mid (ksM.map (entK (cntV GM))) :: Lt on bx cells lines o (onC lines) L))
  (hK : ∀ x13 x14 x15 x16 x17 x28 x29 x30 x31 x32 x33 h' nx' ks' G', KsOk lines.length ks' G' → G'.Perm (GM.flatMap fun x => (List.range (most + 1)).map fun k => addL x (onC lines c) k) → Hp h0 h' nx' (.map nid (ks'.map (entK (cntV G'))) :: .map mid (ksM.map (entK (cntV GM))) :: Lt on bx cells lines o (onC lines) L) → K (F89.fr x0 x1 x2 (I most) x4 x5 (.sl on 0 cells (some cells) 1) x7 x8 x9 x10 (I c) (.map nid) x13 x14 x15 x16 x17 x18 x19 x20 x21 x22 x23 x24 x25 x26 (.ptr it 0) x28 x29 x30 x31 x32 x33) h' nx' = .ok True) :
  IR.run F89.b22 (CS Tryz.prog B) N (((fnO F89.res K0).blk 4 E4).blk 5 E5) K (F89.fr x0 x1 x2 (I most) x4 x5 (.sl on 0 cells (some cells) 1) x7 x8 x9 x10 (I c) (.map nid) x13 x14 x15 x16 x17 x18 x19 x20 x21 x22 x23 x24 x25 x26 (.ptr it 0) x28 x29 x30 x31 x32 x33) h nx = .ok True := by
 refine F89.L22 (fun m' h' nx' => ∃ (seen : List Nat) (ks' : List Key), (gG ksM.length seen).length = m' ∧ seen.length + m' = ksM.length ∧ seen.Nodup ∧ (∀ i ∈ seen, i < ksM.length) ∧ KsOk lines.length ks' (seen.flatMap (blkAt ksM GM (onC lines c) most)) ∧
  Hp h0 h' nx' (.iter it mid (ksM.map (entK (cntV GM))).length seen (ksM.map (entK (cntV GM))).length :: .map nid (ks'.map (entK (cntV (seen.flatMap (blkAt ksM GM (onC lines c) most))))) :: .map mid (ksM.map (entK (cntV GM))) :: Lt on bx cells lines o (onC lines) L)) (m := ksM.length) (by omega) ⟨[], [], by (have e : gG ksM.length [] = List.range ksM.length := List.filter_eq_self.2 (by simp)); rw [e]; simp, by simp, by simp, by simp, KsOk.nil _, H⟩ ?_
 rintro m' z13 z14 z15 z16 z17 z28 z29 z30 z31 z32 z33 h1 nx1 R ⟨seen, ks1, rfl, hsl, hnd, hlt, O1, H1⟩ hR
 refine H1.next (k := 0) (j := 2) rfl rfl (fun hall => ?_) fun i a b h2 hi hns hab H2 => ?_
 ·simp (disch := omega) only [sAdd, sSub, sMul, sEql, sNeq, sLss, sLeq, sGtr, sGeq, zI, zJ, zE, zD, yJ, yP, yV, yW, yE, yX, yT, jH, yN, yM, yL, zH, zT, zK, zC, decide_true, decide_false, Bool.not_true, Bool.not_false, yO]
  refine hK _ _ _ _ _ _ _ _ _ _ _ _ _ ks1 _ O1 ?_ H1.drop
  have hsp := seen_perm hnd hlt fun i hi => hall i (by simpa using hi)
  refine (hsp.flatMap_right _).trans ?_
  have e : (List.range ksM.length).flatMap (blkAt ksM GM (onC lines c) most) = ksM.flatMap fun x => blk x (onC lines c) (GM.count x) (most + 1) := by
   have : ksM = (List.range ksM.length).map fun i => ksM.getD i [] := by
    have := rowL_self ksM []
    exact this
   conv => rhs; rw [this]
   rw [List.flatMap_map]
  rw [e]
  exact next_perm ksM GM (onC lines c) (most + 1) O.nd O.mem
 ·have hi' : i < ksM.length := by simpa using hi
  obtain ⟨x, hx⟩ : ∃ x, ksM[i]? = some x := ⟨_, List.getElem?_eq_getElem hi'⟩
  have hxm := List.mem_of_getElem? hx
  rw [List.getElem?_map, hx] at hab
  obtain ⟨rfl, rfl⟩ : encK x = a ∧ cntV GM x = b := by simpa [entK] using hab
  have hgx : ksM.getD i [] = x := by rw [List.getD_eq_getElem?_getD, hx]; rfl
  have hxl := O.klen x hxm
  have hcx : 1 ≤ GM.count x := List.count_pos_iff.2 ((O.mem x).1 hxm)
  have hcx2 : GM.count x ≤ GM.length := List.count_le_length
  simp (disch := omega) only [sAdd, sSub, sMul, sEql, sNeq, sLss, sLeq, sGtr, sGeq, zI, zJ, zE, zD, yJ, yP, yV, yW, yE, yX, yT, jH, yN, yM, yL, zH, zT, zK, zC, decide_true, decide_false, Bool.not_true, Bool.not_false, yO]
  have hent : (ksM.map (entK (cntV GM)))[i]? = some (encK x, cntV GM x) := by rw [List.getElem?_map, hx]; rfl
  rw [H2.entry (k := 0) (j := 2) rfl rfl hent]
  simp (disch := omega) only [sAdd, sSub, sMul, sEql, sNeq, sLss, sLeq, sGtr, sGeq, zI, zJ, zE, zD, yJ, yP, yV, yW, yE, yX, yT, jH, yN, yM, yL, zH, zT, zK, zC, decide_true, decide_false, Bool.not_true, Bool.not_false, yO]
  refine H2.alloc fun xb h3 nx3 H3 => ?_
  refine H3.storeN (k := 0) rfl rfl (jB (by omega)) fun h4 H4 => ?_
  have hb : ∀ j ∈ seen, (blkAt ksM GM (onC lines c) most j).length ≤ 1001 * 1000000 := fun j _ => by
   rw [blk_length]
   exact Nat.mul_le_mul (by omega) (Nat.le_trans List.count_le_length hGM)
  have hfl : (seen.flatMap (blkAt ksM GM (onC lines c) most)).length ≤ seen.length * (1001 * 1000000) := flatMap_len seen hb
  have hsl2 : seen.length * (1001 * 1000000) ≤ 1000000 * (1001 * 1000000) := Nat.mul_le_mul_right _ (by omega)
  have hmn : (most + 2) * GM.count x ≤ 1002 * 1000000 := Nat.mul_le_mul (by omega) (by omega)
  refine F89.ks (most := most) (n := GM.count x) (p := 1) (q := 3) (r := c + 5) (idx := onC lines c) (o := o c) hN hm hxl (fun z hz => onP_lt hz) (hD c) hmost hcx (by omega) H4 rfl O1 rfl (by decide) (rowL_get hc) (by exact Lt_get (on := on) (bx := bx) (lines := lines) hc) (by omega) hc fun y15 y16 y17 y29 y30 y31 y32 y33 h5 nx5 ks2 O2 H5 => ?_
  have hst := leftA_step hi' hns
  have e : (i :: seen).flatMap (blkAt ksM GM (onC lines c) most) = blk x (onC lines c) (GM.count x) (most + 1) ++ seen.flatMap (blkAt ksM GM (onC lines c) most) := by
   rw [List.flatMap_cons, blkAt, hgx]
  refine hR _ _ _ _ _ _ _ _ _ _ _ _ _ _ (by omega) ⟨i :: seen, ks2, rfl, by simp; omega, List.nodup_cons.2 ⟨hns, hnd⟩, fun j hj => ?_, by rw [e]; exact O2, by rw [e]; exact H5.drop⟩
  rcases List.mem_cons.1 hj with rfl | q
  ·exact hi'
  ·exact hlt j q
theorem Hp.swap {h0 h : T Blk} {nx : Pa} {a b : Ob} {L : List Ob} (H : Hp h0 h nx (a :: b :: L)) : Hp h0 h nx (b :: a :: L) := H.perm (.swap _ _ _)
theorem F89.cells {N : Nat} {K0 : Kw Prop} {K : Ks Prop} {h0 h : T Blk} {nx : Pa} {L : List Ob} {x0 x1 x4 x5 x7 x8 x9 x12 x13 x14 x15 x16 x17 x18 x19 x20 x21 x22 x23 x24 x25 x26 x27 x28 x29 x30 x31 x32 x33 : AV} {mid on bx : Pa} {o : Nat → Option Pa} {lines : List (List Int)} {most fr to cells : Nat} (hN : 100000000 < N) (hm : lines.length ≤ 128) (hD : ∀ c, (onC lines c).length ≤ 1000000) (hmost : most ≤ 1000) (hfr : fr ≤ to) (hto : to ≤ cells) (hcl : cells ≤ 1000000) (hpow : (most + 1) ^ (to - fr) ≤ 1000000)
  (H : Hp h0 h nx (.map mid ([List.replicate lines.length 0].map (entK (cntV [List.replicate lines.length 0]))) :: Lt on bx cells lines o (onC lines) L))
  (hK : ∀ x12 x13 x14 x15 x16 x17 x26 x27 x28 x29 x30 x31 x32 x33 h' nx' id ks G, KsOk lines.length ks G → G.Perm (tallyT lines most fr (to - fr)) → Hp h0 h' nx' (.map id (ks.map (entK (cntV G))) :: Lt on bx cells lines o (onC lines) L) → K (F89.fr x0 x1 (I to) (I most) x4 x5 (.sl on 0 cells (some cells) 1) x7 x8 x9 (.map id) (I to) x12 x13 x14 x15 x16 x17 x18 x19 x20 x21 x22 x23 x24 x25 x26 x27 x28 x29 x30 x31 x32 x33) h' nx' = .ok True) :
  IR.run F89.b16 (CS Tryz.prog B) N (fnO F89.res K0) K (F89.fr x0 x1 (I to) (I most) x4 x5 (.sl on 0 cells (some cells) 1) x7 x8 x9 (.map mid) (I fr) x12 x13 x14 x15 x16 x17 x18 x19 x20 x21 x22 x23 x24 x25 x26 x27 x28 x29 x30 x31 x32 x33) h nx = .ok True := by
 refine F89.L16 (fun m' x10 x11 h' nx' => ∃ (c : Nat) (mid : Pa) (ks G : List Key), x10 = .map mid ∧ x11 = I c ∧ to - c = m' ∧ fr ≤ c ∧ c ≤ to ∧ KsOk lines.length ks G ∧ G.Perm (tallyT lines most fr (c - fr)) ∧ Hp h0 h' nx' (.map mid (ks.map (entK (cntV G))) :: Lt on bx cells lines o (onC lines) L)) (m := to - fr) (by omega)
  ⟨fr, mid, [List.replicate lines.length 0], [List.replicate lines.length 0], rfl, rfl, rfl, Nat.le_refl _, hfr, ⟨by simp, by simp, by simp⟩, by rw [Nat.sub_self]; exact .refl _, H⟩ ?_
 rintro m' z10 z11 z12 z13 z14 z15 z16 z17 z26 z27 z28 z29 z30 z31 z32 z33 h1 nx1 R ⟨c, mid1, ks1, G1, rfl, rfl, rfl, hc1, hc2, O1, hp1, H1⟩ hR
 simp (disch := omega) only [sAdd, sSub, sMul, sEql, sNeq, sLss, sLeq, sGtr, sGeq, zI, zJ, zE, zD, yJ, yP, yV, yW, yE, yX, yT, jH, yN, yM, yL, zH, zT, zK, zC, decide_true, decide_false, Bool.not_true, Bool.not_false, yO]
 by_cases hlt : c < to
 case neg =>
  simp only [show ¬ (c : Int) < (to : Int) by omega, decide_false, zD]
  obtain rfl : c = to := by omega
  exact hK _ _ _ _ _ _ _ _ _ _ _ _ _ _ _ _ _ _ _ O1 hp1 H1
 simp only [show (c : Int) < (to : Int) by omega, decide_true, zE]
 refine H1.mkmap fun nid h2 nx2 H2 => ?_
 refine H2.range (k := 1) rfl fun it h3 nx3 H3 => ?_
 have hlen : G1.length ≤ 1000000 := by
  rw [hp1.length_eq, tallyT_length]
  exact Nat.le_trans (Nat.pow_le_pow_right (by omega) (by omega)) hpow
 have hkl : ks1.length ≤ G1.length := by
  have h1 := (perm_self ks1 G1 O1.nd O1.mem).length_eq
  rw [← h1, List.length_flatMap]
  have : ∀ l : List Key, (∀ y ∈ l, y ∈ G1) → l.length ≤ (l.map fun x => (List.replicate (G1.count x) x).length).sum := by
   intro l
   induction l with
   | nil => simp
   | cons a l ih =>
    intro h
    have h2 := ih fun y hy => h y (by simp [hy])
    have h3 : 1 ≤ G1.count a := List.count_pos_iff.2 (h a (by simp))
    simp only [List.map_cons, List.sum_cons, List.length_cons, List.length_replicate] at h2 ⊢
    omega
  exact this ks1 fun y hy => (O1.mem y).1 hy
 refine F89.ents (c := c) (o := o) (bx := bx) (L := L) hN hm hD hmost hlen O1 (by omega) (by omega) H3 fun y13 y14 y15 y16 y17 y28 y29 y30 y31 y32 y33 h4 nx4 ks2 G2 O2 hp2 H4 => ?_
 rw [F89.k42, F89.k43, sAdd (by omega)]
 refine hR (to - (c + 1)) _ _ _ _ _ _ _ _ _ _ _ _ _ _ _ _ _ _ (by omega) ⟨c + 1, nid, ks2, G2, rfl, rfl, rfl, by omega, by omega, O2, ?_, H4.swap.drop⟩
 rw [show c + 1 - fr = (c - fr) + 1 by omega, tallyT, show fr + (c - fr) = c by omega]
 exact hp2.trans (hp1.flatMap_right _)
theorem tally89 {h0 h : T Blk} {nx : Pa} {L : List Ob} {lines : List (List Int)} {most fr to cells : Nat} {p : Pa} {K : Kw Prop} (hm : lines.length ≤ 128) (hw : ∀ l ∈ lines, l.length ≤ 1000) (hl : ∀ l ∈ lines, ∀ c ∈ l, 0 ≤ c ∧ c < (cells : Int)) (hmost : most ≤ 1000) (hfr : fr ≤ to) (hto : to ≤ cells) (hcl : cells ≤ 1000000) (hpow : (most + 1) ^ (to - fr) ≤ 1000000) (H : Hp h0 h nx L)
  (hK : ∀ h' nx' id ks G, KsOk lines.length ks G → G.Perm (tallyT lines most fr (to - fr)) → Hp h0 h' nx' (.map id (ks.map (entK (cntV G))) :: L) → K (.map id) h' nx' = .ok True) :
  (CS Tryz.prog B).fn 89 p [.agg [I cells, encT lines], I fr, I to, I most] h nx K = .ok True := by
 have hD : ∀ c, (onC lines c).length ≤ 1000000 := fun c => by
  have : ∀ i, i ≤ lines.length → (onP lines i c).length ≤ i * 1000 := by
   intro i
   induction i with
   | zero => intro _; simp [onP]
   | succ i ih =>
    intro hi
    rw [onP_succ, List.length_append, List.length_map]
    have h2 := ih (by omega)
    have h3 : ((lines.getD i []).filter (· = (c : Int))).length ≤ 1000 := by
     refine Nat.le_trans (List.length_filter_le _ _) ?_
     rw [List.getD_eq_getElem?_getD, List.getElem?_eq_getElem (by omega)]
     exact hw _ (List.getElem_mem _)
    omega
  have h9 := this _ (Nat.le_refl _)
  clear this
  show (onP lines lines.length c).length ≤ _
  omega
 refine yS (p := .of 89) (K := K) (zZ yD dreg 1000000000 fun hf => ?_) fun _ _ _ _ q => q
 rw [F89.go]
 refine H.box (l := [I cells, encT lines]) rfl fun bx h1 nx1 H1 => ?_
 rw [sFx, H1.load (k := 0) (i := 0) rfl rfl]
 refine H1.mk1 cells rfl rfl hcl (by decide) fun on h2 nx2 H2 => ?_
 rw [sFx, H2.load (k := 1) (i := 0 + 1) rfl rfl]
 simp (disch := omega) only [sAdd, sSub, sMul, sEql, sNeq, sLss, sLeq, sGtr, sGeq, zI, zJ, zE, zD, yJ, yP, yV, yW, yE, yX, yT, jH, yN, yM, yL, zH, zT, zK, zC, decide_true, decide_false, Bool.not_true, Bool.not_false, yO]
 refine F89.on (by decide) hm hw hl H2 fun y7 y8 y9 y20 y21 y22 y23 y24 y25 h3 nx3 o H3 => ?_
 rw [F89.k15]
 refine H3.mkmap fun mid h4 nx4 H4 => ?_
 have hz : encK (List.replicate lines.length 0) = .agg (List.replicate 128 (u8 0)) := by rw [encK, cellsK_zero hm]
 have hb : ∀ (z : List AV) (op : AV → OP), sBuild z [] op = op (.agg z) := fun z op => rfl
 rw [hb]
 have hz2 : AV.agg (List.replicate 128 (u8 0)) = encK (List.replicate lines.length 0) := hz.symm
 refine Eq.trans (b := sMapup (.agg 128) (.map mid) (AV.agg (List.replicate 128 (u8 0))) (I 1) h4 nx4 _) rfl ?_
 rw [hz2]
 refine H4.mapFirst (m := lines.length) hm (by simp) (k := 0) rfl fun h5 H5 => ?_
 refine F89.cells (o := o) (by decide) hm hD hmost hfr hto hcl hpow H5 fun y12 y13 y14 y15 y16 y17 y26 y27 y28 y29 y30 y31 y32 y33 h6 nx6 id ks G O6 hp6 H6 => ?_
 rw [F89.k44]
 exact hK _ _ _ _ _ O6 hp6 (Hp.dropMid (A := .arr on _ :: .arr bx _ :: rowL cells _) H6)
end Go.Ev
namespace Go.Ev
open Go Go.Proofs
variable {B : Nat}
theorem tallyT_lt (lines : List (List Int)) (most fr : Nat) : ∀ n, ∀ y ∈ tallyT lines most fr n, ∀ v ∈ y, v < 256
 | 0, y, h, v, hv => by
  rw [List.mem_singleton.1 h] at hv
  rw [(List.mem_replicate.1 hv).2]; decide
 | n + 1, y, h, v, hv => by
  simp only [tallyT, List.mem_flatMap, List.mem_map] at h
  obtain ⟨x, hx, k, _, rfl⟩ := h
  have ih := tallyT_lt lines most fr n x hx
  have : ∀ (idx : List Nat) (y : List Nat), (∀ v ∈ y, v < 256) → ∀ v ∈ addL y idx k, v < 256 := by
   intro idx
   induction idx with
   | nil => exact fun y h => h
   | cons i l ih2 =>
    intro y h
    refine ih2 _ fun v hv => ?_
    rcases List.mem_or_eq_of_mem_set hv with q | rfl
    ·exact h v q
    ·omega
  exact this _ _ ih v hv
def fB (sum : Nat) (G : List Key) (x : Key) : Nat := if x.all (fun v => decide (v ≤ sum)) then G.count (x.map fun v => sum - v) else 0
def bsum (lines : List (List Int)) (most sum half cells : Nat) : Nat := ((tallyT lines most 0 half).map (fB sum (tallyT lines most half (cells - half)))).sum
theorem sum_perm {α : Type} {l l' : List α} (f : α → Nat) (h : l.Perm l') : (l.map f).sum = (l'.map f).sum := by
 induction h with
 | nil => rfl
 | cons a _ ih => simp [ih]
 | swap a b l => simp; omega
 | trans _ _ h1 h2 => exact h1.trans h2
theorem sum_flat {f : Key → Nat} {G : List Key} : ∀ (l : List Key), ((l.flatMap fun x => List.replicate (G.count x) x).map f).sum = (l.map fun x => G.count x * f x).sum
 | [] => rfl
 | a :: l => by
  rw [List.flatMap_cons, List.map_append, List.sum_append, sum_flat l, List.map_cons, List.sum_cons]
  congr 1
  rw [List.map_replicate, List.sum_replicate_nat]
theorem sum_keys {f : Key → Nat} {ks G : List Key} {m : Nat} (O : KsOk m ks G) : (ks.map fun x => G.count x * f x).sum = (G.map f).sum := by
 rw [← sum_flat, sum_perm f (perm_self ks G O.nd O.mem)]
theorem fB_perm {sum : Nat} {G G' : List Key} (h : G.Perm G') : fB sum G = fB sum G' := by
 funext x; simp only [fB]; rw [h.count_eq]
theorem fB_le {sum : Nat} {G : List Key} {x : Key} : fB sum G x ≤ G.length := by
 unfold fB; split
 ·exact List.count_le_length
 ·omega
theorem sConv_i64 {k : IntKind} {x : Nat} {K : AV → OP} (h : x ≤ 1000000) : sConv .i64 (.int k (x : Int)) K = K (I x) := by
 show intK (wrapF .i64 (x : Int)) (fun z => K (.int .i64 z)) = _
 rw [uA, wrapF_eq, wrap64_in (by omega)]
theorem sSub_u8 {x y : Nat} {K : AV → OP} (h : y ≤ x) (hx : x < 256) : sBin .sub .int (u8 x) (u8 y) K = K (u8 (x - y)) := by
 rw [sSubW, IntKind.wrap_u8]
 have : u8 (x - y) = .int .u8 (((x : Int) - (y : Int)) % 256) := by unfold u8; congr 1; omega
 rw [this]
theorem F31.rest {N : Nat} {K0 : Kw Prop} {E0 E1 K : Ks Prop} {h0 h : T Blk} {nx : Pa} {L : List Ob} {x0 x1 x3 x4 x5 x6 x7 x8 x9 x11 x13 x14 x15 x16 x17 x18 x21 x22 : AV} {xb rb : Pa} {x : Key} {sum m : Nat} (hN : 1000 < N) (hm : m ≤ 128) (hx : x.length = m) (hv : ∀ v ∈ x, v < 256) {s : Int} (hs : m = 0 ∨ (s = sum ∧ sum ≤ 255))
  (H : Hp h0 h nx (.arr rb (yK (List.replicate m 0)) :: .arr xb (yK x) :: L))
  (hno : ∀ x13 x20 x21 x22 h' nx', ¬ x.all (fun v => decide (v ≤ sum)) = true → Hp h0 h' nx' L → E1 (F31.fr x0 x1 (I s) x3 x4 x5 x6 x7 x8 x9 (.ptr xb 0) x11 (.ptr rb 0) x13 x14 x15 x16 x17 x18 (I m) x20 x21 x22) h' nx' = .ok True)
  (hK : ∀ x13 x20 x21 x22 h' nx', x.all (fun v => decide (v ≤ sum)) = true → Hp h0 h' nx' (.arr rb (yK (x.map fun v => sum - v)) :: .arr xb (yK x) :: L) → K (F31.fr x0 x1 (I s) x3 x4 x5 x6 x7 x8 x9 (.ptr xb 0) x11 (.ptr rb 0) x13 x14 x15 x16 x17 x18 (I m) x20 x21 x22) h' nx' = .ok True) :
  IR.run F31.b9 (CS Tryz.prog B) N (((fnO F31.res K0).blk 0 E0).blk 1 E1) K (F31.fr x0 x1 (I s) x3 x4 x5 x6 x7 x8 x9 (.ptr xb 0) x11 (.ptr rb 0) x13 x14 x15 x16 x17 x18 (I m) (I 0) x21 x22) h nx = .ok True := by
 refine F31.L9 (fun m' x20 h' nx' => ∃ j : Nat, x20 = I j ∧ m - j = m' ∧ j ≤ m ∧ (x.take j).all (fun v => decide (v ≤ sum)) = true ∧ Hp h0 h' nx' (.arr rb (yK ((x.take j).map (fun v => sum - v) ++ List.replicate (m - j) 0)) :: .arr xb (yK x) :: L)) (m := m) (by omega) ⟨0, rfl, rfl, by omega, rfl, H⟩ ?_
 rintro m' z13 z20 z21 z22 h1 nx1 R ⟨j, rfl, rfl, hj, hall, H1⟩ hR
 simp (disch := omega) only [sAdd, sSub, sMul, sEql, sNeq, sLss, sLeq, sGtr, sGeq, zI, zJ, zE, zD, yJ, yP, yV, yW, yE, yX, yT, jH, yN, yM, yL, zH, zT, zK, zC, decide_true, decide_false, Bool.not_true, Bool.not_false, yO]
 by_cases hlt : j < m
 case neg =>
  simp only [show ¬ (j : Int) < (m : Int) by omega, decide_false, zD]
  obtain rfl : j = m := by omega
  rw [List.take_of_length_le (by omega)] at hall H1
  exact hK _ _ _ _ _ _ hall (H1.cast (by simp))
 simp only [show (j : Int) < (m : Int) by omega, decide_true, zE]
 have hjx : j < x.length := by omega
 have hxj : x[j]? = some x[j] := List.getElem?_eq_getElem hjx
 have hv1 := hv _ (List.getElem_mem hjx)
 obtain ⟨rfl, hs'⟩ := hs.resolve_left (by omega)
 rw [sAx (i := j) rfl (by omega), H1.load (k := 1) rfl (cellsK_get hxj), sConv_i64 (by omega)]
 simp (disch := omega) only [sAdd, sSub, sMul, sEql, sNeq, sLss, sLeq, sGtr, sGeq, zI, zJ, zE, zD, yJ, yP, yV, yW, yE, yX, yT, jH, yN, yM, yL, zH, zT, zK, zC, decide_true, decide_false, Bool.not_true, Bool.not_false, yO]
 by_cases hle : x[j] ≤ sum
 case neg =>
  simp only [show (sum : Int) < (x[j] : Int) by omega, decide_true, zE]
  refine hno _ _ _ _ _ _ (fun q => ?_) H1.drop.drop
  have := List.all_eq_true.1 q _ (List.getElem_mem hjx)
  exact hle (of_decide_eq_true this)
 simp only [show ¬ (sum : Int) < (x[j] : Int) by omega, decide_false, zD]
 have hlen : ((x.take j).map (fun v => sum - v) ++ List.replicate (m - j) 0).length = m := by simp; omega
 rw [sConv_u8, Nat.mod_eq_of_lt (show sum < 256 by omega), sAx (i := j) rfl (by omega), H1.load (k := 1) rfl (cellsK_get hxj), sSub_u8 hle (by omega), sAx (i := j) rfl (by omega)]
 refine H1.store (k := 0) rfl (by rw [jB (by omega)]; omega) rfl fun h2 H2 => ?_
 refine hR (m - (j + 1)) _ _ _ _ _ _ (by omega) ⟨j + 1, by congr 1, rfl, by omega, ?_, H2.cast ?_⟩
 ·rw [List.take_add_one, hxj, List.all_append, hall]
  simp [hle]
 ·rw [List.set_cons_zero, cellsK_set (by omega), List.take_add_one, hxj]
  congr 3
  rw [List.set_append_right _ _ (by simp; omega)]
  have e : m - j = (m - (j + 1)) + 1 := by omega
  have e2 : j - ((x.take j).map fun v => sum - v).length = 0 := by simp; omega
  rw [e, e2, List.replicate_succ, List.set_cons_zero]
  simp only [Option.toList_some, List.map_append, List.map_cons, List.map_nil, List.append_assoc, List.cons_append, List.nil_append]
theorem sum_len {α : Type} {f : α → Nat} {M : Nat} : ∀ (l : List α), (∀ i ∈ l, f i ≤ M) → (l.map f).sum ≤ l.length * M
 | [], _ => by simp
 | a :: l, h => by
  have h1 := h a (by simp)
  have h2 := sum_len l fun i hi => h i (by simp [hi])
  rw [List.map_cons, List.sum_cons, List.length_cons, Nat.add_mul]; omega
abbrev termB (ks GL GR : List Key) (sum i : Nat) : Nat := GL.count (ks.getD i []) * fB sum GR (ks.getD i [])
theorem F31.meet {N : Nat} {K0 : Kw Prop} {K : Ks Prop} {h0 h : T Blk} {nx : Pa} {L : List Ob} {x0 x1 x4 x5 x6 x7 x10 x11 x12 x13 x14 x15 x16 x18 x19 x20 x21 x22 : AV} {it lid rid bx : Pa} {lines : List (List Int)} {ksL GL ksR GR : List Key} {sum cells : Nat} {s : Int} (hN : 100000000 < N) (hm : lines.length ≤ 128) (hs : lines.length = 0 ∨ (s = sum ∧ sum ≤ 255)) (OL : KsOk lines.length ksL GL) (OR : KsOk lines.length ksR GR) (hL : GL.length ≤ 1000000) (hR0 : GR.length ≤ 1000000) (hkl : ksL.length ≤ 1000000) (hlt : ∀ y ∈ GL, ∀ v ∈ y, v < 256)
  (H : Hp h0 h nx (.iter it lid (ksL.map (entK (cntV GL))).length [] (ksL.map (entK (cntV GL))).length :: .map lid (ksL.map (entK (cntV GL))) :: .map rid (ksR.map (entK (cntV GR))) :: .arr bx [I cells, encT lines] :: L))
  (hK : ∀ x10 x11 x12 x13 x18 x19 x20 x21 x22 h' nx' L', Hp h0 h' nx' L' → K (F31.fr x0 x1 (I s) (.ptr bx 0) x4 x5 x6 x7 (.map rid) (I ((GL.map (fB sum GR)).sum : Nat)) x10 x11 x12 x13 x14 x15 x16 (.ptr it 0) x18 x19 x20 x21 x22) h' nx' = .ok True) :
  IR.run F31.b4 (CS Tryz.prog B) N (fnO F31.res K0) K (F31.fr x0 x1 (I s) (.ptr bx 0) x4 x5 x6 x7 (.map rid) (I 0) x10 x11 x12 x13 x14 x15 x16 (.ptr it 0) x18 x19 x20 x21 x22) h nx = .ok True := by
 refine F31.L4 (fun m' x9 h' nx' => ∃ (seen : List Nat), x9 = I ((seen.map (termB ksL GL GR sum)).sum : Nat) ∧ (gG ksL.length seen).length = m' ∧ seen.length + m' = ksL.length ∧ seen.Nodup ∧ (∀ i ∈ seen, i < ksL.length) ∧
  Hp h0 h' nx' (.iter it lid (ksL.map (entK (cntV GL))).length seen (ksL.map (entK (cntV GL))).length :: .map lid (ksL.map (entK (cntV GL))) :: .map rid (ksR.map (entK (cntV GR))) :: .arr bx [I cells, encT lines] :: L)) (m := ksL.length) (by omega) ⟨[], rfl, by (have e : gG ksL.length [] = List.range ksL.length := List.filter_eq_self.2 (by simp)); rw [e]; simp, by simp, by simp, by simp, H⟩ ?_
 rintro m' z9 z10 z11 z12 z13 z18 z19 z20 z21 z22 h1 nx1 R ⟨seen, rfl, rfl, hsl, hnd, hse, H1⟩ hR
 refine H1.next (k := 0) (j := 1) rfl rfl (fun hall => ?_) fun i a b h2 hi hns hab H2 => ?_
 ·simp (disch := omega) only [sAdd, sSub, sMul, sEql, sNeq, sLss, sLeq, sGtr, sGeq, zI, zJ, zE, zD, yJ, yP, yV, yW, yE, yX, yT, jH, yN, yM, yL, zH, zT, zK, zC, decide_true, decide_false, Bool.not_true, Bool.not_false, yO]
  have hsp := seen_perm hnd hse fun i hi => hall i (by simpa using hi)
  have e : (seen.map (termB ksL GL GR sum)).sum = (GL.map (fB sum GR)).sum := by
   rw [sum_perm _ hsp, ← sum_keys OL]
   have : ksL = (List.range ksL.length).map fun i => ksL.getD i [] := rowL_self ksL []
   conv => rhs; rw [this]
   rw [List.map_map]
   rfl
  rw [e]
  exact hK _ _ _ _ _ _ _ _ _ _ _ _ H1
 ·have hi' : i < ksL.length := by simpa using hi
  obtain ⟨x, hx⟩ : ∃ x, ksL[i]? = some x := ⟨_, List.getElem?_eq_getElem hi'⟩
  have hxm := List.mem_of_getElem? hx
  rw [List.getElem?_map, hx] at hab
  obtain ⟨rfl, rfl⟩ : encK x = a ∧ cntV GL x = b := by simpa [entK] using hab
  have hgx : ksL.getD i [] = x := by rw [List.getD_eq_getElem?_getD, hx]; rfl
  have hxl := OL.klen x hxm
  have hcx2 : GL.count x ≤ GL.length := List.count_le_length
  simp (disch := omega) only [sAdd, sSub, sMul, sEql, sNeq, sLss, sLeq, sGtr, sGeq, zI, zJ, zE, zD, yJ, yP, yV, yW, yE, yX, yT, jH, yN, yM, yL, zH, zT, zK, zC, decide_true, decide_false, Bool.not_true, Bool.not_false, yO]
  have hent : (ksL.map (entK (cntV GL)))[i]? = some (encK x, cntV GL x) := by rw [List.getElem?_map, hx]; rfl
  rw [H2.entry (k := 0) (j := 1) rfl rfl hent]
  simp (disch := omega) only [sAdd, sSub, sMul, sEql, sNeq, sLss, sLeq, sGtr, sGeq, zI, zJ, zE, zD, yJ, yP, yV, yW, yE, yX, yT, jH, yN, yM, yL, zH, zT, zK, zC, decide_true, decide_false, Bool.not_true, Bool.not_false, yO]
  refine H2.alloc fun xb h3 nx3 H3 => ?_
  refine H3.storeN (k := 0) rfl rfl (jB (by omega)) fun h4 H4 => ?_
  refine H4.alloc fun rb h5 nx5 H5 => ?_
  rw [sFx, H5.load (k := 5) (i := 0 + 1) rfl rfl]
  simp (disch := omega) only [sAdd, sSub, sMul, sEql, sNeq, sLss, sLeq, sGtr, sGeq, zI, zJ, zE, zD, yJ, yP, yV, yW, yE, yX, yT, jH, yN, yM, yL, zH, zT, zK, zC, decide_true, decide_false, Bool.not_true, Bool.not_false, yO]
  have hst := leftA_step hi' hns
  have hterm : termB ksL GL GR sum i = GL.count x * fB sum GR x := by rw [termB, hgx]
  have hb : ∀ j ∈ seen, termB ksL GL GR sum j ≤ 1000000 * 1000000 := fun j _ => Nat.mul_le_mul (Nat.le_trans List.count_le_length hL) (Nat.le_trans fB_le hR0)
  have hfl := sum_len seen hb
  have hsl2 : seen.length * (1000000 * 1000000) ≤ 1000000 * (1000000 * 1000000) := Nat.mul_le_mul_right _ (by omega)
  have hres : ∀ (v : Nat) (hv : v = termB ksL GL GR sum i) (h' : T Blk) (w10 w11 w12 w13 w18 w19 w20 w21 w22 : AV) (nx' : Pa), Hp h0 h' nx' (.iter it lid (ksL.map (entK (cntV GL))).length (i :: seen) (ksL.map (entK (cntV GL))).length :: .map lid (ksL.map (entK (cntV GL))) :: .map rid (ksR.map (entK (cntV GR))) :: .arr bx [I cells, encT lines] :: L) →
    R (F31.fr x0 x1 (I s) (.ptr bx 0) x4 x5 x6 x7 (.map rid) (I (((seen.map (termB ksL GL GR sum)).sum : Nat) + (v : Int))) w10 w11 w12 w13 x14 x15 x16 (.ptr it 0) w18 w19 w20 w21 w22) h' nx' = .ok True := by
   rintro v rfl h' w10 w11 w12 w13 w18 w19 w20 w21 w22 nx' H'
   refine hR _ _ _ _ _ _ _ _ _ _ _ _ _ (by omega) ⟨i :: seen, ?_, rfl, by simp; omega, List.nodup_cons.2 ⟨hns, hnd⟩, fun j hj => ?_, H'⟩
   ·congr 1
    rw [List.map_cons, List.sum_cons]; omega
   ·rcases List.mem_cons.1 hj with rfl | q
    ·exact hi'
    ·exact hse j q
  have H6 : Hp h0 h5 nx5 (.arr rb (yK (List.replicate lines.length 0)) :: .arr xb (yK x) :: .iter it lid (ksL.map (entK (cntV GL))).length (i :: seen) (ksL.map (entK (cntV GL))).length :: .map lid (ksL.map (entK (cntV GL))) :: .map rid (ksR.map (entK (cntV GR))) :: .arr bx [I cells, encT lines] :: L) := H5.cast (by rw [cellsK_zero hm]; rfl)
  have hcm : ((GL.count x : Int) * ((fB sum GR x : Nat) : Int)) = ((termB ksL GL GR sum i : Nat) : Int) := by rw [hterm, Int.natCast_mul]
  have htl : termB ksL GL GR sum i ≤ 1000000 * 1000000 := by
   rw [hterm]; exact Nat.mul_le_mul (by omega) (Nat.le_trans fB_le hR0)
  refine F31.rest (m := lines.length) (x := x) (sum := sum) (by omega) hm hxl (hlt x ((OL.mem x).1 hxm)) hs H6 (fun y13 y20 y21 y22 h7 nx7 hall H7 => ?_) fun y13 y20 y21 y22 h7 nx7 hall H7 => ?_
  ·have := hres 0 (by rw [hterm, fB, if_neg hall]; simp) h7 (.ptr xb 0) (cntV GL x) (.ptr rb 0) y13 (.bool true) (I lines.length) y20 y21 y22 nx7 H7
   simpa using this
  ·rw [F31.k17]
   have hrl : (x.map fun v => sum - v).length = lines.length := by rw [List.length_map]; exact hxl
   rw [H7.loadN (k := 0) rfl (jB (by omega))]
   have hlk := fun op => sLook_map (op := op) hm H7 (k := 4) (id := rid) rfl OR hrl
   refine Eq.trans (b := sLook (.agg 128) (I 0) false (.map rid) (encK (x.map fun v => sum - v)) h7 _) rfl ?_
   rw [hlk]
   have hf : fB sum GR x = GR.count (x.map fun v => sum - v) := by rw [fB, if_pos hall]
   rw [cntV, cntV, ← hf, sMul (by omega), hcm, sAdd (by omega)]
   exact hres _ rfl h7 _ _ _ _ _ _ _ _ _ nx7 H7.drop.drop
end Go.Ev
namespace Go.Ev
open Go Go.Proofs
variable {B : Nat}
theorem half_q (n : Nat) : ((n : Int)).tdiv 2 = ((n / 2 : Nat) : Int) := by
 rw [Int.tdiv_eq_ediv_of_nonneg (by omega)]; omega
theorem sQuo2 {n : Nat} {K : AV → OP} (h : n ≤ 1000000) : sBin .quo .int (I (n : Int)) (I 2) K = K (I ((n / 2 : Nat) : Int)) := by
 have e : sBin .quo .int (I (n : Int)) (I 2) K = (bif ieq (2 : Int) 0 then Out.no 5 else intK (IntKind.wrap .i64 ((n : Int).tdiv 2)) fun z => K (.int .i64 z)) := rfl
 rw [e, show ieq (2 : Int) 0 = false from rfl, cond_false, uA, half_q, wrap64_in (by omega)]
theorem sG_undef (b : Bool) (op : (AV → OP) → OP) (K : AV → OP) : sG .undef b op K = K .undef := nr rfl
theorem bounded31 {lines : List (List Int)} {cells most : Nat} {s : Int} (hm : lines.length ≤ 128) (hw : ∀ l ∈ lines, l.length ≤ 1000) (hl : ∀ l ∈ lines, ∀ c ∈ l, 0 ≤ c ∧ c < (cells : Int)) (hcl : cells ≤ 16) (hmost : most ≤ 9) (hpow : (most + 1) ^ (cells - cells / 2) ≤ 1000000)
  (h87 : Pure Tryz.prog B 87 [.agg [I cells, encT lines], I most] (· = I 0)) (h88 : Pure Tryz.prog B 88 [I ((cells - cells / 2 : Nat) : Int), I most] (· = .bool false)) :
  Pure Tryz.prog B 31 [.agg [I cells, encT lines], I most, I s] (· = .tup [I (if 0 < lines.length ∧ (s < 0 ∨ 255 < s) then 0 else (bsum lines most s.toNat (cells / 2) cells : Nat)), I 0]) := by
 refine gY fun h nx K H0 hK => zZ yD dreg 1000000000 fun hf => ?_
 rw [F31.go]
 refine H0.box (l := [I cells, encT lines]) rfl fun bx h1 nx1 H1 => ?_
 rw [H1.loadN (k := 0) (n := 2) rfl rfl]
 refine h87 _ _ _ _ ?_
 rintro _ rfl _
 simp (disch := omega) only [sAdd, sSub, sMul, sEql, sNeq, sLss, sLeq, sGtr, sGeq, zI, zJ, zE, zD, yJ, yP, yV, yW, yE, yX, yT, jH, yN, yM, yL, zH, zT, zK, zC, decide_true, decide_false, Bool.not_true, Bool.not_false, yO]
 rw [sFx, H1.load (k := 0) (i := 0) rfl rfl, sQuo2 (by omega), sFx, H1.load (k := 0) (i := 0) rfl rfl, sSub (by omega), show (cells : Int) - ((cells / 2 : Nat) : Int) = ((cells - cells / 2 : Nat) : Int) by omega]
 refine h88 _ _ _ _ ?_
 rintro _ rfl _
 rw [zD, sFx, H1.load (k := 0) (i := 0 + 1) rfl rfl]
 simp (disch := omega) only [sAdd, sSub, sMul, sEql, sNeq, sLss, sLeq, sGtr, sGeq, zI, zJ, zE, zD, yJ, yP, yV, yW, yE, yX, yT, jH, yN, yM, yL, zH, zT, zK, zC, decide_true, decide_false, Bool.not_true, Bool.not_false, yO]
 have ret : ∀ v : Int, v = (if 0 < lines.length ∧ (s < 0 ∨ 255 < s) then (0 : Int) else ((bsum lines most s.toNat (cells / 2) cells : Nat) : Int)) → ∀ h' nx' L, Hp h h' nx' L → K (.tup [I v, I 0]) h' nx' = .ok True := fun v hv h' nx' L H => by
  rw [hv]; exact hK _ _ _ L _ H (uG (zS rfl) (zS rfl)) rfl
 by_cases hz : 0 < lines.length ∧ (s < 0 ∨ 255 < s)
 ·rw [if_pos hz] at ret
  simp only [show (0 : Int) < (lines.length : Int) by omega, decide_true, yJ]
  by_cases hs0 : s < 0
  ·simp only [sLss, hs0, decide_true, yV, zI, zE]
   exact ret 0 rfl _ _ _ H1
  ·simp only [sLss, sGtr, hs0, show (255 : Int) < s by omega, decide_true, decide_false, yP, zI, zJ, zE]
   exact ret 0 rfl _ _ _ H1
 rw [if_neg hz] at ret
 have fin : ∀ z5 z6 z14 z15 z16, IR.run F31.b3 (CS Tryz.prog B) 1000000000 (fnO F31.res K) (retK F31.res K) (F31.fr (.agg [I cells, encT lines]) (I most) (I s) (.ptr bx 0) (I 0) z5 z6 (I ((cells / 2 : Nat) : Int)) .undef .undef .undef .undef .undef .undef z14 z15 z16 .undef .undef .undef .undef .undef .undef) h1 nx1 = .ok True := by
  intro z5 z6 z14 z15 z16
  rw [F31.k3, H1.loadN (k := 0) (n := 2) rfl rfl, sFx, H1.load (k := 0) (i := 0) rfl rfl]
  refine tally89 (cells := cells) hm hw hl (by omega) (by omega) (Nat.le_refl _) (by omega) hpow H1 fun h2 nx2 rid ksR GR OR hpR H2 => ?_
  rw [H2.loadN (k := 1) (n := 2) rfl rfl]
  refine tally89 (fr := 0) (cells := cells) hm hw hl (by omega) (by omega) (by omega) (by omega) (by rw [Nat.sub_zero]; exact Nat.le_trans (Nat.pow_le_pow_right (by omega) (by omega)) hpow) H2 fun h3 nx3 lid ksL GL OL hpL H3 => ?_
  rw [Nat.sub_zero] at hpL
  refine H3.range (k := 0) rfl fun it h4 nx4 H4 => ?_
  have hLl : GL.length ≤ 1000000 := by
   rw [hpL.length_eq, tallyT_length]
   exact Nat.le_trans (Nat.pow_le_pow_right (by omega) (by omega)) hpow
  have hRl : GR.length ≤ 1000000 := by rw [hpR.length_eq, tallyT_length]; exact hpow
  have hkl : ksL.length ≤ GL.length := by
   have h1 := (perm_self ksL GL OL.nd OL.mem).length_eq
   rw [← h1, List.length_flatMap]
   have : ∀ l : List Key, (∀ y ∈ l, y ∈ GL) → l.length ≤ (l.map fun x => (List.replicate (GL.count x) x).length).sum := by
    intro l
    induction l with
    | nil => simp
    | cons a l ih =>
     intro h
     have h2 := ih fun y hy => h y (by simp [hy])
     have h3 : 1 ≤ GL.count a := List.count_pos_iff.2 (h a (by simp))
     simp only [List.map_cons, List.sum_cons, List.length_cons, List.length_replicate] at h2 ⊢
     omega
   exact this ksL fun y hy => (OL.mem y).1 hy
  refine F31.meet (sum := s.toNat) (cells := cells) (by decide) hm (by omega) OL OR hLl hRl (by omega) (fun y hy => tallyT_lt _ _ _ _ y (hpL.mem_iff.1 hy)) H4 fun w10 w11 w12 w13 w18 w19 w20 w21 w22 h5 nx5 L5 H5 => ?_
  rw [F31.k18]
  refine ret _ ?_ _ _ _ H5
  rw [sum_perm _ hpL, fB_perm hpR]; rfl
 by_cases hl0 : 0 < lines.length
 ·simp only [show (0 : Int) < (lines.length : Int) by omega, decide_true, yJ, sLss, sGtr, show ¬ s < 0 by omega, show ¬ (255 : Int) < s by omega, decide_false, yP, zI, zJ, zD]
  exact fin _ _ _ _ _
 ·simp only [show ¬ (0 : Int) < (lines.length : Int) by omega, decide_false, yW, sG_undef, zJ, zD]
  exact fin _ _ _ _ _
end Go.Ev
namespace Go.Ev
open Go Go.Proofs
variable {B : Nat}
theorem when123 (b : Bool) (e : Int) : Pure Tryz.prog B 123 [.bool b, I e] (· = I (if b then e else 0)) := by
 intro p h nx K hK
 refine zZ yD dreg 9 fun hf => ?_
 rw [F123.go]
 cases b <;> simp (disch := omega) only [sAdd, sSub, sMul, sEql, sNeq, sLss, sLeq, sGtr, sGeq, zI, zJ, zE, zD, yJ, yP, yV, yW, yE, yX, yT, jH, yN, yM, yL, zH, zT, zK, zC, decide_true, decide_false, Bool.not_true, Bool.not_false, yO] <;> exact hK _ rfl hf
def gI : List Int → Int
 | [] => 0
 | e :: l => if e ≠ 0 then e else gI l
theorem firstE_skip : ∀ (l : List Int) (i : Nat), (∀ e ∈ l.take i, e = 0) → gI l = gI (l.drop i)
 | l, 0, _ => rfl
 | [], _ + 1, _ => rfl
 | e :: l, i + 1, h => by
  have h0 : e = 0 := h e (by simp)
  rw [gI, if_neg (by simp [h0]), List.drop_succ_cons]
  exact firstE_skip l i fun x hx => h x (by simp [hx])
theorem first121 {l : List Int} (hl : l.length ≤ 1000000) : Pure Tryz.prog B 121 [encI l] (· = I (gI l)) := by
 intro p h nx K hK
 refine zZ yD dreg 10000000 fun hf => ?_
 rw [F121.go]
 simp (disch := omega) only [sAdd, sSub, sMul, sEql, sNeq, sLss, sLeq, sGtr, sGeq, zI, zJ, zE, zD, yJ, yP, yV, yW, yE, yX, yT, jH, yN, yM, yL, zH, zT, zK, zC, decide_true, decide_false, Bool.not_true, Bool.not_false, yO]
 refine F121.L1 (fun m z5 h' nx' => ∃ i : Nat, z5 = I i ∧ l.length - i = m ∧ i ≤ l.length ∧ h' = h ∧ nx' = nx ∧ ∀ e ∈ l.take i, e = 0) (m := l.length) (by omega) ⟨0, rfl, rfl, by omega, rfl, rfl, by simp⟩ ?_
 rintro m z1 z2 z5 z6 z7 _ _ R ⟨i, rfl, rfl, hi, rfl, rfl, htk⟩ hR
 simp (disch := omega) only [sAdd, sSub, sMul, sEql, sNeq, sLss, sLeq, sGtr, sGeq, zI, zJ, zE, zD, yJ, yP, yV, yW, yE, yX, yT, jH, yN, yM, yL, zH, zT, zK, zC, decide_true, decide_false, Bool.not_true, Bool.not_false, yO]
 by_cases hlt : i < l.length
 ·simp only [show (i : Int) < (l.length : Int) by omega, decide_true, zE]
  have hx : l[i]? = some l[i] := List.getElem?_eq_getElem hlt
  rw [sIxL rfl hlt, ldL (getI hx)]
  simp (disch := omega) only [sAdd, sSub, sMul, sEql, sNeq, sLss, sLeq, sGtr, sGeq, zI, zJ, zE, zD, yJ, yP, yV, yW, yE, yX, yT, jH, yN, yM, yL, zH, zT, zK, zC, decide_true, decide_false, Bool.not_true, Bool.not_false, yO]
  have hd : l.drop i = l[i] :: l.drop (i + 1) := List.drop_eq_getElem_cons hlt
  by_cases h0 : l[i] = 0
  ·simp only [h0, decide_true, Bool.not_true, zD]
   refine hR _ _ _ _ _ _ _ _ (by omega) ⟨i + 1, rfl, rfl, by omega, rfl, rfl, fun e he => ?_⟩
   rw [List.take_add_one, hx] at he
   rcases List.mem_append.1 he with q | q
   ·exact htk e q
   ·simp at q; rw [q]; exact h0
  ·simp only [h0, decide_false, Bool.not_false, zE]
   refine hK _ ?_ hf
   rw [firstE_skip l i htk, hd, gI, if_pos h0]
 ·simp only [show ¬ (i : Int) < (l.length : Int) by omega, decide_false, zD]
  rw [F121.k8]
  refine hK _ ?_ hf
  rw [firstE_skip l i htk, List.drop_of_length_le (by omega)]; rfl
end Go.Ev
namespace Go.Ev
open Go Go.Proofs
variable {B : Nat}
end Go.Ev
namespace Go.Ev
open Go Go.Proofs
variable {B : Nat}
end Go.Ev
namespace Go.Ev
open Go Go.Proofs
variable {B : Nat}
theorem own_plain {P : Program} {f : Nat} {p id : Pa} {h0 h : T Blk} {nx : Pa} {L : List Ob} {k : Nat} {l : List Int} {K : Kw Prop} {Q : AV → Prop} (H : Hp h0 h nx L) (hk : L[k]? = some (.arr id (l.map I))) (hq : ∀ B, Pure P B f [encI l] Q) (hpl : ∀ v, Q v → Plain v)
  (hK : ∀ v, Q v → K v h nx = .ok True) : (CS P B).fn f p [.sl id 0 l.length (some l.length) 1] h nx K = .ok True :=
 CS_plain (.cons (HasArr.frz (H.own _ (List.mem_of_getElem? hk)) (T.get_e _ id) (Nat.le_refl _) (by simp) fun v hv => by obtain ⟨x, _, rfl⟩ := List.mem_map.1 hv; rfl) .nil) (by
  have := fixd_encI l
  simp only [nns, fixd.nn this, Bool.and_self]) hq hpl fun v hv _ => hK v hv
theorem contF131 {h : T Blk} {nx : Pa} {l : List Int} {g : Nat} {p q : Pa} {cap : List AV} {pr : Int → Bool} {K : Kw Prop} (hl : l.length ≤ 1000000) (hcl : ∀ x ∈ l, ∀ K : Kw Prop, K (.bool (pr x)) h nx = .ok True → (CS Tryz.prog B).fn g q (I x :: cap) h nx K = .ok True)
  (hK : K (.bool (l.any pr)) h nx = .ok True) : (CS Tryz.prog B).fn 131 p [encI l, .fn g q cap] h nx K = .ok True := by
 refine yS (p := .of 131) (K := K) (zZ yD dreg 9 fun hf => ?_) fun _ _ _ _ q => q
 rw [F131.go]
 refine yS (p := .of 165) (K := fun v1 h2 n3 => sBin .geq .int v1 (I 0) fun v4 => K v4 h2 n3) (zZ yD dreg 10000000 fun hf => ?_) fun _ _ _ _ q => q
 rw [F165.go]
 simp (disch := omega) only [sAdd, sSub, sMul, sEql, sNeq, sLss, sLeq, sGtr, sGeq, zI, zJ, zE, zD, yJ, yP, yV, yW, yE, yX, yT, jH, yN, yM, yL, zH, zT, zK, zC, decide_true, decide_false, Bool.not_true, Bool.not_false, yO]
 refine F165.L1 (fun m z5 h' nx' => ∃ i : Nat, z5 = I i ∧ l.length - i = m ∧ i ≤ l.length ∧ h' = h ∧ nx' = nx ∧ (l.take i).any pr = false) (m := l.length) (by omega) ⟨0, rfl, rfl, by omega, rfl, rfl, by simp⟩ ?_
 rintro m z2 z3 z5 z6 z7 _ _ R ⟨i, rfl, rfl, hi, rfl, rfl, htk⟩ hR
 simp (disch := omega) only [sAdd, sSub, sMul, sEql, sNeq, sLss, sLeq, sGtr, sGeq, zI, zJ, zE, zD, yJ, yP, yV, yW, yE, yX, yT, jH, yN, yM, yL, zH, zT, zK, zC, decide_true, decide_false, Bool.not_true, Bool.not_false, yO]
 by_cases hlt : i < l.length
 ·simp only [show (i : Int) < (l.length : Int) by omega, decide_true, zE]
  have hx : l[i]? = some l[i] := List.getElem?_eq_getElem hlt
  rw [sIxL rfl hlt, ldL (getI hx), sCall_fn]
  refine hcl _ (List.getElem_mem hlt) _ ?_
  cases he : pr l[i] with
  | true =>
   simp only [zE, sGeq, show (0 : Int) ≤ (i : Int) by omega, decide_true]
   rw [List.any_eq_true.2 ⟨_, List.getElem_mem hlt, he⟩] at hK
   exact hK
  | false =>
   simp only [zD]
   refine hR _ _ _ _ _ _ _ _ (by omega) ⟨i + 1, rfl, rfl, by omega, rfl, rfl, ?_⟩
   rw [List.take_add_one, hx, List.any_append, htk]
   simp [he]
 ·simp only [show ¬ (i : Int) < (l.length : Int) by omega, decide_false, zD]
  rw [F165.k8]
  rw [List.take_of_length_le (by omega)] at htk
  rw [htk] at hK
  simp only [sGeq, show ¬ (0 : Int) ≤ -1 by omega, decide_false]
  exact hK
theorem from122 {a b : Int} {l : List Int} (hl : l.length ≤ 1000000) : Pure Tryz.prog B 122 [I a, I b, encI l] (· = I (if l.any (fun x => decide (x < a) || decide (b < x)) then 3 else 0)) := by
 refine gY fun h nx K H0 hK => zZ yD dreg 1000 fun hf => ?_
 rw [F122.go]
 refine H0.box (l := [I a]) rfl fun x1 h1 nx1 H1 => ?_
 refine H1.box (l := [I b]) rfl fun x2 h2 nx2 H2 => ?_
 refine contF131 (pr := fun x => decide (x < a) || decide (b < x)) hl (fun x _ K hK => ?_) ?_
 ·refine yS (p := .of 147) (K := K) (zZ yD dreg 9 fun hf => ?_) fun _ _ _ _ q => q
  show zV tbl 9 _ (Pa.of 147) [I x, .ptr x1 0, .ptr x2 0] _ _ _ = _
  rw [F147.go, H2.load (k := 1) (i := 0) rfl rfl]
  by_cases c : x < a
  ·simp only [sLss, c, decide_true, yV, zI]
   simpa [c] using hK
  ·simp only [sLss, c, decide_false, yP]
   rw [H2.load (k := 0) (i := 0) rfl rfl]
   simp only [sGtr, zJ]
   simpa [c] using hK
 ·refine when123 _ _ _ _ _ _ ?_
  rintro _ rfl _
  exact hK _ _ _ _ _ H2 (zS rfl) rfl
end Go.Ev
namespace Go.Ev
def AscL (cells : Nat) (l : List Int) : Prop := l ≠ [] ∧ l.Pairwise (· < ·) ∧ ∀ c ∈ l, 0 ≤ c ∧ c < (cells : Int)
end Go.Ev
namespace Go.Ev
open Go Go.Proofs
variable {B : Nat}
theorem whenB82 (b : Bool) (e : Int) : Pure Tryz.prog B 82 [.bool b, I e] (· = I (if b then e else 0)) := by
 intro p h nx K hK
 refine zZ yD dreg 9 fun hf => ?_
 rw [F82.go]
 cases b <;> simp (disch := omega) only [sAdd, sSub, sMul, sEql, sNeq, sLss, sLeq, sGtr, sGeq, zI, zJ, zE, zD, yJ, yP, yV, yW, yE, yX, yT, jH, yN, yM, yL, zH, zT, zK, zC, decide_true, decide_false, Bool.not_true, Bool.not_false, yO] <;> exact hK _ rfl hf
theorem first80 {l : List Int} (hl : l.length ≤ 1000000) : Pure Tryz.prog B 80 [encI l] (· = I (gI l)) := by
 intro p h nx K hK
 refine zZ yD dreg 10000000 fun hf => ?_
 rw [F80.go]
 simp (disch := omega) only [sAdd, sSub, sMul, sEql, sNeq, sLss, sLeq, sGtr, sGeq, zI, zJ, zE, zD, yJ, yP, yV, yW, yE, yX, yT, jH, yN, yM, yL, zH, zT, zK, zC, decide_true, decide_false, Bool.not_true, Bool.not_false, yO]
 refine F80.L1 (fun m z5 h' nx' => ∃ i : Nat, z5 = I i ∧ l.length - i = m ∧ i ≤ l.length ∧ h' = h ∧ nx' = nx ∧ ∀ e ∈ l.take i, e = 0) (m := l.length) (by omega) ⟨0, rfl, rfl, by omega, rfl, rfl, by simp⟩ ?_
 rintro m z1 z2 z5 z6 z7 _ _ R ⟨i, rfl, rfl, hi, rfl, rfl, htk⟩ hR
 simp (disch := omega) only [sAdd, sSub, sMul, sEql, sNeq, sLss, sLeq, sGtr, sGeq, zI, zJ, zE, zD, yJ, yP, yV, yW, yE, yX, yT, jH, yN, yM, yL, zH, zT, zK, zC, decide_true, decide_false, Bool.not_true, Bool.not_false, yO]
 by_cases hlt : i < l.length
 ·simp only [show (i : Int) < (l.length : Int) by omega, decide_true, zE]
  have hx : l[i]? = some l[i] := List.getElem?_eq_getElem hlt
  rw [sIxL rfl hlt, ldL (getI hx)]
  simp (disch := omega) only [sAdd, sSub, sMul, sEql, sNeq, sLss, sLeq, sGtr, sGeq, zI, zJ, zE, zD, yJ, yP, yV, yW, yE, yX, yT, jH, yN, yM, yL, zH, zT, zK, zC, decide_true, decide_false, Bool.not_true, Bool.not_false, yO]
  have hd : l.drop i = l[i] :: l.drop (i + 1) := List.drop_eq_getElem_cons hlt
  by_cases h0 : l[i] = 0
  ·simp only [h0, decide_true, Bool.not_true, zD]
   refine hR _ _ _ _ _ _ _ _ (by omega) ⟨i + 1, rfl, rfl, by omega, rfl, rfl, fun e he => ?_⟩
   rw [List.take_add_one, hx] at he
   rcases List.mem_append.1 he with q | q
   ·exact htk e q
   ·simp at q; rw [q]; exact h0
  ·simp only [h0, decide_false, Bool.not_false, zE]
   refine hK _ ?_ hf
   rw [firstE_skip l i htk, hd, gI, if_pos h0]
 ·simp only [show ¬ (i : Int) < (l.length : Int) by omega, decide_false, zD]
  rw [F80.k8]
  refine hK _ ?_ hf
  rw [firstE_skip l i htk, List.drop_of_length_le (by omega)]; rfl
theorem sGW_tt (op : KW3 → OP) (h : T Blk) (nx : Pa) (k : KW3) : sGW (.bool true) true op h nx k = op k := nr rfl
end Go.Ev
namespace Go.Ev
open Go Go.Proofs
variable {B : Nat}
end Go.Ev
namespace Go.Ev
open Go Go.Proofs
variable {B : Nat}
end Go.Ev
namespace Go.Ev
open Go Go.Proofs
variable {B : Nat}
theorem sCall_yld {P : Program} {id : Pa} {args : List AV} {h : T Blk} {nx : Pa} {K : Kw Prop} : sCall (CS P B) (.yld id) args h nx K = (CS P B).yld id args h nx K := nr rfl
theorem Hp.addGro {h0 h : T Blk} {nx : Pa} {L : List Ob} (H : Hp h0 h nx L) (e : Nat) : Hp h0 h nx (.gro none e 0 [] :: L) :=
  ⟨H.keep, fun x hx => by rcases List.mem_cons.1 hx with rfl | q; · exact ⟨rfl, rfl⟩
                          · exact H.own x q, fun n hn => H.off n (by simpa [Ob.names] using hn), by have := H.nd; simpa [Ob.names] using this, H.fr⟩
theorem getLoop {h0 h : T Blk} {nx : Pa} {L : List Ob} {id : Pa} {b : Blk} {k : Nat} (H : Hp h0 h nx L) (hk : L[k]? = some (.raw id b)) : T.get .no id h = b := (H.own _ (List.mem_of_getElem? hk)).1
theorem Hp.setRaw {h0 h : T Blk} {nx : Pa} {L : List Ob} {id : Pa} {b b' : Blk} {k : Nat} (H : Hp h0 h nx L) (hk : L[k]? = some (.raw id b)) (hb : b' ≠ .no) : Hp h0 (T.set .no b' id h) nx (L.set k (.raw id b')) :=
 H.upd hk (by simp [Ob.names]) rfl ⟨T.get_set_same _ _ _ _, hb⟩
end Go.Ev
namespace Go.Ev
open Go Go.Proofs
variable {B : Nat}
theorem sort152 {h0 h : T Blk} {nx p : Pa} {L : List Ob} {k n : Nat} {o : Option Pa} {l : List Int} {K : Kw Prop} (hj : ∀ B, JOk Tryz.prog B hookS) (H : Hp h0 h nx L) (hk : L[k]? = some (.gro o 1 n (l.map I))) (hn : n ≤ 1000000)
  (hK : ∀ h', Hp h0 h' nx (L.set k (.gro o 1 n ((srt l).map I))) → K (.tup []) h' nx = .ok True) : (CS Tryz.prog B).fn 152 p [rowV o 1 n] h nx K = .ok True := by
 have own := H.own _ (List.mem_of_getElem? hk)
 cases o with
 | none =>
  obtain ⟨q1, rfl⟩ := own
  obtain rfl : l = [] := by simpa using q1
  refine CS_hook (hj B) (v := .tup []) (h2 := h) rfl (hK h (H.cast ?_))
  have e : (srt ([] : List Int)).map I = [] := by simp [srt]
  rw [e, (getSplit hk).2]; exact (getSplit hk).1
 | some id =>
  obtain ⟨t, h1, h2, h3⟩ := own
  rw [Nat.mul_one] at h1 h2 h3
  have e1 : sortJ (.sl id 0 n none 1) h = some (T.set Blk.no (Blk.cells true n (yR ((srt l).map I) t 0)) id h) := by
   show (match T.get Blk.no id h with
    | .cells op m t => bif Nat.beq 1 1 && Nat.ble (0 + n) m && Nat.ble n 1000000 then (match intsA (yC t 0 n) with
     | some l => some (T.set Blk.no (Blk.cells op m (yR ((srt l).map I) t 0)) id h)
     | none => none) else none
    | _ => none) = _
   rw [h1]
   show (bif Nat.beq 1 1 && Nat.ble (0 + n) n && Nat.ble n 1000000 then (match intsA (yC t 0 n) with
     | some l => some (T.set Blk.no (Blk.cells true n (yR ((srt l).map I) t 0)) id h)
     | none => none) else none) = _
   rw [Nat.ble_eq_true_of_le (by omega), Nat.ble_eq_true_of_le hn, h3, intsA_map]; rfl
  have e2 : hookS 152 [rowV (some id) 1 n] h = some (.tup [], T.set Blk.no (Blk.cells true n (yR ((srt l).map I) t 0)) id h) := by
   show (match sortJ (.sl id 0 n none 1) h with
    | some h => some ((.tup [] : AV), h)
    | none => none) = _
   rw [e1]
  refine CS_hook (hj B) e2 (hK _ (H.upd hk (by simp [Ob.names]) rfl ⟨_, by rw [T.get_set_same, Nat.mul_one], by simpa using h2, ?_⟩))
  have := rdList_wr t [] ((srt l).map I) 0 rfl
  rw [Nat.zero_add, List.nil_append] at this
  have hl : ((srt l).map I).length = n := by simpa using h2
  rw [hl] at this
  rw [Nat.mul_one]; exact this
end Go.Ev
namespace Go.Ev
open Go Go.Proofs
variable {B : Nat}
end Go.Ev
namespace Go.Ev
def Nrm (f : List Int) : Prop := f.Nodup ∧ ∀ x ∈ f, 1 ≤ x ∧ x ≤ (f.length : Int)
theorem sub_perm : ∀ (l r : List Int), l.Nodup → (∀ x ∈ l, x ∈ r) → ∃ s, r.Perm (l ++ s)
 | [], r, _, _ => ⟨r, .refl _⟩
 | a :: l, r, hn, hs => by
  obtain ⟨h1, h2⟩ := List.nodup_cons.1 hn
  have ha := hs a (by simp)
  obtain ⟨s, hp⟩ := sub_perm l (r.erase a) h2 fun x hx => (List.mem_erase_of_ne (by rintro rfl; exact h1 hx)).2 (hs x (by simp [hx]))
  exact ⟨s, (List.perm_cons_erase ha).trans (.cons a hp)⟩
abbrev upTo (n : Nat) : List Int := (List.range n).map fun (i : Nat) => (i : Int) + 1
theorem upTo_nodup (n : Nat) : (upTo n).Nodup := by
 rw [List.Nodup, List.pairwise_map]
 exact List.pairwise_lt_range.imp (by intro a b h; omega)
def Rv (l cur : List Int) (i : Nat) : Prop := cur.length = l.length ∧ ∀ t, t < l.length → cur[t]? = if t < i ∨ l.length ≤ t + i then l[l.length - 1 - t]? else l[t]?
theorem Rv.done {l cur : List Int} {i : Nat} (h : Rv l cur i) (hi : l.length ≤ 2 * i + 1) : cur = l.reverse := by
 refine List.ext_getElem? fun t => ?_
 by_cases ht : t < l.length
 ·rw [h.2 t ht, List.getElem?_reverse ht]
  by_cases c : t < i ∨ l.length ≤ t + i
  ·rw [if_pos c]
  ·rw [if_neg c, show l.length - 1 - t = t by omega]
 ·rw [List.getElem?_eq_none (by rw [h.1]; omega), List.getElem?_eq_none (by simp; omega)]
theorem Rv.step {l cur : List Int} {i j : Nat} {a b : Int} (h : Rv l cur i) (hij : i < j) (hs : i + j + 1 = l.length) (ha : cur[i]? = some a) (hb : cur[j]? = some b) : Rv l ((cur.set i b).set j a) (i + 1) := by
 obtain ⟨hl, hg⟩ := h
 refine ⟨by simp [hl], fun t ht => ?_⟩
 have e1 := hg i (by omega)
 have e2 := hg j (by omega)
 rw [if_neg (by omega), ha] at e1
 rw [if_neg (by omega), hb] at e2
 rw [List.getElem?_set, List.getElem?_set, List.length_set]
 by_cases c1 : j = t
 ·subst c1
  rw [if_pos rfl, if_pos (by omega), if_pos (by omega), show l.length - 1 - j = i by omega]
  exact e1
 ·rw [if_neg c1]
  by_cases c2 : i = t
  ·subst c2
   rw [if_pos rfl, if_pos (by omega), if_pos (by omega), show l.length - 1 - i = j by omega]
   exact e2
  ·rw [if_neg c2, hg t ht]
   by_cases c3 : t < i ∨ l.length ≤ t + i
   ·rw [if_pos c3, if_pos (by omega)]
   ·rw [if_neg c3, if_neg (by omega)]
end Go.Ev
namespace Go.Ev
section
variable {σ α : Type}
def gE (stp : σ → α → σ × Bool) : σ → List α → σ × Bool
 | s, [] => (s, true)
 | s, x :: l => if (stp s x).2 then gE stp (stp s x).1 l else ((stp s x).1, false)
theorem foldE_app (stp : σ → α → σ × Bool) : ∀ (a b : List α) (s : σ), gE stp s (a ++ b) = if (gE stp s a).2 then gE stp (gE stp s a).1 b else gE stp s a
 | [], b, s => rfl
 | x :: a, b, s => by
  rw [List.cons_append, gE, gE]
  cases c : (stp s x).2 with
  | true => rw [if_pos rfl, if_pos rfl]; exact foldE_app stp a b _
  | false => simp
end
theorem upTo_drop {n x : Nat} (h1 : 1 ≤ x) (h2 : x ≤ n) : (upTo n).drop (x - 1) = (x : Int) :: (upTo n).drop x := by
 have hl : (upTo n).length = n := by simp
 rw [List.drop_eq_getElem_cons (by omega), show x - 1 + 1 = x by omega]
 congr 1
 simp [upTo]; omega
end Go.Ev
namespace Go.Ev
open Go Go.Proofs
variable {B : Nat}
theorem sEqlW {a b : Nat} {K : AV → OP} : sBin .eql .int (.int .u64 (a : Int)) (.int .u64 (b : Int)) K = K (.bool (decide ((a : Int) = (b : Int)))) := by
 have e : sBin .eql .int (.int .u64 (a : Int)) (.int .u64 (b : Int)) K = K (.bool (ieq (a : Int) (b : Int))) := rfl
 rw [e, ieq_eq]
 congr 2
theorem wrapI (z : Int) : IntKind.wrap .i64 z = if z % 18446744073709551616 ≥ 9223372036854775808 then z % 18446744073709551616 - 18446744073709551616 else z % 18446744073709551616 := by
 unfold IntKind.wrap
 simp [IntKind.bits, IntKind.signed]
theorem wrap_sub (a b : Int) : IntKind.wrap .i64 (IntKind.wrap .i64 a - b) = IntKind.wrap .i64 (a - b) := by
 rw [wrapI, wrapI (a - b), wrapI a]
 split <;> split <;> split <;> omega
section
variable {σ : Type} {h0 : T Blk} {n : Nat} {lines : List (List Int)} {s : Int} {f bu bf be bp bg : Pa} {id : Pa} {LC : Bool → σ → List Ob → Prop} {stp : σ → List Int → σ × Bool}
end
end Go.Ev
namespace Go.Ev
open Go Go.Proofs
variable {B : Nat}
theorem cloneF79 {h0 h : T Blk} {nx p id : Pa} {L : List Ob} {k n : Nat} {cap : Option Nat} {l : List AV} {K : Kw Prop} (H : Hp h0 h nx L) (hk : L[k]? = some (.arr id l)) (hf : ∀ v ∈ l, fixd v = true) (hn : n ≤ 1000000) (hl : l.length = n)
  (hK : K (.lst 1 n l) h nx = .ok True) : (CS Tryz.prog B).fn 79 p [.sl id 0 n cap 1] h nx K = .ok True := by
 refine CS_frz (Q := (· = .lst 1 n l)) (fun hfr K hK => zZ yD dreg 9 fun _ => ?_) (fun v hv _ => by rw [hv]; exact hK)
 rw [F79.go]
 have Hb := Hp.init hfr
 have harr : HasArr h id l := H.own _ (List.mem_of_getElem? hk)
 have e : (sBin .eql (.nil .sl) (.sl id 0 n cap 1) .nils fun v1 => zG v1 (K .nils h nx) (jE 1 0 [I 0] [] h nx fun v2 h3 n4 => sApp 1 8 v2 (.sl id 0 n cap 1) h3 n4 fun v5 h6 n7 => K v5 h6 n7)) =
   (jE 1 0 [I 0] [] h nx fun v2 h3 n4 => sApp 1 8 v2 (.sl id 0 n cap 1) h3 n4 fun v5 h6 n7 => K v5 h6 n7) := nr rfl
 rw [e]
 refine Hb.copy (new := l) (fun h1 hh => HasArr.rd (harr.congr (hh id (by
  obtain ⟨op, t, g1, _⟩ := harr
  rw [g1]; intro q; cases q))) (by rw [hl, Nat.mul_one])) hl hf (by decide) hn fun v X h' nx' H' _ _ hF => ?_
 exact hK _ _ _ H'.fr H'.keep ⟨_, hF _ _ _ _ H' (by simp), rfl⟩
end Go.Ev
namespace Go.Ev
theorem flatMap_cong {α β : Type} {f g : α → List β} : ∀ {l : List α}, (∀ x ∈ l, f x = g x) → l.flatMap f = l.flatMap g
 | [], _ => rfl
 | a :: l, h => by rw [List.flatMap_cons, List.flatMap_cons, h a (by simp), flatMap_cong fun x hx => h x (by simp [hx])]
end Go.Ev
namespace Go.Ev
def enumG (ag : List Int → Bool) (n : Nat) : Nat → List Int → List (List Int)
 | 0, pre => if ag pre then [pre] else []
 | r + 1, pre => if ag pre then (upTo n).flatMap fun x => if x ∈ pre then [] else enumG ag n r (pre ++ [x]) else []
def SpOK (M : Int) (q : List (Int × Int)) : Prop := q.Pairwise (fun a b => a.1 < b.1) ∧ ∀ p ∈ q, 0 ≤ p.1 ∧ p.1 ≤ M
theorem SpOK.len {q : List (Int × Int)} (h : SpOK 9000 q) : q.length ≤ 9001 := by
 obtain ⟨t, ht⟩ := sub_perm (q.map (·.1)) ((List.range 9001).map fun (i : Nat) => (i : Int)) (by
  rw [List.nodup_iff_pairwise_ne, List.pairwise_map]
  exact h.1.imp fun {a b} q e => by omega) fun x hx => by
  obtain ⟨p, hp, rfl⟩ := List.mem_map.1 hx
  have := h.2 p hp
  exact List.mem_map.2 ⟨p.1.toNat, List.mem_range.2 (by omega), by omega⟩
 have := ht.length_eq
 rw [List.length_map, List.length_range, List.length_append, List.length_map] at this
 omega
def factF : Nat → Nat
 | 0 => 1
 | n + 1 => (n + 1) * factF n
abbrev perms (n r : Nat) (pre : List Int) : List (List Int) := enumG (fun _ => true) n r pre
theorem perms_succ (n r : Nat) (pre : List Int) : perms n (r + 1) pre = (upTo n).flatMap fun x => if x ∈ pre then [] else perms n r (pre ++ [x]) := by rw [perms, enumG, if_pos rfl]
theorem perms_mem {n : Nat} : ∀ {r : Nat} {pre f : List Int}, f ∈ perms n r pre → pre.Nodup → (∀ x ∈ pre, 1 ≤ x ∧ x ≤ (n : Int)) → f.length = pre.length + r ∧ f.Nodup ∧ ∀ x ∈ f, 1 ≤ x ∧ x ≤ (n : Int)
 | 0, pre, f, h, h1, h2 => by
  simp [enumG] at h; subst h; exact ⟨rfl, h1, h2⟩
 | r + 1, pre, f, h, h1, h2 => by
  rw [perms_succ] at h
  obtain ⟨x, hx, hx2⟩ := List.mem_flatMap.1 h
  by_cases c : x ∈ pre
  ·simp [c] at hx2
  ·rw [if_neg c] at hx2
   obtain ⟨i, hi, rfl⟩ := List.mem_map.1 hx
   have := List.mem_range.1 hi
   obtain ⟨q1, q2⟩ := perms_mem hx2 (List.nodup_append.2 ⟨h1, by simp, fun a ha b hb e => by simp at hb; subst hb; subst e; exact c ha⟩) fun y hy => by
    rcases List.mem_append.1 hy with q | q
    ·exact h2 y q
    ·simp at q; omega
   exact ⟨by simp at q1; omega, q2⟩
theorem perms_nrm {n : Nat} {f : List Int} (h : f ∈ perms n n []) : f.length = n ∧ Nrm f := by
 obtain ⟨h1, h2, h3⟩ := perms_mem h (by simp) (by simp)
 simp at h1
 exact ⟨h1, h2, fun x hx => by rw [h1]; exact h3 x hx⟩
theorem perms_len {n : Nat} : ∀ {r : Nat} {pre : List Int}, pre.Nodup → (∀ x ∈ pre, 1 ≤ x ∧ x ≤ (n : Int)) → pre.length + r = n → (perms n r pre).length = factF r
 | 0, pre, _, _, _ => by simp [enumG, factF]
 | r + 1, pre, h1, h2, h3 => by
  rw [perms_succ, List.length_flatMap]
  have key : ∀ l : List Int, (∀ x ∈ l, 1 ≤ x ∧ x ≤ (n : Int)) → (l.map fun x => (if x ∈ pre then [] else perms n r (pre ++ [x])).length).sum = (l.filter fun x => decide (x ∉ pre)).length * factF r := by
   intro l
   induction l with
   | nil => intro _; simp
   | cons a l ih =>
    intro hl
    rw [List.map_cons, List.sum_cons, ih fun x hx => hl x (by simp [hx])]
    by_cases c : a ∈ pre
    ·simp [c]
    ·rw [if_neg c, perms_len (List.nodup_append.2 ⟨h1, by simp, fun x hx b hb e => by simp at hb; subst hb; subst e; exact c hx⟩) (fun y hy => by
      rcases List.mem_append.1 hy with q | q
      ·exact h2 y q
      ·simp at q; subst q; exact hl y (by simp)) (by simp; omega)]
     simp only [List.filter_cons, c, not_false_eq_true, decide_true, if_true, List.length_cons, Nat.add_mul]
     omega
  rw [key _ fun x hx => by
   obtain ⟨i, hi, rfl⟩ := List.mem_map.1 hx
   have := List.mem_range.1 hi; omega]
  have hc : ((upTo n).filter fun x => decide (x ∉ pre)).length = r + 1 := by
   obtain ⟨t, ht⟩ := sub_perm pre (upTo n) h1 fun x hx => by
    have := h2 x hx
    exact List.mem_map.2 ⟨(x - 1).toNat, List.mem_range.2 (by omega), by omega⟩
   have hn := ht.nodup_iff.1 (upTo_nodup n)
   have hp := ht.filter fun x => decide (x ∉ pre)
   rw [hp.length_eq, List.filter_append]
   have e1 : pre.filter (fun x => decide (x ∉ pre)) = [] := List.filter_eq_nil_iff.2 fun x hx => by simp [hx]
   have e2 : t.filter (fun x => decide (x ∉ pre)) = t := List.filter_eq_self.2 fun x hx => by
    simp only [decide_eq_true_eq]
    intro q
    exact (List.nodup_append.1 hn).2.2 x q x hx rfl
   rw [e1, e2, List.nil_append]
   have := ht.length_eq
   simp at this; omega
  rw [hc, factF]
theorem factF_le {n : Nat} (h : n ≤ 9) : factF n ≤ 362880 := by
 have : n = 0 ∨ n = 1 ∨ n = 2 ∨ n = 3 ∨ n = 4 ∨ n = 5 ∨ n = 6 ∨ n = 7 ∨ n = 8 ∨ n = 9 := by omega
 rcases this with rfl | rfl | rfl | rfl | rfl | rfl | rfl | rfl | rfl | rfl <;> decide
end Go.Ev
namespace Go.Ev
end Go.Ev
namespace Go.Ev
def incZ (v : Int) : Int := IntKind.wrap .i64 (v + 1)
def incT (A : List (List Int)) (c : Nat) (x : Int) : List (List Int) := A.set c ((A.getD c []).set (x - 1).toNat (incZ ((A.getD c []).getD (x - 1).toNat 0)))
def addFi (A : List (List Int)) (fl : List Int) : Nat → List (List Int)
 | 0 => A
 | i + 1 => incT (addFi A fl i) i (fl.getD i 0)
def addF (A : List (List Int)) (fl : List Int) : List (List Int) := addFi A fl fl.length
def zeroT (n : Nat) : List (List Int) := List.replicate n (List.replicate n 0)
def distS (n : Nat) (fs : List (List Int)) : List (List Int) := fs.foldl addF (zeroT n)
def Sq (n : Nat) (A : List (List Int)) : Prop := A.length = n ∧ ∀ r ∈ A, r.length = n
theorem Sq.get {n c : Nat} {A : List (List Int)} (h : Sq n A) (hc : c < n) : A[c]? = some (A.getD c []) ∧ (A.getD c []).length = n := by
 have h1 := h.1
 rw [List.getD_eq_getElem?_getD, List.getElem?_eq_getElem (by omega)]
 exact ⟨rfl, h.2 _ (List.getElem_mem _)⟩
theorem Sq.zero (n : Nat) : Sq n (zeroT n) := ⟨by simp [zeroT], fun r hr => by simp [zeroT] at hr; rw [hr.2]; simp⟩
end Go.Ev
namespace Go.Ev
open Go Go.Proofs
variable {B : Nat}
abbrev tI (A : List (List Int)) : List (List AV) := A.map fun r => r.map I
end Go.Ev
namespace Go.Ev
open Go Go.Proofs
variable {B : Nat}
def wrapN (k : Nat) : Int := IntKind.wrap .i64 (k : Int)
theorem wrapN_succ (k : Nat) : IntKind.wrap .i64 (wrapN k + 1) = wrapN (k + 1) := by
 have := wrap_sub (k : Int) (-1)
 rw [show (IntKind.wrap .i64 (k : Int) - -1) = wrapN k + 1 by rw [wrapN]; omega, show ((k : Int) - -1) = ((k + 1 : Nat) : Int) by omega] at this
 exact this
abbrev rowsV (n : Nat) (rows : List (Pa × Option Nat)) : List AV := rows.map fun r => .sl r.1 0 n r.2 1
abbrev rowsO (rows : List (Pa × Option Nat)) (D : List (List Int)) : List Ob := List.zipWith (fun r fl => Ob.arr r.1 (fl.map I)) rows D
structure TL (n : Nat) (lines : List (List Int)) (s : Int) (most : Nat) (tb : Pa) (D : List (List Int)) (t : AV) (L : List Ob) : Prop where
 ex : ∃ (o : Option Pa) (rs : List (Option Pa)) (rows : List (Pa × Option Nat)) (sv : AV) (S : List Ob), t = .agg [I s, .bool false, I most, I (wrapN D.length), sv, rowV o 1 rows.length, .sl tb 0 n (some n) 1] ∧
  L = .gro o 1 rows.length (rowsV n rows) :: .tab tb rs (tI (distS n D)) :: (S ++ rowsO rows (D.take most)) ∧ rows.length = (D.take most).length ∧ (∀ r ∈ rows, capLe n r.2) ∧ (∀ c, c < n → ∃ r, rs[c]? = some (some r)) ∧
  ((sv = .nils ∧ S = [] ∧ (lines = [] ∨ D = [])) ∨ ∃ id c, sv = .sl id 0 1 none 2 ∧ S = [.arr id [I s, I c]] ∧ lines ≠ [])
end Go.Ev
namespace Go.Ev
open Go Go.Proofs
variable {B : Nat}
theorem Hp.groArr {h0 h : T Blk} {nx : Pa} {L : List Ob} {id : Pa} {e n : Nat} {l : List AV} (H : Hp h0 h nx (.gro (some id) e n l :: L)) : Hp h0 h nx (.arr id l :: L) := by
 refine ⟨H.keep, fun x hx => ?_, fun m hm => H.off m (by simpa [Ob.names] using hm), by have := H.nd; simpa [Ob.names] using this, H.fr⟩
 rcases List.mem_cons.1 hx with rfl | q
 ·obtain ⟨t, g1, g2, g3⟩ := H.own _ (List.mem_cons_self ..)
  exact ⟨true, t, by rw [g1, g2], by rw [g2]; exact g3⟩
 ·exact H.own x (List.mem_cons_of_mem _ q)
end Go.Ev
namespace Go.Ev
open Go Go.Proofs
variable {B : Nat}
theorem frz_aggS {N : Pa → Prop} {O : AV → Prop} {hh : T Blk} {l : List AV} (hs : l.all scal = true) (h : ∀ v ∈ l, Frz True N O hh v v) : Frz True N O hh (.agg l) (.agg l) :=
 .agg _ _ rfl hs fun i v v' h1 h2 => by rw [h1] at h2; cases h2; exact h v (List.mem_of_getElem? h1)
theorem frz_own {h' h : T Blk} {id : Pa} {off ln esz : Nat} {cap : Option Nat} (hl : T.get .no id h' ≠ .no) : FrzN h' h (.sl id off ln cap esz) (.sl id off ln cap esz) := .old _ (.inr (.inr (.inr ⟨id, off, ln, cap, esz, rfl, hl⟩)))
variable {n most : Nat} {lines : List (List Int)} {s : Int} {tb us : Pa} {h0 : T Blk} {M : List Ob}
theorem TL.cells {D : List (List Int)} {t : AV} {L : List Ob} (h : TL n lines s most tb D t L) : ∃ a b c d e, t = .agg [I s, .bool false, a, b, c, d, e] ∧ t.cells = some [I s, .bool false, a, b, c, d, e] := by
 obtain ⟨o, rs, rows, sv, S, rfl, rfl, hrl, hcap, hrs, hsp⟩ := h.ex
 refine ⟨_, _, _, _, _, rfl, ?_⟩
 rcases hsp with ⟨rfl, _⟩ | ⟨id, c, rfl, _⟩ <;> cases o <;> rfl
theorem TL.frz {D : List (List Int)} {t : AV} {L A C : List Ob} {h' h : T Blk} {nx : Pa} (hT : TL n lines s most tb D t L) (H : Hp h0 h' nx (A ++ (L ++ C))) : FrzN h' h t t := by
 obtain ⟨o, rs, rows, sv, S, rfl, rfl, hrl, hcap, hrs, hsp⟩ := hT.ex
 have live : ∀ x : Ob, x ∈ (A ++ ((.gro o 1 rows.length (rowsV n rows) :: .tab tb rs (tI (distS n D)) :: (S ++ rowsO rows (D.take most))) ++ C)) → ∀ id ∈ x.names, T.get .no id h' ≠ .no := fun x hx id hid => (H.own x hx).live id hid
 have hrow : FrzN h' h (rowV o 1 rows.length) (rowV o 1 rows.length) := by
  cases o with
  | none => exact .nils
  | some id => exact frz_own (live (.gro (some id) 1 rows.length (rowsV n rows)) (by simp) id (by simp [Ob.names]))
 have htb : FrzN h' h (.sl tb 0 n (some n) 1) (.sl tb 0 n (some n) 1) := frz_own (live (.tab tb rs (tI (distS n D))) (by simp) tb (by simp [Ob.names]))
 have hsv : FrzN h' h sv sv ∧ scal sv = true := by
  rcases hsp with ⟨rfl, _⟩ | ⟨id, c, rfl, rfl, _⟩
  ·exact ⟨.nils, rfl⟩
  ·exact ⟨frz_own (live (.arr id [I s, I c]) (by simp) id (by simp [Ob.names])), rfl⟩
 have hrs' : scal (rowV o 1 rows.length) = true := by cases o <;> rfl
 refine frz_aggS (by simp only [List.all_cons, List.all_nil, hsv.2, hrs', Bool.and_true]; rfl) fun v hv => ?_
 simp only [List.mem_cons, List.not_mem_nil, or_false] at hv
 rcases hv with rfl | rfl | rfl | rfl | rfl | rfl | rfl
 ·exact .int _ _
 ·exact .bool _
 ·exact .int _ _
 ·exact .int _ _
 ·exact hsv.1
 ·exact hrow
 ·exact htb
end Go.Ev
namespace Go.Ev
open Go Go.Proofs
variable {B : Nat}
theorem AscL.len {n : Nat} {l : List Int} (h : AscL n l) : l.length ≤ n := by
 obtain ⟨t, ht⟩ := sub_perm l ((List.range n).map fun (i : Nat) => (i : Int)) (h.2.1.imp fun {x y} q e => by omega) fun x hx => by
  have := h.2.2 x hx
  exact List.mem_map.2 ⟨x.toNat, List.mem_range.2 (by omega), by omega⟩
 have := ht.length_eq
 simp at this
 omega
end Go.Ev
namespace Go.Ev
open Go Go.Proofs
variable {B : Nat}
end Go.Ev
namespace Go.Ev
open Go Go.Proofs
variable {B : Nat}
theorem gro_some {h0 h : T Blk} {nx : Pa} {L : List Ob} {k n e : Nat} {o : Option Pa} {l : List AV} (H : Hp h0 h nx L) (hk : L[k]? = some (.gro o e n l)) (hn : 0 < n) : ∃ id, o = some id := by
 cases o with
 | none =>
  obtain ⟨_, rfl⟩ := H.own _ (List.mem_of_getElem? hk)
  omega
 | some id => exact ⟨id, rfl⟩
end Go.Ev
namespace Go.Ev
def gS (s : List Int) (v x : Int) : List Int := s.set v.toNat (s.getD v.toNat 0 + x)
def vs1 (s : List Int) (e : Int × Int) (x : Int) : List Int := gS (gS s e.1 x) e.2 x
def vsG (s : List Int) (E : List (Int × Int)) (ls : List Int) : List Int := (E.zip ls).foldl (fun s p => vs1 s p.1 p.2) s
def vsF (V : Nat) (E : List (Int × Int)) (ls : List Int) : List Int := vsG (List.replicate V 0) E ls
theorem addVx_len (s : List Int) (v x : Int) : (gS s v x).length = s.length := by simp [gS]
theorem vs1_len (s : List Int) (e : Int × Int) (x : Int) : (vs1 s e x).length = s.length := by simp [vs1, addVx_len]
theorem vsG_len : ∀ (E : List (Int × Int)) (ls s : List Int), (vsG s E ls).length = s.length
 | [], ls, s => rfl
 | e :: E, [], s => rfl
 | e :: E, x :: ls, s => by
  show (vsG (vs1 s e x) E ls).length = _
  rw [vsG_len E ls, vs1_len]
theorem vsF_len (V : Nat) (E : List (Int × Int)) (ls : List Int) : (vsF V E ls).length = V := by rw [vsF, vsG_len]; simp
theorem vsG_snoc : ∀ (E : List (Int × Int)) (ls : List Int) (s : List Int) (x : Int) (e : Int × Int), E[ls.length]? = some e → vsG s E (ls ++ [x]) = vs1 (vsG s E ls) e x
 | [], ls, s, x, e, h => by simp at h
 | a :: E, [], s, x, e, h => by
  simp at h; subst h; cases E <;> rfl
 | a :: E, y :: ls, s, x, e, h => by
  show vsG (vs1 s a y) E (ls ++ [x]) = vs1 (vsG (vs1 s a y) E ls) e x
  exact vsG_snoc E ls _ x e (by simpa using h)
theorem vsF_snoc {V : Nat} {E : List (Int × Int)} {ls : List Int} {x : Int} {e : Int × Int} (h : E[ls.length]? = some e) : vsF V E (ls ++ [x]) = vs1 (vsF V E ls) e x := vsG_snoc E ls _ x e h
def Sm (s : List Int) (M : Nat) : Prop := ∀ v ∈ s, 0 ≤ v ∧ v ≤ (M : Int)
theorem Sm.get {s : List Int} {M : Nat} (h : Sm s M) (i : Nat) : 0 ≤ s.getD i 0 ∧ s.getD i 0 ≤ (M : Int) := by
 rw [List.getD_eq_getElem?_getD]
 cases e : s[i]? with
 | none => simp
 | some v => exact h v (List.mem_of_getElem? e)
theorem Sm.mono {s : List Int} {M N : Nat} (h : Sm s M) (hm : M ≤ N) : Sm s N := fun v hv => by have := h v hv; omega
theorem Sm.add {s : List Int} {M X : Nat} {v x : Int} (h : Sm s M) (hx : 0 ≤ x ∧ x ≤ (X : Int)) : Sm (gS s v x) (M + X) := by
 intro u hu
 have g := h.get v.toNat
 rcases List.mem_or_eq_of_mem_set hu with q | rfl
 ·have := h u q; omega
 ·omega
theorem Sm.vs1 {s : List Int} {M X : Nat} {e : Int × Int} {x : Int} (h : Sm s M) (hx : 0 ≤ x ∧ x ≤ (X : Int)) : Sm (Ev.vs1 s e x) (M + 2 * X) := by
 have := (h.add (v := e.1) hx).add (v := e.2) hx
 exact this.mono (by omega)
theorem vsG_sm {X : Nat} : ∀ (E : List (Int × Int)) (ls s : List Int) (M : Nat), Sm s M → (∀ x ∈ ls, 0 ≤ x ∧ x ≤ (X : Int)) → Sm (vsG s E ls) (M + ls.length * (2 * X))
 | [], ls, s, M, h, _ => h.mono (by omega)
 | e :: E, [], s, M, h, _ => h.mono (by omega)
 | e :: E, x :: ls, s, M, h, hl => by
  have := vsG_sm E ls (vs1 s e x) (M + 2 * X) (h.vs1 (hl x (by simp))) fun y hy => hl y (by simp [hy])
  refine Sm.mono this ?_
  rw [List.length_cons, Nat.add_mul]; omega
theorem vsF_sm {V X : Nat} {E : List (Int × Int)} {ls : List Int} (hl : ∀ x ∈ ls, 0 ≤ x ∧ x ≤ (X : Int)) : Sm (vsF V E ls) (ls.length * (2 * X)) := by
 have := vsG_sm E ls (List.replicate V 0) 0 (by intro v hv; simp at hv; omega) hl
 rwa [Nat.zero_add] at this
theorem addVx_back {s : List Int} {v x : Int} (h : v.toNat < s.length) : gS (gS s v x) v (-x) = s := by
 unfold gS
 rw [List.set_set]
 have e : (s.set v.toNat (s.getD v.toNat 0 + x)).getD v.toNat 0 = s.getD v.toNat 0 + x := by
  rw [List.getD_eq_getElem?_getD, List.getElem?_set, if_pos rfl, if_pos h]; rfl
 rw [e, show s.getD v.toNat 0 + x + -x = s.getD v.toNat 0 by omega]
 refine List.ext_getElem? fun i => ?_
 rw [List.getElem?_set]
 by_cases c : v.toNat = i
 ·subst c
  rw [if_pos rfl, if_pos h, List.getD_eq_getElem?_getD, List.getElem?_eq_getElem h]; rfl
 ·rw [if_neg c]
theorem addVx_comm {s : List Int} {u v x y : Int} (h : u.toNat ≠ v.toNat) : gS (gS s u x) v y = gS (gS s v y) u x := by
 unfold gS
 have e1 : (s.set u.toNat (s.getD u.toNat 0 + x)).getD v.toNat 0 = s.getD v.toNat 0 := by
  rw [List.getD_eq_getElem?_getD, List.getElem?_set_ne h, List.getD_eq_getElem?_getD]
 have e2 : (s.set v.toNat (s.getD v.toNat 0 + y)).getD u.toNat 0 = s.getD u.toNat 0 := by
  rw [List.getD_eq_getElem?_getD, List.getElem?_set_ne (Ne.symm h), List.getD_eq_getElem?_getD]
 rw [e1, e2, List.set_comm _ _ h]
theorem vs1_back {s : List Int} {e : Int × Int} {x : Int} (h1 : e.1.toNat < s.length) (h2 : e.2.toNat < s.length) (hne : e.1.toNat ≠ e.2.toNat) : vs1 (vs1 s e x) e (-x) = s := by
 unfold vs1
 rw [addVx_comm (s := gS s e.1 x) (u := e.2) (v := e.1) (Ne.symm hne), addVx_back h1, addVx_back h2]
def jN (V : Nat) (E : List (Int × Int)) (m r : Nat) (pre : List Int) : List (List Int) := (perms m r pre).filter fun f => decide (vsF V E f).Nodup
theorem antiL_zero (V : Nat) (E : List (Int × Int)) (m : Nat) (pre : List Int) : jN V E m 0 pre = if (vsF V E pre).Nodup then [pre] else [] := by
 unfold jN
 show ((if true = true then [pre] else []).filter _) = _
 rw [if_pos rfl]
 by_cases c : (vsF V E pre).Nodup <;> simp [c]
theorem antiL_succ (V : Nat) (E : List (Int × Int)) (m r : Nat) (pre : List Int) : jN V E m (r + 1) pre = (upTo m).flatMap fun x => if x ∈ pre then [] else jN V E m r (pre ++ [x]) := by
 unfold jN
 rw [perms_succ, List.filter_flatMap]
 refine flatMap_cong fun x _ => ?_
 by_cases c : x ∈ pre
 ·simp [c]
 ·rw [if_neg c, if_neg c]
theorem antiL_len {V : Nat} {E : List (Int × Int)} {m : Nat} (r : Nat) {pre : List Int} (h1 : pre.Nodup) (h2 : ∀ x ∈ pre, 1 ≤ x ∧ x ≤ (m : Int)) (h3 : pre.length + r = m) : (jN V E m r pre).length ≤ factF r := by
 refine Nat.le_trans (List.length_filter_le _ _) ?_
 rw [perms_len h1 h2 h3]
 exact Nat.le_refl _
theorem nodup_snoc {pre : List Int} {x : Int} (h : pre.Nodup) : (pre ++ [x]).Nodup ↔ x ∉ pre := by
 rw [List.nodup_append]
 constructor
 ·intro q hx
  exact q.2.2 x hx x (by simp) rfl
 ·intro q
  exact ⟨h, by simp, fun a ha b hb e => by simp at hb; subst hb; subst e; exact q ha⟩
end Go.Ev
namespace Go.Ev
open Go Go.Proofs
variable {B : Nat}
theorem values126o {h0 h : T Blk} {nx : Pa} {L : List Ob} {p sm : Pa} {V : Nat} {K : Kw Prop} (H : Hp h0 h nx L) (hK : ∀ b h' nx', Hp h0 h' nx' (.arr b [.sl sm 0 V (some V) 1] :: L) → K (.fn 153 (.of 153) [.ptr b 0]) h' nx' = .ok True) :
  (CS Tryz.prog B).fn 126 p [.sl sm 0 V (some V) 1] h nx K = .ok True := by
 refine yS (p := .of 126) (K := K) (zZ yD dreg 100 fun hf => ?_) fun _ _ _ _ q => q
 rw [F126.go]
 refine H.box (l := [.sl sm 0 V (some V) 1]) rfl fun b h1 nx1 H1 => ?_
 exact hK _ _ _ H1
theorem iter153o {h : T Blk} {nx : Pa} {p id b sm : Pa} {V : Nat} {l : List Int} {K : Kw Prop} (J : Nat → T Blk → Pa → Prop) (hV : l.length = V) (hl : V ≤ 1000000) (hJ : J 0 h nx)
  (hld : ∀ op : AV → OP, zA (.ptr b 0) h op = op (.sl sm 0 V (some V) 1)) (hrd : ∀ (i : Nat) (x : Int) h nx, J i h nx → l[i]? = some x → ∀ op : AV → OP, zA (.ptr sm i) h op = op (I x))
  (step : ∀ (i : Nat) (x : Int) (h : T Blk) (nx : Pa) (K : Kw Prop), l[i]? = some x → J i h nx → Fr h nx → (∀ h' nx', J (i + 1) h' nx' → K (.bool true) h' nx' = .ok True) → (CS Tryz.prog B).yld id [I x] h nx K = .ok True)
  (fr : ∀ i h nx, J i h nx → Fr h nx) (hK : ∀ h' nx', J V h' nx' → K (.tup []) h' nx' = .ok True) : (CS Tryz.prog B).fn 153 p [.yld id, .ptr b 0] h nx K = .ok True := by
 refine yS (p := .of 153) (K := K) (zZ yD dreg 10000000 fun hf => ?_) fun _ _ _ _ q => q
 rw [F153.go, hld]
 simp only [zT]
 refine F153.L1 (fun m z5 h' nx' => ∃ i : Nat, z5 = I i ∧ V - i = m ∧ i ≤ V ∧ J i h' nx') (m := V) (by omega) ⟨0, rfl, rfl, by omega, hJ⟩ ?_
 rintro m z2 z5 z6 z7 h1 nx1 R ⟨i, rfl, rfl, hi, hJ1⟩ hR
 simp only [sLss]
 by_cases hlt : i < V
 ·simp only [show (i : Int) < (V : Int) by omega, decide_true, zE]
  have hx : l[i]? = some (l[i]'(by omega)) := List.getElem?_eq_getElem (by omega)
  rw [sIx (i := i) rfl hlt, hrd i _ _ _ hJ1 hx, sCall_yld]
  refine step i _ _ _ _ hx hJ1 (fr _ _ _ hJ1) fun h2 nx2 hJ2 => ?_
  simp only [yE, Bool.not_true, zD]
  try rw [sAdd (by omega)]
  exact hR _ _ _ _ _ _ _ (by omega) ⟨i + 1, rfl, rfl, by omega, hJ2⟩
 ·simp only [show ¬ (i : Int) < (V : Int) by omega, decide_false, zD]
  obtain rfl : i = V := by omega
  exact hK _ _ hJ1
theorem append173o {h0 h : T Blk} {nx : Pa} {L : List Ob} {p q b sm : Pa} {V : Nat} {l : List Int} {K : Kw Prop} (hV : l.length = V) (hl : V ≤ 100000) (H : Hp h0 h nx L) (hb : Ob.arr b [.sl sm 0 V (some V) 1] ∈ L) (hs : Ob.arr sm (l.map I) ∈ L)
  (hK : ∀ o h' nx', Hp h0 h' nx' (.gro o 1 V (l.map I) :: L) → K (rowV o 1 V) h' nx' = .ok True) : (CS Tryz.prog B).fn 173 p [.nils, .fn 153 q [.ptr b 0]] h nx K = .ok True := by
 refine yS (p := .of 173) (K := K) (zZ yD dreg 10000000 fun hf => ?_) fun _ _ _ _ q => q
 rw [F173.go]
 refine H.box (l := [.nils]) rfl fun bx h1 nx1 H1 => ?_
 refine H1.rf (g := 153) (p := q) (cap := [.ptr b 0]) rfl fun id h2 nx2 H2 => ?_
 have ldA : ∀ {h nx} {L' : List Ob} {bb : Pa} {ll : List AV} {i : Nat} {v : AV} {op : AV → OP}, Hp h0 h nx L' → Ob.arr bb ll ∈ L' → ll[i]? = some v → zA (.ptr bb i) h op = op v := fun H hm hv => HasArr.load (H.own _ hm) hv
 refine iter153o (b := b) (sm := sm) (V := V) (l := l) (fun i h' nx' => ∃ o, Hp h0 h' nx' (.raw id (.loop .ready .none (F173.fr .nils (.fn 153 q [.ptr b 0]) (.ptr bx 0) .nils .undef (.fn 153 q [.ptr b 0]) .undef) [.of 6] F173.b3 F173.b4) :: .arr bx [rowV o 1 i] :: .gro o 1 i ((l.take i).map I) :: L)) hV (by omega) ⟨none, ?_⟩ (fun op => ldA H2 (List.mem_cons_of_mem _ (List.mem_cons_of_mem _ hb)) (i := 0) rfl) ?_ ?_ (fun i h nx hq => by obtain ⟨o, H⟩ := hq; exact H.fr) ?_
 ·have := H2.addGro 1
  exact this.perm ((List.Perm.swap _ _ _).trans (.cons _ (.swap _ _ _)))
 ·rintro i x h3 nx3 ⟨o, H3⟩ hx op
  exact ldA H3 (List.mem_cons_of_mem _ (List.mem_cons_of_mem _ (List.mem_cons_of_mem _ hs))) (getI hx)
 ·rintro i x h3 nx3 K3 hx ⟨o, H3⟩ _ hnext
  have hi : i < l.length := (List.getElem?_eq_some_iff.1 hx).1
  refine by_round (fns := tbl) dreg 100 fun hf => ?_
  rw [F173.y4 (getLoop H3 (k := 0) rfl) rfl]
  have H4 := H3.setRaw (k := 0) rfl (b' := .loop .busy .none (F173.fr .nils (.fn 153 q [.ptr b 0]) (.ptr bx 0) .nils .undef (.fn 153 q [.ptr b 0]) .undef) [.of 6] F173.b3 F173.b4) (by intro e; cases e)
  rw [H4.load (k := 1) (i := 0) rfl rfl]
  refine H4.bslice (l := [I x]) rfl fun e5 h5 nx5 H5 => ?_
  refine H5.appN (k := 3) (o := o) (c := 1) (new := [I x]) rfl (HasArr.rd (l := [I x]) (n := 1) (H5.own _ (List.mem_cons_self ..)) rfl) rfl rfl (by decide) (by decide) (by omega) fun o' h6 nx6 ho H6 => ?_
  refine H6.store (k := 2) rfl (by simp) (rowV_cells _ _ _) fun h7 H7 => ?_
  refine H7.rend (k := 1) rfl fun h8 H8 => ?_
  refine hnext _ _ ⟨o', (H8.drop).cast ?_⟩
  have e1 : (l.take (i + 1)).map I = (l.take i).map I ++ [I x] := by rw [List.take_add_one, hx]; simp
  rw [e1]; rfl
 ·rintro h3 nx3 ⟨o, H3⟩
  rw [List.take_of_length_le (by omega)] at H3
  refine H3.rfEnd fun h4 H4 => ?_
  rw [rfEnd_on, F173.k6, H4.load (k := 0) (i := 0) rfl rfl]
  exact hK _ _ _ H4.drop
theorem sorted125o {h0 h : T Blk} {nx : Pa} {L : List Ob} {p q b sm : Pa} {V : Nat} {l : List Int} {K : Kw Prop} (hj : ∀ B, JOk Tryz.prog B hookS) (hV : l.length = V) (hl : V ≤ 100000) (H : Hp h0 h nx L) (hb : Ob.arr b [.sl sm 0 V (some V) 1] ∈ L) (hs : Ob.arr sm (l.map I) ∈ L)
  (hK : ∀ o h' nx', Hp h0 h' nx' (.gro o 1 V ((srt l).map I) :: L) → K (rowV o 1 V) h' nx' = .ok True) : (CS Tryz.prog B).fn 125 p [.fn 153 q [.ptr b 0]] h nx K = .ok True := by
 refine yS (p := .of 125) (K := K) (zZ yD dreg 100 fun hf => ?_) fun _ _ _ _ q => q
 rw [F125.go]
 refine yS (p := .of 151) (K := fun v1 h2 n3 => (CS Tryz.prog B).fn 152 (.of 152) [v1] h2 n3 fun v4 h5 n6 => K v1 h5 n6) (zZ yD dreg 100 fun hf => ?_) fun _ _ _ _ q => q
 rw [F151.go]
 refine append173o hV hl H hb hs fun o h1 nx1 H1 => ?_
 refine sort152 hj H1 (k := 0) rfl (by omega) fun h2 H2 => ?_
 exact hK _ _ _ H2
theorem Hp.clrGro {K : AV → T Blk → Pa → OP} {h0 h : T Blk} {nx : Pa} {L : List Ob} {k n a : Nat} {id : Pa} {l : List AV} (H : Hp h0 h nx L) (hk : L[k]? = some (.gro (some id) 1 n l)) (ha : a < n)
  (hK : ∀ h' l', Hp h0 h' nx (L.set k (.gro (some id) 1 n l')) → K .undef h' nx = .ok True) : sClr 1 [I 0] (dropV (some id) 1 n a) h nx K = .ok True := by
 obtain ⟨t, h1, h2, h3⟩ := H.own _ (List.mem_of_getElem? hk)
 have key : ∀ (off ln : Nat) (cap : Option Nat), off + ln * 1 ≤ n * 1 → 1 ≤ ln → sClr 1 [I 0] (.sl id off ln cap 1) h nx K = .ok True := by
  intro off ln cap h4 h5
  show (bif Nat.beq 1 1 && Nat.ble 1 ln then asCells (T.get .no id h) (fun op m t => bif Nat.ble (off + ln * 1) m && Nat.beq ([I 0] : List AV).length 1 && ([I 0] : List AV).all scal then
     gD (repl ln [I 0]) t off fun t' => T.setK .no (.cells op m t') id h fun h' => K .undef h' nx
    else .no 57) (.no 57) else _) = _
  rw [Nat.ble_eq_true_of_le h5, show (Nat.beq 1 1 && true) = true from rfl, cond_true, h1]
  show (bif Nat.ble (off + ln * 1) (n * 1) && Nat.beq ([I 0] : List AV).length 1 && ([I 0] : List AV).all scal then _ else _) = _
  rw [Nat.ble_eq_true_of_le h4, show (true && Nat.beq ([I 0] : List AV).length 1 && ([I 0] : List AV).all scal) = true from rfl, cond_true, yQ, T.setK_eq]
  refine hK _ (yC (yR (repl ln [I 0]) t off) 0 (n * 1)) (H.upd hk (by simp [Ob.names]) rfl ⟨_, T.get_set_same _ _ _ _, by simp, rfl⟩)
 unfold dropV
 by_cases c : a = 0
 ·subst c
  show sClr 1 [I 0] (.sl id 0 n none 1) h nx K = _
  exact key 0 n none (by omega) (by omega)
 ·have hb : Nat.beq a 0 = false := by cases a with | zero => exact absurd rfl c | succ a => rfl
  show sClr 1 [I 0] (bif Nat.beq a 0 then .sl id 0 n none 1 else bif Nat.ble (a + 1) n then .sl id (0 + a * 1) (n - a) none 1 else .esl) h nx K = _
  rw [hb, cond_false, Nat.ble_eq_true_of_le (by omega), cond_true]
  exact key _ _ none (by omega) (by omega)
theorem sorted_nodup {l : List Int} (hs : l.Pairwise (· ≤ ·)) (h : ∀ (j : Nat) (hj : j + 1 < l.length), l[j]'(by omega) ≠ l[j + 1]) : l.Nodup := by
 have step : ∀ (d i : Nat) (h1 : i + d + 1 < l.length), l[i]'(by omega) < l[i + d + 1] := by
  intro d
  induction d with
  | zero =>
   intro i h1
   have := List.pairwise_iff_getElem.1 hs i (i + 1) (by omega) (by omega) (by omega)
   have := h i (by omega)
   simp only [Nat.add_zero]; omega
  | succ d ih =>
   intro i h1
   have a1 := ih i (by omega)
   have a2 := List.pairwise_iff_getElem.1 hs (i + d + 1) (i + d + 1 + 1) (by omega) (by omega) (by omega)
   have e : l[i + (d + 1) + 1] = l[i + d + 1 + 1] := by congr 1
   rw [e]; omega
 refine List.pairwise_iff_getElem.2 fun i j hi hj hij e => ?_
 have := step (j - i - 1) i (by omega)
 have e2 : l[i + (j - i - 1) + 1]'(by omega) = l[j] := by congr 1; omega
 omega
theorem compact135o {h0 h : T Blk} {nx : Pa} {L : List Ob} {p : Pa} {o : Option Pa} {n : Nat} {l : List Int} {K : Kw Prop} (hl : l.length = n) (hn : n ≤ 100000) (hs : l.Pairwise (· ≤ ·)) (H : Hp h0 h nx (.gro o 1 n (l.map I) :: L))
  (hK : ∀ (v : AV) (c : Nat) (X : Ob) h' nx', (∀ op : AV → OP, sLen v op = op (I c)) → c ≤ n → (c = n ↔ l.Nodup) → Hp h0 h' nx' (X :: L) → K v h' nx' = .ok True) : (CS Tryz.prog B).fn 135 p [rowV o 1 n] h nx K = .ok True := by
 refine yS (p := .of 135) (K := K) (zZ yD dreg 10000000 fun hf => ?_) fun _ _ _ _ q => q
 rw [F135.go, H.groLen (k := 0) rfl]
 simp only [sLss]
 have hlen : ∀ {h' nx'} {L' : List Ob} {l' : List AV} (_ : Hp h0 h' nx' (.gro o 1 n l' :: L')) (op : AV → OP), sLen (rowV o 1 n) op = op (I n) := fun H' op => H'.groLen (k := 0) rfl
 by_cases c2 : n < 2
 ·simp only [show (n : Int) < 2 by omega, decide_true, zE]
  refine hK _ n _ _ _ (hlen H) (Nat.le_refl _) ⟨fun _ => ?_, fun _ => rfl⟩ H
  match l, hl with
  | [], _ => exact .nil
  | [a], _ => simp
  | a :: b :: q, hl => simp at hl; omega
 simp only [show ¬ (n : Int) < 2 by omega, decide_false, zD]
 obtain ⟨id, rfl⟩ := gro_some H (k := 0) rfl (by omega)
 refine F135.L2 (fun m x2 h' nx' => ∃ i : Nat, x2 = I i ∧ n - i = m ∧ 1 ≤ i ∧ i ≤ n ∧ h' = h ∧ nx' = nx ∧ ∀ (j : Nat) (hj : j + 1 < l.length), j + 1 < i → l[j]'(by omega) ≠ l[j + 1]) (m := n - 1) (by omega) ⟨1, rfl, rfl, by omega, by omega, rfl, rfl, fun j hj h => by omega⟩ ?_
 rintro m z1 z2 z3 z4 z6 z7 z8 z9 h nx R ⟨i, rfl, rfl, hi1, hi2, rfl, rfl, hne⟩ hR
 rw [hlen H]
 simp only [sLss]
 by_cases hlt : i < n
 case neg =>
  simp only [show ¬ (i : Int) < (n : Int) by omega, decide_false, zD]
  rw [F135.k17]
  refine hK _ n _ _ _ (hlen H) (Nat.le_refl _) ⟨fun _ => sorted_nodup hs fun j hj => hne j hj (by omega), fun _ => rfl⟩ H
 simp only [show (i : Int) < (n : Int) by omega, decide_true, zE]
 have hx : (l.map I)[i]? = some (I (l[i]'(by omega))) := getI (List.getElem?_eq_getElem (by omega))
 have hy : (l.map I)[i - 1]? = some (I (l[i - 1]'(by omega))) := getI (List.getElem?_eq_getElem (by omega))
 have ix : ∀ (j : Nat) (op : AV → OP), j < n → zF 1 (rowV (some id) 1 n) (I (j : Int)) op = op (.ptr id j) := fun j op hj => by
  show zF 1 (.sl id 0 n none 1) (I (j : Int)) op = _
  rw [sIaddr_sl hj]; simp
 rw [ix i _ hlt, H.loadGro (k := 0) rfl hx, sSub (by omega), show (i : Int) - 1 = ((i - 1 : Nat) : Int) by omega, ix (i - 1) _ (by omega), H.loadGro (k := 0) rfl hy]
 simp only [sEql]
 by_cases c : (l[i]'(by omega)) = l[i - 1]'(by omega)
 case neg =>
  simp only [c, decide_false, zD]
  rw [sAdd (by omega)]
  refine hR _ _ _ _ _ _ _ _ _ _ _ (by omega) ⟨i + 1, rfl, rfl, by omega, by omega, rfl, rfl, fun j hj h => ?_⟩
  by_cases e : j + 1 = i
  ·have e1 : l[j + 1] = l[i]'(by omega) := by congr 1
   have e2 : l[j]'(by omega) = l[i - 1]'(by omega) := by congr 1; omega
   rw [e1, e2]
   exact fun q => c q.symm
  ·exact hne j hj (by omega)
 have hnot : ¬ l.Nodup := fun hnd => List.pairwise_iff_getElem.1 hnd (i - 1) i (by omega) (by omega) (by omega) c.symm
 simp only [c, decide_true, zE]
 have eLo : ∀ op : AV → OP, sSlice 1 (rowV (some id) 1 n) (some (I (i : Int))) none none op = op (.sl id i (n - i) none 1) := fun op => by
  rw [H.groLo (k := 0) rfl hi2]
  show op (bif Nat.beq i 0 then _ else bif Nat.ble (i + 1) n then .sl id (0 + i * 1) (n - i) none 1 else _) = _
  have hb : Nat.beq i 0 = false := by cases i with | zero => omega | succ a => rfl
  rw [hb, cond_false, Nat.ble_eq_true_of_le (by omega), cond_true]; simp
 rw [eLo]
 refine F135.L8 (fun m x2 x4 h' nx' => ∃ (a k : Nat) (t : List Int), x2 = I a ∧ x4 = I k ∧ n - i - k = m ∧ 1 ≤ k ∧ k ≤ n - i ∧ i ≤ a ∧ a + 1 ≤ i + k ∧ t.length = n ∧ nx' = nx ∧ Hp h0 h' nx (.gro (some id) 1 n (t.map I) :: L)) (m := n - i - 1) (by omega) ⟨i, 1, l, rfl, rfl, rfl, by omega, by omega, by omega, by omega, hl, rfl, H⟩ ?_
 rintro m y2 y4 y8 y9 h2 nx R2 ⟨a, k, t, rfl, rfl, rfl, hk1, hk2, ha1, ha2, ht, rfl, H2⟩ hR2
 simp only [zT, sLss]
 by_cases hkt : k < n - i
 ·simp only [show (k : Int) < ((n - i : Nat) : Int) by omega, decide_true, zE]
  have iy : ∀ (j : Nat) (op : AV → OP), j < n - i → zF 1 (.sl id i (n - i) none 1) (I (j : Int)) op = op (.ptr id (i + j)) := fun j op hj => by
   rw [sIaddr_sl hj]; simp
  have g1 : (t.map I)[i + k]? = some (I (t[i + k]'(by omega))) := getI (List.getElem?_eq_getElem (by omega))
  have g2 : (t.map I)[i + (k - 1)]? = some (I (t[i + (k - 1)]'(by omega))) := getI (List.getElem?_eq_getElem (by omega))
  rw [iy k _ hkt, H2.loadGro (k := 0) rfl g1, sSub (by omega), show (k : Int) - 1 = ((k - 1 : Nat) : Int) by omega, iy (k - 1) _ (by omega), H2.loadGro (k := 0) rfl g2]
  simp only [sNeq]
  by_cases d : (t[i + k]'(by omega)) = t[i + (k - 1)]'(by omega)
  ·simp only [d, decide_true, Bool.not_true, zD]
   rw [sAdd (by omega)]
   exact hR2 _ _ _ _ _ _ _ (by omega) ⟨a, k + 1, t, rfl, rfl, rfl, by omega, by omega, by omega, by omega, ht, rfl, H2⟩
  ·simp only [d, decide_false, Bool.not_false, zE]
   rw [iy k _ hkt, H2.loadGro (k := 0) rfl g1, ix a _ (by omega)]
   refine H2.storeGro (k := 0) rfl (by simp; omega) rfl fun h3 H3 => ?_
   rw [sAdd (by omega), sAdd (by omega)]
   exact hR2 _ _ _ _ _ _ _ (by omega) ⟨a + 1, k + 1, t.set a (t[i + k]'(by omega)), rfl, rfl, rfl, by omega, by omega, by omega, by omega, by simpa using ht, rfl, H3.cast (by rw [List.map_set]; rfl)⟩
 ·simp only [show ¬ (k : Int) < ((n - i : Nat) : Int) by omega, decide_false, zD]
  rw [F135.k15, H2.groLo (k := 0) rfl (by omega)]
  refine H2.clrGro (k := 0) rfl (by omega) fun h3 l3 H3 => ?_
  rw [H3.groHi (k := 0) (n := n) (i := a) rfl (by omega)]
  exact hK _ a _ _ _ (fun op => rfl) (by omega) ⟨fun e => by omega, fun e => absurd e hnot⟩ H3
end Go.Ev
namespace Go.Ev
open Go Go.Proofs
variable {B : Nat}
def jM (V : Int) (seen : List (Int × Int)) (e : Int × Int) : Int := if ¬ (0 ≤ e.1 ∧ e.1 < V ∧ 0 ≤ e.2 ∧ e.2 < V) then 10 else if e.2 ≤ e.1 then 11 else if e ∈ seen then 9 else 0
def gJ (V : Int) : List (Int × Int) → List (Int × Int) → Int
 | _, [] => 0
 | seen, e :: es => if jM V seen e ≠ 0 then jM V seen e else gJ V (seen ++ [e]) es
def zR (V : Int) (E : List (Int × Int)) : Int := if V < 1 ∨ 16 < V then 3 else if 32 < E.length then 5 else gJ V [] E
theorem edges_step {V : Int} {E : List (Int × Int)} {i : Nat} (h : i < E.length) : gJ V (E.take i) (E.drop i) = if jM V (E.take i) E[i] ≠ 0 then jM V (E.take i) E[i] else gJ V (E.take (i + 1)) (E.drop (i + 1)) := by
 rw [List.drop_eq_getElem_cons h, gJ, List.take_add_one, List.getElem?_eq_getElem h]; rfl
theorem edges_ok {V : Int} : ∀ {es seen : List (Int × Int)}, gJ V seen es = 0 → ∀ e ∈ es, (0 ≤ e.1 ∧ e.1 < V ∧ 0 ≤ e.2 ∧ e.2 < V) ∧ e.1 < e.2
 | [], _, _, e, h => by simp at h
 | a :: es, seen, h, e, he => by
  rw [gJ] at h
  by_cases c : jM V seen a = 0
  ·rw [if_neg (by simp [c])] at h
   rcases List.mem_cons.1 he with rfl | he
   ·rw [jM] at c
    by_cases c1 : 0 ≤ e.1 ∧ e.1 < V ∧ 0 ≤ e.2 ∧ e.2 < V
    ·rw [if_neg (by simp [c1])] at c
     by_cases c2 : e.2 ≤ e.1
     ·rw [if_pos c2] at c; cases c
     ·exact ⟨c1, by omega⟩
    ·rw [if_pos c1] at c; cases c
   ·exact edges_ok h e he
  ·rw [if_pos c] at h; exact absurd h c
theorem graph_ok {V : Int} {E : List (Int × Int)} (h : zR V E = 0) : (1 ≤ V ∧ V ≤ 16) ∧ E.length ≤ 32 ∧ ∀ e ∈ E, (0 ≤ e.1 ∧ e.1 < V ∧ 0 ≤ e.2 ∧ e.2 < V) ∧ e.1 < e.2 := by
 rw [zR] at h
 by_cases c : V < 1 ∨ 16 < V
 ·rw [if_pos c] at h; cases h
 rw [if_neg c] at h
 by_cases c2 : 32 < E.length
 ·rw [if_pos c2] at h; cases h
 rw [if_neg c2] at h
 exact ⟨by omega, by omega, edges_ok h⟩
theorem refGraph42 {V : Int} {E : List (Int × Int)} (hE : E.length ≤ 1000000) : Pure Tryz.prog B 42 [.agg [I V, encP E]] (· = I (zR V E)) := by
 refine gY fun h nx K H0 hK => zZ yD dreg 10000000 fun hf => ?_
 rw [F42.go]
 refine H0.box (l := [I V, encP E]) rfl fun bx h1 nx1 H1 => ?_
 have ret : ∀ (v : Int) h' nx' L, v = zR V E → Hp h h' nx' L → K (I v) h' nx' = .ok True := fun v h' nx' L hv H' => by rw [hv]; exact hK _ _ _ _ _ H' (zS rfl) rfl
 rw [sFx, H1.load (k := 0) (i := 0) rfl rfl]
 simp only [sLss]
 by_cases c1 : V < 1
 ·simp only [c1, decide_true, yV, zI, zE]
  exact ret 3 _ _ _ (by rw [zR, if_pos (.inl c1)]) H1
 simp only [c1, decide_false, yP, sFx]
 rw [H1.load (k := 0) (i := 0) rfl rfl]
 simp only [sGtr, zJ]
 by_cases c2 : 16 < V
 ·simp only [c2, decide_true, zE]
  exact ret 3 _ _ _ (by rw [zR, if_pos (.inr c2)]) H1
 simp only [c2, decide_false, zD, sFx]
 rw [H1.load (k := 0) (i := 0 + 1) rfl rfl]
 simp only [zH, sGtr]
 by_cases c3 : 32 < E.length
 ·simp only [show (32 : Int) < (E.length : Int) by omega, decide_true, zE]
  exact ret 5 _ _ _ (by rw [zR, if_neg (by omega), if_pos c3]) H1
 simp only [show ¬ (32 : Int) < (E.length : Int) by omega, decide_false, zD]
 have hg : zR V E = gJ V (E.take 0) (E.drop 0) := by rw [zR, if_neg (by omega), if_neg c3]; rfl
 refine F42.L3 (fun m x3 h' nx' => ∃ (i : Nat) (X : List Ob), x3 = I i ∧ E.length - i = m ∧ i ≤ E.length ∧ zR V E = gJ V (E.take i) (E.drop i) ∧ Hp h h' nx' (.arr bx [I V, encP E] :: X)) (m := E.length) (by omega) ⟨0, _, rfl, rfl, by omega, hg, H1⟩ ?_
 rintro m z2 z3 z4 z5 z8 z9 z10 z11 z12 h2 nx2 R ⟨i, X, rfl, rfl, hi, hg, H2⟩ hR
 rw [sFx, H2.load (k := 0) (i := 0 + 1) rfl rfl]
 simp only [zH, sLss]
 by_cases hlt : i < E.length
 case neg =>
  simp only [show ¬ (i : Int) < (E.length : Int) by omega, decide_false, zD]
  rw [F42.k19]
  exact ret 0 _ _ _ (by rw [hg, List.drop_of_length_le (by omega)]; rfl) H2
 simp only [show (i : Int) < (E.length : Int) by omega, decide_true, zE]
 rw [edges_step hlt] at hg
 rw [sFx, H2.load (k := 0) (i := 0 + 1) rfl rfl, sIxL rfl hlt, uC hlt, sLoadNP]
 refine H2.alloc fun b3 h3 nx3 H3 => ?_
 refine H3.storeN (k := 0) (n := 2) rfl rfl rfl fun h4 H4 => ?_
 have bad : ∀ (v : Int), v ≠ 0 → jM V (E.take i) E[i] = v → K (I v) h4 nx3 = .ok True := fun v h0 he => ret v _ _ _ (by rw [hg, he, if_pos h0]) H4
 have out : ¬ (0 ≤ E[i].1 ∧ E[i].1 < V ∧ 0 ≤ E[i].2 ∧ E[i].2 < V) → K (I 10) h4 nx3 = .ok True := fun c => bad 10 (by omega) (by rw [jM, if_pos c])
 rw [sAx0, H4.load (k := 0) (i := 0) rfl rfl]
 simp only [sLss]
 by_cases d1 : E[i].1 < 0
 ·simp only [d1, decide_true, yV, zI, zE]
  exact out (by omega)
 simp only [d1, decide_false, yP]
 rw [sAx0, H4.load (k := 0) (i := 0) rfl rfl, sFx, H4.load (k := 1) (i := 0) rfl rfl]
 simp only [sGeq, zJ]
 by_cases d2 : V ≤ E[i].1
 ·simp only [d2, decide_true, yV, zI, zE]
  exact out (by omega)
 simp only [d2, decide_false, yP]
 rw [sAx1, H4.load (k := 0) (i := 0 + 1) rfl rfl]
 simp only [sLss, zJ]
 by_cases d3 : E[i].2 < 0
 ·simp only [d3, decide_true, yV, zI, zE]
  exact out (by omega)
 simp only [d3, decide_false, yP]
 rw [sAx1, H4.load (k := 0) (i := 0 + 1) rfl rfl, sFx, H4.load (k := 1) (i := 0) rfl rfl]
 simp only [sGeq, zJ]
 by_cases d4 : V ≤ E[i].2
 ·simp only [d4, decide_true, zE]
  exact out (by omega)
 simp only [d4, decide_false, zD]
 rw [F42.k9, sAx0, H4.load (k := 0) (i := 0) rfl rfl, sAx1, H4.load (k := 0) (i := 0 + 1) rfl rfl]
 simp only [sGeq]
 by_cases d5 : E[i].2 ≤ E[i].1
 ·simp only [d5, decide_true, zE]
  exact bad 11 (by omega) (by rw [jM, if_neg (by omega), if_pos d5])
 simp only [d5, decide_false, zD]
 refine F42.L11 (fun m x5 h' nx' => ∃ k : Nat, x5 = I k ∧ i - k = m ∧ k ≤ i ∧ h' = h4 ∧ nx' = nx3 ∧ ∀ j p, j < k → E[j]? = some p → p ≠ E[i]) (m := i) (by omega) ⟨0, rfl, rfl, by omega, rfl, rfl, fun j p hj => by omega⟩ ?_
 rintro m y2 y5 y11 y12 h4 nx3 R2 ⟨k, rfl, rfl, hk, rfl, rfl, hne⟩ hR2
 simp only [sLss]
 by_cases hkt : k < i
 ·simp only [show (k : Int) < (i : Int) by omega, decide_true, zE]
  have hkE : k < E.length := by omega
  rw [sFx, H4.load (k := 1) (i := 0 + 1) rfl rfl, sIxL rfl hkE, uC hkE, sLoadNP, H4.loadN (k := 0) (n := 2) rfl rfl, sEqlP]
  by_cases e : E[k] = E[i]
  ·rw [e]
   simp only [decide_true, Bool.and_self, zE]
   refine bad 9 (by omega) ?_
   rw [jM, if_neg (by omega), if_neg d5, if_pos]
   exact List.mem_of_getElem? (i := k) (by rw [List.getElem?_take_of_lt hkt, List.getElem?_eq_getElem hkE, e])
  ·have hb : (decide (E[k].1 = E[i].1) && decide (E[k].2 = E[i].2)) = false := by
    rw [Bool.eq_false_iff]
    intro q
    simp only [Bool.and_eq_true, decide_eq_true_eq] at q
    exact e (Prod.ext q.1 q.2)
   rw [hb, zD, sAdd (by omega)]
   refine hR2 _ _ _ _ _ _ _ (by omega) ⟨k + 1, rfl, rfl, by omega, rfl, rfl, fun j p hj hp => ?_⟩
   by_cases ej : j = k
   ·subst ej
    rw [List.getElem?_eq_getElem hkE] at hp
    exact (Option.some.inj hp) ▸ e
   ·exact hne j p (by omega) hp
 ·simp only [show ¬ (k : Int) < (i : Int) by omega, decide_false, zD]
  obtain rfl : k = i := by omega
  rw [F42.k18, sAdd (by omega)]
  have hz : jM V (E.take k) E[k] = 0 := by
   rw [jM, if_neg (by omega), if_neg d5, if_neg]
   intro q
   obtain ⟨j, hj⟩ := List.mem_iff_getElem?.1 q
   rw [List.getElem?_take] at hj
   split at hj
   ·exact hne j _ (by assumption) hj rfl
   ·cases hj
  rw [hz, if_neg (by simp)] at hg
  exact hR _ _ _ _ _ _ _ _ _ _ _ _ (by omega) ⟨k + 1, X, rfl, rfl, by omega, hg, H4.drop⟩
theorem index180 {q : List (Int × Int)} {e : Int × Int} (hq : q.length ≤ 1000000) : Pure Tryz.prog B 180 [encP q, .agg [I e.1, I e.2]] (fun v => ∃ r : Int, v = I r ∧ (0 ≤ r ↔ e ∈ q)) := by
 refine gY fun h nx K H0 hK => zZ yD dreg 10000000 fun hf => ?_
 rw [F180.go]
 refine H0.box (l := [I e.1, I e.2]) rfl fun bx h1 nx1 H1 => ?_
 simp only [zH]
 refine F180.L1 (fun m z6 h' nx' => ∃ i : Nat, z6 = I i ∧ q.length - i = m ∧ i ≤ q.length ∧ h' = h1 ∧ nx' = nx1 ∧ e ∉ q.take i) (m := q.length) (by omega) ⟨0, rfl, rfl, by omega, rfl, rfl, by simp⟩ ?_
 rintro m z3 z4 z6 z7 z8 h1 nx1 R ⟨i, rfl, rfl, hi, rfl, rfl, hn⟩ hR
 simp only [sLss]
 by_cases hlt : i < q.length
 ·simp only [show (i : Int) < (q.length : Int) by omega, decide_true, zE]
  rw [H1.loadN (k := 0) (n := 2) rfl rfl, sIxL rfl hlt, uC hlt, sLoadNP, sEqlP]
  by_cases c : e = q[i]
  ·rw [c]
   simp only [decide_true, Bool.and_self, zE]
   refine hK _ _ _ _ _ H1 (zS rfl) ⟨_, rfl, ?_⟩
   exact ⟨fun _ => by rw [c]; exact List.getElem_mem hlt, fun _ => by omega⟩
  ·have hb : (decide (e.1 = q[i].1) && decide (e.2 = q[i].2)) = false := by
    rw [Bool.eq_false_iff]
    intro q
    simp only [Bool.and_eq_true, decide_eq_true_eq] at q
    exact c (Prod.ext q.1 q.2)
   rw [hb, zD, sAdd (by omega)]
   refine hR _ _ _ _ _ _ _ _ (by omega) ⟨i + 1, rfl, rfl, by omega, rfl, rfl, ?_⟩
   rw [List.take_add_one, List.getElem?_eq_getElem hlt, Option.toList_some]
   intro h
   rcases List.mem_append.1 h with q1 | q1
   ·exact hn q1
   ·simp at q1; exact c q1
 ·simp only [show ¬ (i : Int) < (q.length : Int) by omega, decide_false, zD]
  rw [F180.k8]
  rw [List.take_of_length_le (by omega)] at hn
  refine hK _ _ _ _ _ H1 (zS rfl) ⟨_, rfl, ?_⟩
  exact ⟨fun h => by omega, fun h => absurd h hn⟩
theorem contains166 {q : List (Int × Int)} {e : Int × Int} (hq : q.length ≤ 1000000) : Pure Tryz.prog B 166 [encP q, .agg [I e.1, I e.2]] (· = .bool (decide (e ∈ q))) := by
 refine gY fun h nx K H0 hK => zZ yD dreg 1000 fun hf => ?_
 rw [F166.go]
 refine H0.box (l := [I e.1, I e.2]) rfl fun bx h1 nx1 H1 => ?_
 rw [H1.loadN (k := 0) (n := 2) rfl rfl]
 refine index180 hq _ _ _ _ ?_
 rintro _ ⟨r, rfl, hr⟩ _
 simp only [sGeq]
 refine hK _ _ _ _ _ H1 (zS rfl) ?_
 exact congrArg AV.bool (decide_eq_decide.2 hr)
theorem checkGraph133 {V : Int} {E : List (Int × Int)} (hE : E.length ≤ 1000000) : Pure Tryz.prog B 133 [.agg [I V, encP E]] (· = I (zR V E)) := by
 refine gY fun h nx K H0 hK => zZ yD dreg 10000000 fun hf => ?_
 rw [F133.go]
 refine H0.box (l := [I V, encP E]) rfl fun bx h1 nx1 H1 => ?_
 rw [sFx, H1.load (k := 0) (i := 0) rfl rfl, sFx, H1.load (k := 0) (i := 0 + 1) rfl rfl]
 simp only [zH, sGtr]
 refine H1.bslice (l := [I V]) rfl fun id h2 nx2 H2 => ?_
 simp only [zC, zH]
 rw [H2.load (k := 1) (i := 0 + 1) rfl rfl]
 simp only [zC, sFx]
 refine CS_plain (args' := [I 1, I 16, encI [V]]) (.cons (.int _ _) (.cons (.int _ _) (.cons (HasArr.frz (H2.own (.arr id [I V]) (by simp)) (T.get_e _ id) (Nat.le_refl _) rfl (fun v hv => by simp at hv; subst hv; rfl)) .nil))) rfl (fun B => from122 (l := [V]) (by simp)) (fun v hv => by rw [hv]; exact .int _ _) ?_
 rintro _ rfl _
 rw [H2.load (k := 1) (i := 0 + 1) rfl rfl]
 simp only [zC, zH]
 refine when123 _ _ _ _ _ _ ?_
 rintro _ rfl _
 refine H2.bslice (l := [I (if [V].any (fun x => decide (x < 1) || decide (16 < x)) then 3 else 0), I (if decide (32 < (E.length : Int)) then 5 else 0)]) rfl fun id3 h3 nx3 H3 => ?_
 refine own_plain (l := [if [V].any (fun x => decide (x < 1) || decide (16 < x)) then 3 else 0, if decide (32 < (E.length : Int)) then 5 else 0]) H3 (k := 0) rfl (fun B => first121 (by simp)) (fun v hv => by rw [hv]; exact .int _ _) ?_
 rintro _ rfl
 have ret : ∀ (v : Int) h' nx' L, v = zR V E → Hp h h' nx' L → K (I v) h' nx' = .ok True := fun v h' nx' L hv H' => by rw [hv]; exact hK _ _ _ _ _ H' (zS rfl) rfl
 have ef : gI [if [V].any (fun x => decide (x < 1) || decide (16 < x)) then 3 else 0, if decide (32 < (E.length : Int)) then 5 else 0] = if V < 1 ∨ 16 < V then 3 else if 32 < E.length then 5 else 0 := by
  by_cases c : V < 1 ∨ 16 < V
  ·simp [gI, c]
  ·by_cases c2 : 32 < E.length
   ·have : (32 : Int) < (E.length : Int) := by omega
    simp [gI, c, c2, this]
   ·have : ¬ (32 : Int) < (E.length : Int) := by omega
    simp [gI, c, c2, this]
 rw [ef]
 simp only [sNeq]
 by_cases c1 : V < 1 ∨ 16 < V
 ·simp only [c1, if_true, show ¬ (3 : Int) = 0 by omega, decide_false, Bool.not_false, zE]
  exact ret 3 _ _ _ (by rw [zR, if_pos c1]) H3
 simp only [c1, if_false]
 by_cases c3 : 32 < E.length
 ·simp only [c3, if_true, show ¬ (5 : Int) = 0 by omega, decide_false, Bool.not_false, zE]
  exact ret 5 _ _ _ (by rw [zR, if_neg c1, if_pos c3]) H3
 simp only [c3, if_false, decide_true, Bool.not_true, zD, sFx]
 rw [H3.load (k := 2) (i := 0 + 1) rfl rfl]
 simp only [zH]
 have hg : zR V E = gJ V (E.take 0) (E.drop 0) := by rw [zR, if_neg c1, if_neg c3]; rfl
 have H3' : Hp h h3 nx3 (.arr bx [I V, encP E] :: []) := H3.drop.drop
 clear H3
 refine F133.L2 (fun m x11 h' nx' => ∃ (i : Nat), x11 = I i ∧ E.length - i = m ∧ i ≤ E.length ∧ zR V E = gJ V (E.take i) (E.drop i) ∧ Hp h h' nx' (.arr bx [I V, encP E] :: [])) (m := E.length) (by omega) ⟨0, rfl, rfl, by omega, hg, H3'⟩ ?_
 rintro m z2 z4 z5 z6 z7 z11 z12 z13 h4 nx4 R ⟨i, rfl, rfl, hi, hg, H4⟩ hR
 simp only [sLss]
 by_cases hlt : i < E.length
 case neg =>
  simp only [show ¬ (i : Int) < (E.length : Int) by omega, decide_false, zD]
  rw [F133.k10]
  exact ret 0 _ _ _ (by rw [hg, List.drop_of_length_le (by omega)]; rfl) H4
 simp only [show (i : Int) < (E.length : Int) by omega, decide_true, zE]
 rw [edges_step hlt] at hg
 rw [sIxL rfl hlt, uC hlt, sLoadNP]
 refine H4.alloc fun b5 h5 nx5 H5 => ?_
 refine H5.storeN (k := 0) (n := 2) rfl rfl rfl fun h6 H6 => ?_
 have H6 : Hp h h6 nx5 (.arr b5 [I E[i].1, I E[i].2] :: .arr bx [I V, encP E] :: []) := H6
 have tail : ∀ (kn : Bool) (z13 : AV), kn = decide (0 ≤ E[i].1 ∧ E[i].1 < V ∧ 0 ≤ E[i].2 ∧ E[i].2 < V) → IR.run F133.b8 (CS Tryz.prog B) 10000000 (((fnO F133.res K).blk 0 (IR.run F133.b10 (CS Tryz.prog B) 10000000 (fnO F133.res K) (retK F133.res K))).blk 1 (IR.run F133.b9 (CS Tryz.prog B) 10000000 ((fnO F133.res K).blk 0 (IR.run F133.b10 (CS Tryz.prog B) 10000000 (fnO F133.res K) (retK F133.res K))) R)) (IR.run F133.b9 (CS Tryz.prog B) 10000000 ((fnO F133.res K).blk 0 (IR.run F133.b10 (CS Tryz.prog B) 10000000 (fnO F133.res K) (retK F133.res K))) R) (F133.fr (.agg [I V, encP E]) (.ptr bx 0) z2 (I 0) (I i) (.ptr b5 0) (.bool kn) z7 (.bool false) (encP E) (I E.length) (I i) (.bool true) z13) h6 nx5 = .ok True := by
  intro kn z13 hkn
  rw [F133.k8]
  simp only [yE]
  rw [sAx0, H6.load (k := 0) (i := 0) rfl rfl, sAx1, H6.load (k := 0) (i := 0 + 1) rfl rfl]
  simp only [sGeq, sFx]
  rw [H6.load (k := 1) (i := 0 + 1) rfl rfl, sSliceP (by omega) (by omega), encP_take hi, H6.loadN (k := 0) (n := 2) rfl rfl]
  refine when123 _ _ _ _ _ _ ?_
  rintro _ rfl _
  rw [H6.loadN (k := 0) (n := 2) rfl rfl, zC, sSliceP (by omega) (by omega), encP_take hi]
  simp only [zC]
  rw [H6.load (k := 1) (i := 0 + 1) rfl rfl]
  simp only [zC, sFx, sGeq]
  rw [H6.load (k := 0) (i := 0 + 1) rfl rfl, zC, sAx1, zC, H6.load (k := 0) (i := 0) rfl rfl, zC, sAx0, zC]
  refine when123 _ _ _ _ _ _ ?_
  rintro _ rfl _
  rw [H6.loadN (k := 0) (n := 2) rfl rfl, zC, sSliceP (by omega) (by omega), encP_take hi]
  simp only [zC]
  rw [H6.load (k := 1) (i := 0 + 1) rfl rfl]
  simp only [zC, sFx]
  refine contains166 (e := E[i]) (by rw [List.length_take]; omega) _ _ _ _ ?_
  rintro _ rfl _
  refine when123 _ _ _ _ _ _ ?_
  rintro _ rfl _
  refine H6.bslice (l := [I (if (!kn) then 10 else 0), I (if decide (E[i].2 ≤ E[i].1) then 11 else 0), I (if decide (E[i] ∈ E.take i) then 9 else 0)]) rfl fun id7 h7 nx7 H7 => ?_
  refine own_plain (l := [if (!kn) then 10 else 0, if decide (E[i].2 ≤ E[i].1) then 11 else 0, if decide (E[i] ∈ E.take i) then 9 else 0]) H7 (k := 0) rfl (fun B => first121 (by simp)) (fun v hv => by rw [hv]; exact .int _ _) ?_
  rintro _ rfl
  have ee : gI [if (!kn) then 10 else 0, if decide (E[i].2 ≤ E[i].1) then 11 else 0, if decide (E[i] ∈ E.take i) then 9 else 0] = jM V (E.take i) E[i] := by
   by_cases d1 : 0 ≤ E[i].1 ∧ E[i].1 < V ∧ 0 ≤ E[i].2 ∧ E[i].2 < V
   ·have e0 : jM V (E.take i) E[i] = if E[i].2 ≤ E[i].1 then 11 else if E[i] ∈ E.take i then 9 else 0 := by rw [jM, if_neg (fun q => q d1)]
    rw [hkn, decide_eq_true d1, e0]
    by_cases d2 : E[i].2 ≤ E[i].1
    ·rw [if_pos d2, decide_eq_true d2]; rfl
    ·rw [if_neg d2, decide_eq_false d2]
     by_cases d3 : E[i] ∈ E.take i
     ·rw [if_pos d3, decide_eq_true d3]; rfl
     ·rw [if_neg d3, decide_eq_false d3]; rfl
   ·have e0 : jM V (E.take i) E[i] = 10 := by rw [jM, if_pos d1]
    rw [hkn, decide_eq_false d1, e0]; rfl
  rw [ee]
  simp only [sNeq]
  by_cases c : jM V (E.take i) E[i] = 0
  ·simp only [c, decide_true, Bool.not_true, zD]
   rw [F133.k9, sAdd (by omega)]
   rw [c, if_neg (by simp)] at hg
   exact hR _ _ _ _ _ _ _ _ _ _ _ (by omega) ⟨i + 1, rfl, rfl, by omega, hg, H7.drop.drop⟩
  ·simp only [c, decide_false, Bool.not_false, zE]
   rw [if_pos c] at hg
   exact ret _ _ _ _ hg.symm H7
 rw [sAx0, H6.load (k := 0) (i := 0) rfl rfl]
 simp only [sGeq]
 by_cases d1 : 0 ≤ E[i].1
 case neg =>
  simp only [d1, decide_false, yW, zJ]
  exact tail false _ (decide_eq_false (by omega)).symm
 simp only [d1, decide_true, yJ]
 rw [sAx0, H6.load (k := 0) (i := 0) rfl rfl, sFx, H6.load (k := 1) (i := 0) rfl rfl]
 simp only [sLss, zI]
 by_cases d2 : E[i].1 < V
 case neg =>
  simp only [d2, decide_false, yW, zJ]
  exact tail false _ (decide_eq_false (by omega)).symm
 simp only [d2, decide_true, yJ]
 rw [sAx1, H6.load (k := 0) (i := 0 + 1) rfl rfl]
 simp only [sGeq, zI]
 by_cases d3 : 0 ≤ E[i].2
 case neg =>
  simp only [d3, decide_false, yW, zJ]
  exact tail false _ (decide_eq_false (by omega)).symm
 simp only [d3, decide_true, yJ]
 rw [sAx1, H6.load (k := 0) (i := 0 + 1) rfl rfl, sFx, H6.load (k := 1) (i := 0) rfl rfl]
 simp only [sLss, zI]
 exact tail _ _ (decide_eq_decide.2 (by omega))
end Go.Ev
namespace Go.Ev
open Go Go.Proofs
variable {B : Nat}
theorem differs102 {l : List Int} (hl : l.length ≤ 1000000) : Pure Tryz.prog B 102 [encI l] (· = .bool (decide l.Nodup)) := by
 intro p h nx K hK
 refine zZ yD dreg 10000000 fun hf => ?_
 rw [F102.go]
 refine F102.L1 (fun m x2 h' nx' => ∃ i : Nat, x2 = I i ∧ l.length - i = m ∧ i ≤ l.length ∧ h' = h ∧ nx' = nx ∧ (l.take i).Nodup) (m := l.length) (by omega) ⟨0, rfl, rfl, by omega, rfl, rfl, by simp⟩ ?_
 rintro m z1 z2 z3 z4 z5 z6 h nx R ⟨i, rfl, rfl, hi, rfl, rfl, hn⟩ hR
 simp only [zH, sLss]
 by_cases hlt : i < l.length
 case neg =>
  simp only [show ¬ (i : Int) < (l.length : Int) by omega, decide_false, zD]
  rw [F102.k15]
  rw [List.take_of_length_le (by omega)] at hn
  exact hK _ (by rw [decide_eq_true hn]) hf
 simp only [show (i : Int) < (l.length : Int) by omega, decide_true, zE]
 have hx : l[i]? = some l[i] := List.getElem?_eq_getElem hlt
 refine F102.L7 (fun m x3 h' nx' => ∃ k : Nat, x3 = I k ∧ i - k = m ∧ k ≤ i ∧ h' = h ∧ nx' = nx ∧ ∀ j y, j < k → l[j]? = some y → y ≠ l[i]) (m := i) (by omega) ⟨0, rfl, rfl, by omega, rfl, rfl, fun j y hj => by omega⟩ ?_
 rintro m y1 y3 y5 y6 h nx R2 ⟨k, rfl, rfl, hk, rfl, rfl, hne⟩ hR2
 simp only [sLss]
 by_cases hkt : k < i
 ·simp only [show (k : Int) < (i : Int) by omega, decide_true, zE]
  have hkl : k < l.length := by omega
  have hy : l[k]? = some l[k] := List.getElem?_eq_getElem hkl
  rw [sIxL rfl hlt, ldL (getI hx), sIxL rfl hkl, ldL (getI hy)]
  simp only [sEql]
  by_cases c : l[i] = l[k]
  ·simp only [c, decide_true, zE]
   refine hK _ ?_ hf
   rw [decide_eq_false]
   intro hnd
   exact List.pairwise_iff_getElem.1 hnd k i hkl hlt hkt c.symm
  ·simp only [c, decide_false, zD]
   rw [sAdd (by omega)]
   refine hR2 _ _ _ _ _ _ _ (by omega) ⟨k + 1, rfl, rfl, by omega, rfl, rfl, fun j y hj hjy => ?_⟩
   by_cases e : j = k
   ·subst e
    rw [hy] at hjy
    exact (Option.some.inj hjy) ▸ fun q => c q.symm
   ·exact hne j y (by omega) hjy
 ·simp only [show ¬ (k : Int) < (i : Int) by omega, decide_false, zD]
  obtain rfl : k = i := by omega
  rw [F102.k14, sAdd (by omega)]
  refine hR _ _ _ _ _ _ _ _ _ (by omega) ⟨k + 1, rfl, rfl, by omega, rfl, rfl, ?_⟩
  rw [List.take_add_one, hx, Option.toList_some, nodup_snoc hn]
  intro q
  obtain ⟨j, hj⟩ := List.mem_iff_getElem?.1 q
  rw [List.getElem?_take] at hj
  split at hj
  ·exact hne j _ (by assumption) hj rfl
  ·cases hj
abbrev EdgesIn (V : Nat) (E : List (Int × Int)) : Prop := ∀ e ∈ E, (0 ≤ e.1 ∧ e.1 < (V : Int) ∧ 0 ≤ e.2 ∧ e.2 < (V : Int)) ∧ e.1 < e.2
theorem LI.enc {v : AV} {l : List Int} (h : LI v l) (h0 : 0 < l.length) : v = encI l := by
 rcases h with ⟨_, rfl⟩ | q
 ·simp at h0
 ·exact q
theorem LI.len {v : AV} {l : List Int} (h : LI v l) (op : AV → OP) : sLen v op = op (I l.length) := by
 rcases h with ⟨rfl, rfl⟩ | rfl <;> rfl
theorem vertexSums103 {V : Nat} {E : List (Int × Int)} {b : AV} {ls : List Int} (hb : LI b ls) (hV : V ≤ 1000) (hE : EdgesIn V E) (hle : ls.length ≤ E.length) (hl : ls.length ≤ 1000) (hs : ∀ x ∈ ls, 0 ≤ x ∧ x ≤ ((1000 : Nat) : Int)) : Pure Tryz.prog B 103 [.agg [I V, encP E], b] (· = encI (vsF V E ls)) := by
 refine gY fun h nx K H0 hK => zZ yD dreg 10000 fun hf => ?_
 rw [F103.go]
 refine H0.box (l := [I V, encP E]) rfl fun bx h1 nx1 H1 => ?_
 rw [sFx, H1.load (k := 0) (i := 0) rfl rfl]
 refine H1.mk1 V rfl rfl (by omega) (by decide) fun o h2 nx2 H2 => ?_
 have hz : List.replicate V (I 0) = (vsF V E (ls.take 0)).map I := by
  cases E <;> simp [vsF, vsG]
 rw [hz] at H2
 refine F103.L1 (fun m x5 h' nx' => ∃ i : Nat, x5 = I i ∧ ls.length - i = m ∧ i ≤ ls.length ∧ Hp h h' nx' [.arr o ((vsF V E (ls.take i)).map I), .arr bx [I V, encP E]]) (m := ls.length) (by omega) ⟨0, rfl, rfl, by omega, H2⟩ ?_
 rintro m z5 z6 h3 nx3 R ⟨i, rfl, rfl, hi, H3⟩ hR
 rw [hb.len]
 simp only [sLss]
 by_cases hlt : i < ls.length
 case neg =>
  simp only [show ¬ (i : Int) < (ls.length : Int) by omega, decide_false, zD]
  rw [F103.k8]
  rw [List.take_of_length_le (by omega)] at H3
  refine hK _ _ _ _ _ H3 (H3.frzArr (k := 0) rfl (Nat.le_refl _) (by simp [vsF_len]) (fun v hv => by obtain ⟨x, _, rfl⟩ := List.mem_map.1 hv; rfl)) ?_
  show AV.lst 1 _ _ = AV.lst 1 _ _
  rw [vsF_len]
 simp only [show (i : Int) < (ls.length : Int) by omega, decide_true, zE]
 have hbe := hb.enc (by omega)
 subst hbe
 have hx : ls[i]? = some ls[i] := List.getElem?_eq_getElem hlt
 have hiE : i < E.length := by omega
 obtain ⟨⟨e1, e2, e3, e4⟩, e5⟩ := hE _ (List.getElem_mem hiE)
 have hxr := hs _ (List.getElem_mem hlt)
 have hlen := vsF_len V E (ls.take i)
 have hsm := vsF_sm (V := V) (X := 1000) (E := E) (ls := ls.take i) fun x hx => hs x (List.mem_of_mem_take hx)
 have hsn : vsF V E (ls.take (i + 1)) = vs1 (vsF V E (ls.take i)) E[i] ls[i] := by
  rw [List.take_add_one, hx, Option.toList_some, vsF_snoc (e := E[i])]
  rw [List.length_take, Nat.min_eq_left hi]; exact List.getElem?_eq_getElem hiE
 have hsM : (ls.take i).length * (2 * 1000) ≤ 2000000 := by rw [List.length_take]; omega
 replace hsm := Sm.mono hsm hsM
 generalize vsF V E (ls.take i) = s at *
 have g1 := hsm.get (E[i].1).toNat
 have g2 := (hsm.add (v := E[i].1) hxr).get (E[i].2).toNat
 have hv1 : (s.map I)[(E[i].1).toNat]? = some (I (s.getD (E[i].1).toNat 0)) := by rw [List.getElem?_map, List.getD_eq_getElem?_getD, List.getElem?_eq_getElem (by omega)]; rfl
 rw [sFx, H3.load (k := 1) (i := 0 + 1) rfl rfl, sIxL rfl hiE, uC hiE, sAxF0, sLdF, sIx (i := (E[i].1).toNat) (by omega) (by omega), H3.load (k := 0) rfl hv1, sIxL rfl hlt, ldL (getI hx), sAdd (by omega), sIx (i := (E[i].1).toNat) (by omega) (by omega)]
 refine H3.store (k := 0) rfl (by simp; omega) rfl fun h4 H4 => ?_
 have es : (s.map I).set (E[i].1).toNat (I (s.getD (E[i].1).toNat 0 + ls[i])) = (gS s E[i].1 ls[i]).map I := by rw [gS, List.map_set]
 have H4 : Hp h h4 nx3 [.arr o ((gS s E[i].1 ls[i]).map I), .arr bx [I V, encP E]] := H4.cast (by rw [← es]; rfl)
 have hl2 := addVx_len s E[i].1 ls[i]
 have hv2 : ((gS s E[i].1 ls[i]).map I)[(E[i].2).toNat]? = some (I ((gS s E[i].1 ls[i]).getD (E[i].2).toNat 0)) := by rw [List.getElem?_map, List.getD_eq_getElem?_getD, List.getElem?_eq_getElem (by omega)]; rfl
 rw [sFx, H4.load (k := 1) (i := 0 + 1) rfl rfl, sIxL rfl hiE, uC hiE, sAxF1, sLdF, sIx (i := (E[i].2).toNat) (by omega) (by omega), H4.load (k := 0) rfl hv2, sIxL rfl hlt, ldL (getI hx), sAdd (by omega), sIx (i := (E[i].2).toNat) (by omega) (by omega)]
 refine H4.store (k := 0) rfl (by simp; omega) rfl fun h5 H5 => ?_
 rw [sAdd (by omega)]
 refine hR _ _ _ _ _ (by omega) ⟨i + 1, rfl, rfl, by omega, H5.cast ?_⟩
 rw [hsn, vs1]
 show Ob.arr o (((gS s E[i].1 ls[i]).map I).set (E[i].2).toNat (I ((gS s E[i].1 ls[i]).getD (E[i].2).toNat 0 + ls[i]))) :: _ = _
 rw [← List.map_set]; rfl
def FstV (v : AV) : List (List Int) → Prop
 | [] => v = .nils
 | f :: _ => LI v f
theorem FstV.fixd {v : AV} {F : List (List Int)} (h : FstV v F) : fixd v = true := by
 cases F with
 | nil => rw [h]; rfl
 | cons f F =>
  rcases h with ⟨rfl, _⟩ | rfl
  ·rfl
  ·exact fixd_encI f
end Go.Ev
namespace Go.Ev
open Go Go.Proofs
variable {B : Nat}
theorem ldM {h0 h : T Blk} {nx : Pa} {L : List Ob} {b : Pa} {l : List AV} {i : Nat} {v : AV} {op : AV → OP} (H : Hp h0 h nx L) (hm : Ob.arr b l ∈ L) (hv : l[i]? = some v) : zA (.ptr b i) h op = op v := HasArr.load (H.own _ hm) hv
theorem vs1_eq {s : List Int} {e : Int × Int} {x : Int} (h : e.1.toNat ≠ e.2.toNat) : vs1 s e x = (s.set e.1.toNat (s.getD e.1.toNat 0 + x)).set e.2.toNat (s.getD e.2.toNat 0 + x) := by
 unfold vs1 gS
 have e1 : (s.set e.1.toNat (s.getD e.1.toNat 0 + x)).getD e.2.toNat 0 = s.getD e.2.toNat 0 := by
  rw [List.getD_eq_getElem?_getD, List.getElem?_set_ne h, List.getD_eq_getElem?_getD]
 rw [e1]
section
variable {σ : Type} {h0 : T Blk} {V : Nat} {E : List (Int × Int)} {lb bu bl sm bs bx bm bp : Pa} {cl : AV} {LC : Bool → σ → List Ob → Prop} {stp : σ → List Int → σ × Bool}
noncomputable abbrev cloA (bu bl bs bx bm bp : Pa) : AV := .fn 134 (.of 134) [.ptr bl 0, .ptr bs 0, .ptr bx 0, .ptr bm 0, .ptr bu 0, .ptr bp 0]
noncomputable abbrev Ga (V : Nat) (E : List (Int × Int)) (lb bu bl sm bs bx bm bp : Pa) (cl : AV) (fl s : List Int) (m : Nat) : List Ob :=
 [.arr lb (fl.map I), .arr bu [Wd m], .arr bl [.sl lb 0 E.length (some E.length) 1], .arr sm (s.map I), .arr bs [.sl sm 0 V (some V) 1], .arr bx [I V, encP E], .arr bm [cl], .arr bp [cloA bu bl bs bx bm bp]]
def YA (B : Nat) (h0 : T Blk) (V : Nat) (E : List (Int × Int)) (lb bu bl sm bs bx bm bp : Pa) (cl : AV) (LC : Bool → σ → List Ob → Prop) (stp : σ → List Int → σ × Bool) : Prop :=
 ∀ (st : σ) (fl s : List Int) (m : Nat) (h : T Blk) (nx : Pa) (K : Kw Prop) (L M : List Ob), fl.length = E.length → LC true st L → Hp h0 h nx (Ga V E lb bu bl sm bs bx bm bp cl fl s m ++ (L ++ M)) →
  (∀ h' nx' L', LC (stp st fl).2 (stp st fl).1 L' → Hp h0 h' nx' (Ga V E lb bu bl sm bs bx bm bp cl fl s m ++ (L' ++ M)) → K (.bool (stp st fl).2) h' nx' = .ok True) →
  sCall (CS Tryz.prog B) cl [.sl lb 0 E.length (some E.length) 1] h nx K = .ok True
theorem label134 (hj : ∀ B, JOk Tryz.prog B hookS) (hV : V ≤ 16) (hE : EdgesIn V E) (hm8 : E.length ≤ 8) (hY : YA B h0 V E lb bu bl sm bs bx bm bp cl LC stp) :
  ∀ (r : Nat) (pre fl : List Int) (st : σ) (p : Pa) (h : T Blk) (nx : Pa) (K : Kw Prop) (L M : List Ob), pre.length + r = E.length → fl.length = E.length → fl.take pre.length = pre → pre.Nodup → (∀ x ∈ pre, 1 ≤ x ∧ x ≤ (E.length : Int)) → LC true st L → Hp h0 h nx (Ga V E lb bu bl sm bs bx bm bp cl fl (vsF V E pre) (jK pre) ++ (L ++ M)) →
   (∀ fl' h' nx' L', fl'.length = E.length → fl'.take pre.length = pre → LC (gE stp st (jN V E E.length r pre)).2 (gE stp st (jN V E E.length r pre)).1 L' → Hp h0 h' nx' (Ga V E lb bu bl sm bs bx bm bp cl fl' (vsF V E pre) (jK pre) ++ (L' ++ M)) → K (.bool (gE stp st (jN V E E.length r pre)).2) h' nx' = .ok True) →
   (CS Tryz.prog B).fn 134 p [I pre.length, .ptr bl 0, .ptr bs 0, .ptr bx 0, .ptr bm 0, .ptr bu 0, .ptr bp 0] h nx K = .ok True
 | 0, pre, fl, st, p, h, nx, K, L, M, hr, hfl, htk, hnd, hpre, hL, H, hK => by
  refine yS (p := .of 134) (K := K) (zZ yD dreg 1000 fun hf => ?_) fun _ _ _ _ q => q
  rw [F134.go, H.load (k := 2) (i := 0) rfl rfl]
  simp only [zT, sEql, show (pre.length : Int) = (E.length : Int) by omega, decide_true, zE]
  rw [H.load (k := 4) (i := 0) rfl rfl]
  have e : fl = pre := by rw [← htk, List.take_of_length_le (by omega)]
  have hvl := vsF_len V E pre
  refine values126o H fun b h1 nx1 H1 => ?_
  refine sorted125o hj hvl (by omega) H1 (List.mem_cons_self ..) (by simp) fun o h2 nx2 H2 => ?_
  rw [sFx, H2.load (k := 7) (i := 0) rfl rfl]
  refine compact135o (by rw [srt_length]; exact hvl) (by omega) ?_ H2 fun v c X h3 nx3 hv hc1 hc2 H3 => ?_
  ·have := List.pairwise_mergeSort (le := fun x y : Int => decide (x ≤ y)) (by intro a b c; simp; omega) (by intro a b; simp; omega) (vsF V E pre)
   exact this.imp (by intro a b h; simpa using h)
  rw [H3.load (k := 7) (i := 0) rfl rfl, zC, sFx, zC, hv]
  simp only [sLss]
  rw [(srt_perm _).nodup_iff] at hc2
  rw [antiL_zero] at hK
  by_cases hnod : (vsF V E pre).Nodup
  ·rw [if_pos hnod] at hK
   simp only [show ¬ (c : Int) < (V : Int) by have := hc2.2 hnod; omega, decide_false, yP]
   rw [H3.load (k := 8) (i := 0) rfl rfl, H3.load (k := 4) (i := 0) rfl rfl, sGW_ff2]
   have H4 : Hp h0 h3 nx3 (Ga V E lb bu bl sm bs bx bm bp cl fl (vsF V E pre) (jK pre) ++ (L ++ M)) := H3.drop.drop
   refine hY st fl _ _ h3 nx3 _ L M hfl hL H4 fun h' nx' L' hL' H' => ?_
   have e2 : gE stp st [pre] = stp st fl := by
    rw [gE, ← e]
    cases c : (stp st fl).2 with
    | true => rw [if_pos rfl, gE]; rw [← c]
    | false => rw [if_neg (by simp)]; rw [← c]
   rw [e2] at hK
   simp only [zJ]
   exact hK fl h' nx' L' hfl htk hL' H'
  ·rw [if_neg hnod] at hK
   have hc3 : c ≠ V := fun q => hnod (hc2.1 q)
   simp only [show (c : Int) < (V : Int) by omega, decide_true, yV, sGW_tf2, zI]
   exact hK fl _ _ _ hfl htk hL H3.drop.drop
 | r + 1, pre, fl, st, p, h, nx, K, L, M, hr, hfl, htk, hnd, hpre, hL, H, hK => by
  refine yS (p := .of 134) (K := K) (zZ yD dreg 1000000 fun hf => ?_) fun _ _ _ _ q => q
  have hcell : pre.length < E.length := by omega
  obtain ⟨⟨e1, e2, e3, e4⟩, e5⟩ := hE _ (List.getElem_mem hcell)
  have hEg : E[pre.length]? = some E[pre.length] := List.getElem?_eq_getElem hcell
  rw [F134.go, H.load (k := 2) (i := 0) rfl rfl]
  simp only [zT, sEql, show ¬ (pre.length : Int) = (E.length : Int) by omega, decide_false, zD]
  rw [sFx, H.load (k := 5) (i := 0 + 1) rfl rfl, sIxL rfl hcell, uC hcell, sLoadNP]
  refine H.alloc fun b9 h1 nx1 H1 => ?_
  refine H1.storeN (k := 0) (n := 2) rfl rfl rfl fun h2 H2 => ?_
  generalize hee : E[pre.length] = e at *
  have hne : e.1.toNat ≠ e.2.toNat := by omega
  have H2 : Hp h0 h2 nx1 (.arr b9 [I e.1, I e.2] :: (Ga V E lb bu bl sm bs bx bm bp cl fl (vsF V E pre) (jK pre) ++ (L ++ M))) := H2
  have H3 : Hp h0 h2 nx1 (Ga V E lb bu bl sm bs bx bm bp cl fl (vsF V E pre) (jK pre) ++ (L ++ (.arr b9 [I e.1, I e.2] :: M))) := H2.perm (by
   rw [← List.append_assoc, ← List.append_assoc]
   exact List.perm_middle.symm)
  clear H H1 H2
  let g : Int → List (List Int) := fun x => if x ∈ pre then [] else jN V E E.length r (pre ++ [x])
  have hg : jN V E E.length (r + 1) pre = (upTo E.length).flatMap g := antiL_succ V E E.length r pre
  have hpre0 : ∀ y ∈ pre, 0 ≤ y := fun y hy => by have := hpre y hy; omega
  have hpre60 : ∀ y ∈ pre, 0 ≤ y ∧ y ≤ 60 := fun y hy => by have := hpre y hy; omega
  refine F134.L2 (fun mm z10 h' nx' => ∃ (x : Nat) (st' : σ) (fl : List Int) (L : List Ob), z10 = I x ∧ E.length + 1 - x = mm ∧ 1 ≤ x ∧ x ≤ E.length + 1 ∧ gE stp st (jN V E E.length (r + 1) pre) = gE stp st' (((upTo E.length).drop (x - 1)).flatMap g) ∧ fl.length = E.length ∧ fl.take pre.length = pre ∧ LC true st' L ∧ Hp h0 h' nx' (Ga V E lb bu bl sm bs bx bm bp cl fl (vsF V E pre) (jK pre) ++ (L ++ (.arr b9 [I e.1, I e.2] :: M)))) (m := E.length) (by omega)
   ⟨1, st, fl, L, rfl, by omega, by omega, by omega, by rw [hg]; rfl, hfl, htk, hL, H3⟩ ?_
  clear hfl htk hL H3
  rintro mm z7 z10 z11 z13 z14 z15 h1 nx1 R ⟨x, st', fl, L, rfl, rfl, hx1, hx2, hfo, hfl, htk, hL, H⟩ hR
  rw [H.load (k := 2) (i := 0) rfl rfl]
  simp only [zT, sLeq]
  have toK : ∀ {h nx} {fl s : List Int} {m : Nat} {L : List Ob}, Hp h0 h nx (Ga V E lb bu bl sm bs bx bm bp cl fl s m ++ (L ++ (.arr b9 [I e.1, I e.2] :: M))) → Hp h0 h nx (Ga V E lb bu bl sm bs bx bm bp cl fl s m ++ (L ++ M)) := fun {h nx fl s m L} H => by
   have H' : Hp h0 h nx (.arr b9 [I e.1, I e.2] :: (Ga V E lb bu bl sm bs bx bm bp cl fl s m ++ (L ++ M))) := H.perm (by
    rw [← List.append_assoc, ← List.append_assoc]
    exact List.perm_middle)
   exact H'.drop
  by_cases hxn : x ≤ E.length
  case neg =>
   simp only [show ¬ (x : Int) ≤ (E.length : Int) by omega, decide_false, zD]
   rw [F134.k14]
   have e : (upTo E.length).drop (x - 1) = [] := List.drop_of_length_le (by simp; omega)
   rw [e] at hfo
   rw [hfo] at hK
   exact hK fl _ _ _ hfl htk hL (toK H)
  simp only [show (x : Int) ≤ (E.length : Int) by omega, decide_true, zE]
  rw [upTo_drop hx1 hxn, List.flatMap_cons] at hfo
  have next : ∀ z7 z11 z13 z14 z15 st2 fl2 h2 nx2 L2, gE stp st (jN V E E.length (r + 1) pre) = gE stp st2 (((upTo E.length).drop x).flatMap g) → fl2.length = E.length → fl2.take pre.length = pre → LC true st2 L2 → Hp h0 h2 nx2 (Ga V E lb bu bl sm bs bx bm bp cl fl2 (vsF V E pre) (jK pre) ++ (L2 ++ (.arr b9 [I e.1, I e.2] :: M))) →
    R (F134.fr (I pre.length) (.ptr bl 0) (.ptr bs 0) (.ptr bx 0) (.ptr bm 0) (.ptr bu 0) (.ptr bp 0) z7 .undef (.ptr b9 0) (I ((x : Int) + 1)) z11 (.bool false) z13 z14 z15) h2 nx2 = .ok True :=
   fun z7 z11 z13 z14 z15 st2 fl2 h2 nx2 L2 q1 q2 q3 q6 q5 =>
    hR (E.length + 1 - (x + 1)) _ _ _ _ _ _ _ _ (by omega) ⟨x + 1, st2, fl2, L2, rfl, rfl, by omega, by omega, by rw [Nat.add_sub_cancel]; exact q1, q2, q3, q6, q5⟩
  rw [H.load (k := 1) (i := 0) rfl rfl, sShr (by omega)]
  have hml := mask_lt hpre60
  have hdl : jK pre / 2 ^ x ≤ jK pre := Nat.div_le_self _ _
  show (sBin .and .int (Wd (jK pre / 2 ^ x)) (Wd 1) fun v6 => sBin .eql .int v6 (Wd 1) fun v7 => _) = _
  rw [sAndOne (by omega), sEqlW, show (((1 : Nat) : Int)) = 1 from rfl, mask_test hpre0]
  by_cases hmem : (x : Int) ∈ pre
  ·simp only [hmem, decide_true, zE]
   rw [sAdd (by omega)]
   have e : g (x : Int) = [] := by show (if (x : Int) ∈ pre then [] else _) = _; rw [if_pos hmem]
   rw [e, List.nil_append] at hfo
   exact next _ _ _ _ _ _ _ _ _ _ hfo hfl htk hL H
  simp only [hmem, decide_false, zD]
  have hs18 := vsF_sm (V := V) (X := 9) (E := E) (ls := pre) fun y hy => by have := hpre y hy; omega
  have hsM : Sm (vsF V E pre) 200 := Sm.mono hs18 (by omega)
  have hvl := vsF_len V E pre
  have hsn : vsF V E (pre ++ [(x : Int)]) = vs1 (vsF V E pre) e x := vsF_snoc hEg
  have mb : ∀ (fl s : List Int) (m : Nat) (L : List Ob), Ob.arr b9 [I e.1, I e.2] ∈ Ga V E lb bu bl sm bs bx bm bp cl fl s m ++ (L ++ (.arr b9 [I e.1, I e.2] :: M)) := fun fl s m L => List.mem_append.2 (.inr (List.mem_append.2 (.inr (List.mem_cons_self ..))))
  rw [H.load (k := 2) (i := 0) rfl rfl, sIx (i := pre.length) rfl (by omega)]
  refine H.store (k := 0) rfl (by simp; omega) rfl fun h2 H2 => ?_
  have H2 : Hp h0 h2 nx1 (Ga V E lb bu bl sm bs bx bm bp cl (fl.set pre.length x) (vsF V E pre) (jK pre) ++ (L ++ (.arr b9 [I e.1, I e.2] :: M))) := H2.cast (by show _ = Ob.arr lb ((fl.set pre.length (x : Int)).map I) :: _; rw [List.map_set]; rfl)
  have hfl2 : (fl.set pre.length (x : Int)).length = E.length := by simpa using hfl
  have htk1 : (fl.set pre.length (x : Int)).take (pre.length + 1) = pre ++ [(x : Int)] := by
   rw [List.take_add_one, List.take_set_of_le (Nat.le_refl _), htk, List.getElem?_set, if_pos rfl, if_pos (by omega)]; rfl
  clear H htk hfl
  generalize fl.set pre.length (x : Int) = fl at *
  have hp2 : 2 ^ x < 18446744073709551616 := by
   have : 2 ^ x ≤ 2 ^ 63 := Nat.pow_le_pow_right (by omega) (by omega)
   omega
  rw [H2.load (k := 1) (i := 0) rfl rfl]
  show (sBin .shl .int (Wd 1) (I (x : Int)) fun v2 => _) = _
  rw [sShlOne (by omega), sOrW hml hp2]
  refine H2.store (k := 1) rfl (by simp) rfl fun h3 H3 => ?_
  have e3' : jK pre ||| 2 ^ x = jK (pre ++ [(x : Int)]) := by rw [maskN_snoc]; rfl
  have H3 : Hp h0 h3 nx1 (Ga V E lb bu bl sm bs bx bm bp cl fl (vsF V E pre) (jK (pre ++ [(x : Int)])) ++ (L ++ (.arr b9 [I e.1, I e.2] :: M))) := H3.cast (by rw [e3']; rfl)
  have hmx : ∀ y ∈ pre ++ [(x : Int)], 0 ≤ y ∧ y ≤ 60 := fun y hy => by
   rcases List.mem_append.1 hy with q | q
   ·exact hpre60 y q
   ·simp at q; omega
  generalize vsF V E pre = s at *
  have get : ∀ (s : List Int) (v : Int), s.length = V → 0 ≤ v → v < (V : Int) → (s.map I)[v.toNat]? = some (I (s.getD v.toNat 0)) := fun s v hs h1 h2 => by
   rw [List.getElem?_map, List.getD_eq_getElem?_getD, List.getElem?_eq_getElem (by omega)]; rfl
  have ms : ∀ (s : List Int) (i : Nat) (v : Int), (s.map I).set i (I v) = (s.set i v).map I := fun s i v => List.map_set.symm
  have b1 := hsM.get e.1.toNat
  have b2 := hsM.get e.2.toNat
  rw [F134.k9, H3.load (k := 4) (i := 0) rfl rfl, sAx0, ldM H3 (mb _ _ _ _) (i := 0) rfl, H3.load (k := 4) (i := 0) rfl rfl, sAx1, ldM H3 (mb _ _ _ _) (i := 0 + 1) rfl, H3.load (k := 4) (i := 0) rfl rfl, sAx0, ldM H3 (mb _ _ _ _) (i := 0) rfl, sIx (i := e.1.toNat) (by omega) (by omega), H3.load (k := 3) rfl (get s e.1 hvl e1 e2), sAdd (by omega), H3.load (k := 4) (i := 0) rfl rfl, sAx1, ldM H3 (mb _ _ _ _) (i := 0 + 1) rfl, sIx (i := e.2.toNat) (by omega) (by omega), H3.load (k := 3) rfl (get s e.2 hvl e3 e4), sAdd (by omega), sIx (i := e.1.toNat) (by omega) (by omega)]
  refine H3.store (k := 3) rfl (by simp; omega) rfl fun h4 H4 => ?_
  have H4 : Hp h0 h4 nx1 (Ga V E lb bu bl sm bs bx bm bp cl fl (s.set e.1.toNat (s.getD e.1.toNat 0 + x)) (jK (pre ++ [(x : Int)])) ++ (L ++ (.arr b9 [I e.1, I e.2] :: M))) := H4.cast (by rw [ms]; rfl)
  rw [sAdd (by omega), zC, zC, ldM H4 (mb _ _ _ _) (i := 0 + 1) rfl, zC, sAx1, zC, H4.load (k := 4) (i := 0) rfl rfl, zC, sIx (i := e.2.toNat) (by omega) (by omega)]
  refine H4.store (k := 3) rfl (by simp; omega) rfl fun h5 H5 => ?_
  have H5 : Hp h0 h5 nx1 (Ga V E lb bu bl sm bs bx bm bp cl fl (vs1 s e x) (jK (pre ++ [(x : Int)])) ++ (L ++ (.arr b9 [I e.1, I e.2] :: M))) := H5.cast (by rw [ms, vs1_eq hne]; rfl)
  rw [F134.k10, H5.load (k := 7) (i := 0) rfl rfl, sAdd (by omega), sCall_fn]
  have e4' : (pre.length : Int) + 1 = (((pre ++ [(x : Int)]).length : Nat) : Int) := by simp
  rw [e4']
  refine label134 hj hV hE hm8 hY r (pre ++ [(x : Int)]) fl st' _ _ _ _ L (.arr b9 [I e.1, I e.2] :: M) (by simp; omega) hfl2 (by rw [List.length_append]; exact htk1) ((nodup_snoc hnd).2 hmem) (fun y hy => by
   rcases List.mem_append.1 hy with q | q
   ·exact hpre y q
   ·simp at q; omega) hL (by rw [hsn]; exact H5) fun fl' h6 nx6 L6 hfl' htk' hL6 H6 => ?_
  rw [hsn] at H6
  have hbk : vs1 (vs1 s e x) e (-(x : Int)) = s := vs1_back (by omega) (by omega) hne
  have hvl2 : (vs1 s e x).length = V := by rw [vs1_len]; exact hvl
  have hsM2 : Sm (vs1 s e x) (200 + 2 * 9) := hsM.vs1 (by omega)
  rw [vs1_eq (s := vs1 s e x) hne] at hbk
  generalize vs1 s e x = s2 at *
  have c1 := hsM2.get e.1.toNat
  have c2 := hsM2.get e.2.toNat
  rw [F134.k11, H6.load (k := 4) (i := 0) rfl rfl, sAx0, ldM H6 (mb _ _ _ _) (i := 0) rfl, H6.load (k := 4) (i := 0) rfl rfl, sAx1, ldM H6 (mb _ _ _ _) (i := 0 + 1) rfl, H6.load (k := 4) (i := 0) rfl rfl, sAx0, ldM H6 (mb _ _ _ _) (i := 0) rfl, sIx (i := e.1.toNat) (by omega) (by omega), H6.load (k := 3) rfl (get s2 e.1 hvl2 e1 e2), sSub (by omega), H6.load (k := 4) (i := 0) rfl rfl, sAx1, ldM H6 (mb _ _ _ _) (i := 0 + 1) rfl, sIx (i := e.2.toNat) (by omega) (by omega), H6.load (k := 3) rfl (get s2 e.2 hvl2 e3 e4), sSub (by omega), sIx (i := e.1.toNat) (by omega) (by omega)]
  refine H6.store (k := 3) rfl (by simp; omega) rfl fun h7 H7 => ?_
  have H7 : Hp h0 h7 nx6 (Ga V E lb bu bl sm bs bx bm bp cl fl' (s2.set e.1.toNat (s2.getD e.1.toNat 0 - x)) (jK (pre ++ [(x : Int)])) ++ (L6 ++ (.arr b9 [I e.1, I e.2] :: M))) := H7.cast (by rw [ms]; rfl)
  rw [sSub (by omega), zC, zC, ldM H7 (mb _ _ _ _) (i := 0 + 1) rfl, zC, sAx1, zC, H7.load (k := 4) (i := 0) rfl rfl, zC, sIx (i := e.2.toNat) (by omega) (by omega)]
  refine H7.store (k := 3) rfl (by simp; omega) rfl fun h8 H8 => ?_
  have H8 : Hp h0 h8 nx6 (Ga V E lb bu bl sm bs bx bm bp cl fl' s (jK (pre ++ [(x : Int)])) ++ (L6 ++ (.arr b9 [I e.1, I e.2] :: M))) := H8.cast (by
   have e9 : (s2.set e.1.toNat (s2.getD e.1.toNat 0 - x)).set e.2.toNat (s2.getD e.2.toNat 0 - x) = s := by
    rw [Int.sub_eq_add_neg, Int.sub_eq_add_neg]; exact hbk
   rw [ms, e9]; rfl)
  rw [F134.k12, H8.load (k := 1) (i := 0) rfl rfl]
  show (sBin .shl .int (Wd 1) (I (x : Int)) fun v13 => _) = _
  rw [sShlOne (by omega), sAndNotW (c := jK pre) (mask_lt hmx) hp2 hml (fun k => by
   have := mask_off hpre0 (show (0 : Int) ≤ x by omega) hmem k
   rw [Int.toNat_natCast] at this
   exact this)]
  refine H8.store (k := 1) rfl (by simp) rfl fun h9 H9 => ?_
  have H9 : Hp h0 h9 nx6 (Ga V E lb bu bl sm bs bx bm bp cl fl' s (jK pre) ++ (L6 ++ (.arr b9 [I e.1, I e.2] :: M))) := H9
  have htk3 : fl'.take pre.length = pre := by
   have := congrArg (List.take pre.length) htk'
   rw [List.take_take, List.length_append, Nat.min_eq_left (by omega), List.take_left] at this
   exact this
  have e : g (x : Int) = jN V E E.length r (pre ++ [(x : Int)]) := by show (if (x : Int) ∈ pre then [] else _) = _; rw [if_neg hmem]
  rw [e, foldE_app] at hfo
  simp only [yE]
  cases c : (gE stp st' (jN V E E.length r (pre ++ [(x : Int)]))).2 with
  | true =>
   rw [c, if_pos rfl] at hfo
   rw [c] at hL6
   simp only [Bool.not_true, zD]
   rw [F134.k13, sAdd (by omega)]
   exact next _ _ _ _ _ _ _ _ _ _ hfo hfl' htk3 hL6 H9
  | false =>
   rw [c, if_neg (by simp)] at hfo
   simp only [Bool.not_false, zE]
   rw [hfo] at hK
   rw [c] at hK hL6
   exact hK fl' _ _ _ hfl' htk3 hL6 (toK H9)
end
end Go.Ev
namespace Go.Ev
open Go Go.Proofs
variable {B : Nat}
theorem gro_plain {P : Program} {f : Nat} {p id : Pa} {h0 h : T Blk} {nx : Pa} {L : List Ob} {n : Nat} {l : List Int} {K : Kw Prop} {Q : AV → Prop} (H : Hp h0 h nx (.gro (some id) 1 n (l.map I) :: L)) (hn : l.length = n) (hq : ∀ B, Pure P B f [encI l] Q) (hpl : ∀ v, Q v → Plain v)
  (hK : ∀ v, Q v → K v h nx = .ok True) : (CS P B).fn f p [.sl id 0 n none 1] h nx K = .ok True := by
 subst hn
 exact CS_plain (.cons (HasArr.frz (H.groArr.own (.arr id (l.map I)) (List.mem_cons_self ..)) (T.get_e _ id) trivial (by simp) fun v hv => by obtain ⟨x, _, rfl⟩ := List.mem_map.1 hv; rfl) .nil) (by
  have := fixd_encI l
  simp only [nns, fixd.nn this, Bool.and_self]) hq hpl fun v hv _ => hK v hv
theorem LI.fixd {v : AV} {l : List Int} (h : LI v l) : Ev.fixd v = true := by
 rcases h with ⟨rfl, _⟩ | rfl
 ·rfl
 ·exact fixd_encI l
theorem FstV.app {v : AV} {P F : List (List Int)} (h : FstV v P) (hp : P ≠ []) : FstV v (P ++ F) := by
 cases P with
 | nil => exact absurd rfl hp
 | cons f P => exact h
theorem refA43 {V : Nat} {E : List (Int × Int)} (hV : V ≤ 16) (hE : EdgesIn V E) (hm : E.length ≤ 8) : ∀ (r : Nat) (b : AV) (pre : List Int), LI b pre → pre.length + r = E.length → pre.Nodup → (∀ x ∈ pre, 1 ≤ x ∧ x ≤ (E.length : Int)) →
  Pure Tryz.prog B 43 [.agg [I V, encP E], b] (fun v => ∃ fv, FstV fv (jN V E E.length r pre) ∧ v = .tup [I (jN V E E.length r pre).length, fv])
 | r, b, pre, hb, hr, hnd, hpre => by
  refine gY fun h nx K H0 hK => zZ yD dreg 1000 fun hf => ?_
  rw [F43.go]
  refine H0.box (l := [I V, encP E]) rfl fun bx h1 nx1 H1 => ?_
  rw [hb.len, sFx, H1.load (k := 0) (i := 0 + 1) rfl rfl]
  simp only [zH, sEql]
  match r, hr, hK with
  | 0, hr, hK =>
   simp only [show (pre.length : Int) = (E.length : Int) by omega, decide_true, zE]
   rw [H1.loadN (k := 0) (n := 2) rfl rfl]
   refine vertexSums103 hb (by omega) hE (by omega) (by omega) (fun x hx => by have := hpre x hx; omega) _ _ _ _ ?_
   rintro _ rfl _
   refine differs102 (by rw [vsF_len]; omega) _ _ _ _ ?_
   rintro _ rfl _
   rw [antiL_zero] at hK
   by_cases c : (vsF V E pre).Nodup
   ·rw [if_pos c] at hK
    simp only [c, decide_true, zE]
    exact hK _ _ _ _ _ H1 (uG (zS rfl) (zS hb.fixd)) ⟨b, hb, rfl⟩
   ·rw [if_neg c] at hK
    simp only [c, decide_false, zD]
    exact hK _ _ _ _ _ H1 (uG (zS rfl) (zS rfl)) ⟨.nils, rfl, rfl⟩
  | r + 1, hr, hK =>
  simp only [show ¬ (pre.length : Int) = (E.length : Int) by omega, decide_false, zD]
  let g : Int → List (List Int) := fun x => if x ∈ pre then [] else jN V E E.length r (pre ++ [x])
  have hg : jN V E E.length (r + 1) pre = (upTo E.length).flatMap g := antiL_succ V E E.length r pre
  have hlenA := antiL_len (V := V) (E := E) (m := E.length) (r + 1) hnd hpre hr
  have hfac := factF_le (n := r + 1) (by omega)
  refine F43.L3 (fun m x5 x6 x7 h' nx' => ∃ (x : Nat) (P : List (List Int)), x5 = I P.length ∧ FstV x6 P ∧ x7 = I x ∧ E.length + 1 - x = m ∧ 1 ≤ x ∧ x ≤ E.length + 1 ∧ jN V E E.length (r + 1) pre = P ++ ((upTo E.length).drop (x - 1)).flatMap g ∧ Hp h h' nx' [.arr bx [I V, encP E]]) (m := E.length) (by omega)
   ⟨1, [], rfl, rfl, rfl, by omega, by omega, by omega, by rw [hg]; rfl, H1⟩ ?_
  rintro m z5 z6 z7 z8 z9 z10 z13 z14 z15 h2 nx2 R ⟨x, P, rfl, hF, rfl, rfl, hx1, hx2, hfo, H2⟩ hR
  rw [sFx, H2.load (k := 0) (i := 0 + 1) rfl rfl]
  simp only [zH, sLeq]
  by_cases hxn : x ≤ E.length
  case neg =>
   simp only [show ¬ (x : Int) ≤ (E.length : Int) by omega, decide_false, zD]
   rw [F43.k12]
   have e1 : (upTo E.length).drop (x - 1) = [] := List.drop_of_length_le (by simp; omega)
   rw [e1, List.flatMap_nil, List.append_nil] at hfo
   rw [hfo] at hK
   exact hK _ _ _ _ _ H2 (uG (zS rfl) (zS hF.fixd)) ⟨z6, hF, rfl⟩
  simp only [show (x : Int) ≤ (E.length : Int) by omega, decide_true, zE]
  rw [upTo_drop hx1 hxn, List.flatMap_cons] at hfo
  refine H2.copyPush (new := pre.map I) (c := pre.length) (x := I (x : Int)) (fun h no K' => hb.rd h no K') (by simp) (scal_I pre) rfl rfl (by decide) (by omega) fun id h3 nx3 H3 => ?_
  have e3 : pre.map I ++ [I (x : Int)] = (pre ++ [(x : Int)]).map I := by simp
  rw [e3] at H3
  refine gro_plain H3 (by simp) (fun B => differs102 (by simp; omega)) (fun v hv => by rw [hv]; exact .bool _) ?_
  rintro _ rfl
  simp only [yE]
  by_cases hmem : (x : Int) ∈ pre
  ·have hn2 : ¬ (pre ++ [(x : Int)]).Nodup := fun q => (nodup_snoc hnd).1 q hmem
   simp only [hn2, decide_false, Bool.not_false, zE]
   have e1 : g (x : Int) = [] := by show (if (x : Int) ∈ pre then [] else _) = _; rw [if_pos hmem]
   rw [e1, List.nil_append] at hfo
   rw [sAdd (by omega)]
   exact hR _ _ _ _ _ _ _ _ _ _ _ _ (by omega) ⟨x + 1, P, rfl, hF, rfl, rfl, by omega, by omega, by rw [Nat.add_sub_cancel]; exact hfo, H3.drop⟩
  ·have hn2 : (pre ++ [(x : Int)]).Nodup := (nodup_snoc hnd).2 hmem
   simp only [hn2, decide_true, Bool.not_true, zD]
   have e1 : g (x : Int) = jN V E E.length r (pre ++ [(x : Int)]) := by show (if (x : Int) ∈ pre then [] else _) = _; rw [if_neg hmem]
   rw [e1] at hfo
   rw [H3.loadN (k := 1) (n := 2) rfl rfl]
   obtain ⟨h4, hkeep, H4, hFz⟩ := H3.letGro (by intro v hv; obtain ⟨t, _, rfl⟩ := List.mem_map.1 hv; rfl)
   refine CS_let hkeep (.cons (frz_aggS rfl fun v hv => zS (by
    simp only [List.mem_cons, List.not_mem_nil, or_false] at hv
    rcases hv with rfl | rfl
    ·rfl
    ·exact fixd_encP E)) (.cons hFz .nil)) ?_
   have e6 : AV.lst 1 (pre.length + 1) ((pre ++ [(x : Int)]).map I) = encI (pre ++ [(x : Int)]) := by simp [encI]
   rw [e6]
   refine refA43 hV hE hm r (encI (pre ++ [(x : Int)])) (pre ++ [(x : Int)]) (.inr rfl) (by simp; omega) hn2 (fun y hy => by
    rcases List.mem_append.1 hy with q | q
    ·exact hpre y q
    ·simp at q; omega) _ _ _ _ ?_
   rintro _ ⟨fv, hfv, rfl⟩ _
   have hlen2 : (P ++ (jN V E E.length r (pre ++ [(x : Int)]) ++ ((upTo E.length).drop x).flatMap g)).length ≤ 362880 := by rw [← hfo]; omega
   rw [← List.append_assoc] at hfo
   generalize jN V E E.length r (pre ++ [(x : Int)]) = F at *
   simp only [List.length_append] at hlen2
   simp only [yX, yT, sEql]
   have nx : ∀ (z8 z13 z14 z15 : AV) (fst : AV), FstV fst (P ++ F) → (sBin .add .int (I P.length) (I F.length) fun v32 => sBin .add .int (I x) (I 1) fun v33 => R (F43.fr (.agg [I V, encP E]) b (.ptr bx 0) (I 0) .nils v32 fst v33 z8 (I F.length) fv (.bool false) .undef z13 z14 z15) h4 nx3) = .ok True := by
    intro z8 z13 z14 z15 fst hfst
    rw [sAdd (by omega), sAdd (by omega)]
    exact hR _ _ _ _ _ _ _ _ _ _ _ _ (by omega) ⟨x + 1, P ++ F, by simp, hfst, rfl, rfl, by omega, by omega, by rw [Nat.add_sub_cancel]; exact hfo, H4⟩
   by_cases hP : P = []
   ·subst hP
    simp only [List.length_nil, show ((0 : Nat) : Int) = 0 from rfl, decide_true, yJ, sGtr, zI]
    by_cases hF0 : F = []
    ·subst hF0
     simp only [List.length_nil, show ¬ (0 : Int) < ((0 : Nat) : Int) by omega, decide_false, zD]
     exact nx _ _ _ _ _ hF
    ·have : 0 < F.length := List.length_pos_iff.2 hF0
     simp only [show (0 : Int) < (F.length : Int) by omega, decide_true, zE]
     exact nx _ _ _ _ _ hfv
   ·have : 0 < P.length := List.length_pos_iff.2 hP
    simp only [show ¬ (P.length : Int) = 0 by omega, decide_false, yW, zJ, zD]
    exact nx _ _ _ _ _ (hF.app hP)
end Go.Ev
namespace Go.Ev
open Go Go.Proofs
variable {B : Nat}
theorem perm8 {α : Type} (a b c d e f g i : α) (L : List α) : ([a, b, c, d, e, f, g, i] ++ L).Perm ([f, b, e, d, c, i, g, a] ++ L) := by
 refine List.Perm.append_right L ?_
 have h : [0, 1, 2, 3, 4, 5, 6, 7].Perm [5, 1, 4, 3, 2, 7, 6, 0] := by decide
 exact h.map fun k => [a, b, c, d, e, f, g, i].getD k a
section
variable {σ : Type} {h0 : T Blk} {V : Nat} {E : List (Int × Int)} {cl : AV} {LC : Bool → σ → List Ob → Prop} {stp : σ → List Int → σ × Bool}
theorem labellings99 {p : Pa} {h : T Blk} {nx : Pa} {K : Kw Prop} {L : List Ob} {st : σ} (hj : ∀ B, JOk Tryz.prog B hookS) (hV : V ≤ 16) (hE : EdgesIn V E) (hm8 : E.length ≤ 8) (hcl : cl.cells = some [cl]) (hY : ∀ lb bu bl sm bs bx bm bp, YA B h0 V E lb bu bl sm bs bx bm bp cl LC stp)
  (hL : LC true st L) (H : Hp h0 h nx L) (hK : ∀ h' nx' L', LC (gE stp st (jN V E E.length E.length [])).2 (gE stp st (jN V E E.length E.length [])).1 L' → Hp h0 h' nx' L' → K (.tup []) h' nx' = .ok True) :
  (CS Tryz.prog B).fn 99 p [.agg [I V, encP E], cl] h nx K = .ok True := by
 refine yS (p := .of 99) (K := K) (zZ yD dreg 1000 fun hf => ?_) fun _ _ _ _ q => q
 rw [F99.go]
 refine H.box (l := [I V, encP E]) rfl fun bx h1 nx1 H1 => ?_
 refine H1.box (l := [cl]) hcl fun bm h2 nx2 H2 => ?_
 rw [sFx, H2.load (k := 1) (i := 0 + 1) rfl rfl]
 simp only [zH]
 refine H2.mk1 E.length rfl rfl (by omega) (by decide) fun lb h3 nx3 H3 => ?_
 refine H3.alloc fun bl h4 nx4 H4 => ?_
 refine H4.store (k := 0) rfl (by simp) rfl fun h5 H5 => ?_
 rw [sFx, H5.load (k := 3) (i := 0) rfl rfl]
 refine H5.mk1 V rfl rfl (by omega) (by decide) fun sm h6 nx6 H6 => ?_
 refine H6.alloc fun bs h7 nx7 H7 => ?_
 refine H7.store (k := 0) rfl (by simp) rfl fun h8 H8 => ?_
 refine H8.alloc fun bu h9 nx9 H9 => ?_
 refine H9.alloc fun bp h10 nx10 H10 => ?_
 refine H10.store (k := 0) rfl (by simp) rfl fun h11 H11 => ?_
 rw [H11.load (k := 0) (i := 0) rfl rfl, sCall_fn]
 have hz : List.replicate E.length (I 0) = (List.replicate E.length (0 : Int)).map I := by simp
 have hz2 : List.replicate V (I 0) = (vsF V E []).map I := by cases E <;> simp [vsF, vsG]
 rw [hz, hz2] at H11
 have H12 : Hp h0 h11 nx10 (Ga V E lb bu bl sm bs bx bm bp cl (List.replicate E.length 0) (vsF V E []) (jK []) ++ (L ++ [])) := by
  rw [List.append_nil]
  exact H11.perm (perm8 _ _ _ _ _ _ _ _ L)
 refine label134 hj hV hE hm8 (hY lb bu bl sm bs bx bm bp) E.length [] (List.replicate E.length 0) st _ _ _ _ L [] (by simp) (by simp) (by simp) (by simp) (by simp) hL H12 fun fl' h13 nx13 L' _ _ hL' H13 => ?_
 rw [List.append_nil] at H13
 exact hK _ _ _ hL' H13.drop.drop.drop.drop.drop.drop.drop.drop
end
def aErr (V : Int) (E : List (Int × Int)) : Int := if zR V E ≠ 0 then zR V E else if 8 < E.length then 20 else 0
theorem edges98 {V : Int} {E : List (Int × Int)} (hE : E.length ≤ 1000000) : Pure Tryz.prog B 98 [.agg [I V, encP E]] (· = I (aErr V E)) := by
 refine gY fun h nx K H0 hK => zZ yD dreg 1000 fun hf => ?_
 rw [F98.go]
 refine H0.box (l := [I V, encP E]) rfl fun bx h1 nx1 H1 => ?_
 rw [H1.loadN (k := 0) (n := 2) rfl rfl, sFx, H1.load (k := 0) (i := 0 + 1) rfl rfl]
 simp only [zH, sGtr]
 refine checkGraph133 hE _ _ _ _ ?_
 rintro _ rfl _
 simp only [zC, zH]
 rw [H1.load (k := 0) (i := 0 + 1) rfl rfl]
 simp only [zC, sFx]
 refine whenB82 _ _ _ _ _ _ ?_
 rintro _ rfl _
 refine H1.bslice (l := [I (zR V E), I (if decide (8 < (E.length : Int)) then 20 else 0)]) rfl fun id h4 nx4 H4 => ?_
 refine own_plain (l := [zR V E, if decide (8 < (E.length : Int)) then 20 else 0]) H4 (k := 0) rfl (fun B => first80 (by simp)) (fun v hv => by rw [hv]; exact .int _ _) ?_
 rintro _ rfl
 refine hK _ _ _ _ _ H4 (zS rfl) ?_
 have ef : gI [zR V E, if decide (8 < (E.length : Int)) then 20 else 0] = aErr V E := by
  by_cases c : zR V E = 0
  ·by_cases c2 : 8 < E.length
   ·have : (8 : Int) < (E.length : Int) := by omega
    simp [gI, aErr, c, c2, this]
   ·have : ¬ (8 : Int) < (E.length : Int) := by omega
    simp [gI, aErr, c, c2, this]
  ·simp [gI, aErr, c]
 rw [ef]
def stpN (k : Nat) (_ : List Int) : Nat × Bool := (k + 1, true)
theorem foldN : ∀ (l : List (List Int)) (k : Nat), gE stpN k l = (k + l.length, true)
 | [], k => rfl
 | x :: l, k => by
  show gE stpN (k + 1) l = _
  rw [foldN l, List.length_cons]
  congr 1; omega
def LCn (c : Pa) (_ : Bool) (k : Nat) (L : List Ob) : Prop := L = [.arr c [I (wrapN k)]]
theorem ya100 {h0 : T Blk} {V : Nat} {E : List (Int × Int)} {c : Pa} (lb bu bl sm bs bx bm bp : Pa) : YA B h0 V E lb bu bl sm bs bx bm bp (.fn 100 (.of 100) [.ptr c 0]) (LCn c) stpN := by
 rintro k fl s m h nx K L M hfl rfl H hK
 rw [sCall_fn]
 refine yS (p := .of 100) (K := K) (zZ yD dreg 100 fun hf => ?_) fun _ _ _ _ q => q
 simp only [List.cons_append, List.nil_append]
 rw [F100.go, H.load (k := 8) (i := 0) rfl rfl, sAddW, wrapN_succ]
 refine H.store (k := 8) rfl (by simp) rfl fun h2 H2 => ?_
 exact hK _ _ _ rfl H2
def stpO (_ : Option (List Int)) (fl : List Int) : Option (List Int) × Bool := (some fl, false)
theorem foldO (l : List (List Int)) : (gE stpO none l).1 = l.head? := by
 cases l with
 | nil => rfl
 | cons f l => rfl
def LCo (c1 c2 : Pa) (_ : Bool) (st : Option (List Int)) (L : List Ob) : Prop := L = [.arr c2 [match st with | none => .nils | some f => encI f], .arr c1 [.bool st.isSome]]
theorem ya101 {h0 : T Blk} {V : Nat} {E : List (Int × Int)} {c1 c2 : Pa} (hm : E.length ≤ 8) (lb bu bl sm bs bx bm bp : Pa) : YA B h0 V E lb bu bl sm bs bx bm bp (.fn 101 (.of 101) [.ptr c1 0, .ptr c2 0]) (LCo c1 c2) stpO := by
 rintro st fl s m h nx K L M hfl rfl H hK
 rw [sCall_fn]
 refine yS (p := .of 101) (K := K) (zZ yD dreg 100 fun hf => ?_) fun _ _ _ _ q => q
 simp only [List.cons_append, List.nil_append]
 rw [F101.go]
 refine cloneF79 H (k := 0) rfl (fun v hv => by obtain ⟨x, _, rfl⟩ := List.mem_map.1 hv; rfl) (by omega) (by simpa using hfl) ?_
 refine H.store (k := 9) rfl (by simp) rfl fun h2 H2 => ?_
 refine H2.store (k := 8) rfl (by simp) rfl fun h3 H3 => ?_
 refine hK _ _ _ rfl (H3.cast ?_)
 show _ = Ga V E lb bu bl sm bs bx bm bp _ fl s m ++ ([.arr c2 [encI fl], .arr c1 [.bool true]] ++ M)
 rw [show encI fl = AV.lst 1 E.length (fl.map I) by rw [← hfl]]
 rfl
theorem antiCount40 {V : Int} {E : List (Int × Int)} (hj : ∀ B, JOk Tryz.prog B hookS) (hE : E.length ≤ 1000000) : Pure Tryz.prog B 40 [.agg [I V, encP E]] (· = if aErr V E ≠ 0 then .tup [I 0, I (aErr V E)] else .tup [I (wrapN (jN V.toNat E E.length E.length []).length), I 0]) := by
 refine gY fun h nx K H0 hK => zZ yD dreg 1000 fun hf => ?_
 rw [F40.go]
 refine H0.box (l := [I V, encP E]) rfl fun bx h1 nx1 H1 => ?_
 rw [H1.loadN (k := 0) (n := 2) rfl rfl]
 refine edges98 hE _ _ _ _ ?_
 rintro _ rfl _
 simp only [sNeq]
 by_cases he : aErr V E = 0
 case neg =>
  rw [if_pos he] at hK
  simp only [he, decide_false, Bool.not_false, zE]
  exact hK _ _ _ _ _ H1 (uG (zS rfl) (zS rfl)) rfl
 rw [if_neg (by simp [he])] at hK
 have hg : zR V E = 0 := by
  by_cases c : zR V E = 0
  ·exact c
  ·rw [aErr, if_pos c] at he; exact absurd he c
 have h8 : E.length ≤ 8 := by
  by_cases c : 8 < E.length
  ·rw [aErr, if_neg (by simp [hg]), if_pos c] at he; cases he
  ·omega
 obtain ⟨⟨v1, v2⟩, _, hin⟩ := graph_ok hg
 obtain ⟨n, rfl⟩ : ∃ n : Nat, V = n := ⟨V.toNat, by omega⟩
 rw [Int.toNat_natCast] at hK
 simp only [he, decide_true, Bool.not_true, zD]
 refine H1.alloc fun c h2 nx2 H2 => ?_
 refine H2.store (k := 0) rfl (by simp) rfl fun h3 H3 => ?_
 rw [H3.loadN (k := 1) (n := 2) rfl rfl]
 have hYf : ∀ lb bu bl sm bs bx' bm bp, YA B h n E lb bu bl sm bs bx' bm bp (.fn 100 (.of 100) [.ptr c 0]) (fun go k L => ∃ L0, LCn c go k L0 ∧ L = L0 ++ [.arr bx [I n, encP E]]) stpN := by
  rintro lb bu bl sm bs bx' bm bp k fl s m h' nx' K' L M hfl ⟨L0, hL0, rfl⟩ H' hK'
  rw [List.append_assoc] at H'
  refine ya100 lb bu bl sm bs bx' bm bp k fl s m h' nx' K' L0 _ hfl hL0 H' fun h'' nx'' L' hL' H'' => ?_
  exact hK' _ _ _ ⟨L', hL', rfl⟩ (H''.cast (by rw [List.append_assoc L']))
 refine labellings99 (st := 0) hj (by omega) hin h8 rfl hYf ⟨[.arr c [I (wrapN 0)]], rfl, rfl⟩ H3 fun h4 nx4 L' hL' H4 => ?_
 rw [foldN] at hL'
 obtain ⟨L0, hL0, rfl⟩ := hL'
 unfold LCn at hL0
 subst hL0
 rw [H4.load (k := 0) (i := 0) rfl rfl, Nat.zero_add]
 exact hK _ _ _ _ _ H4 (uG (zS rfl) (zS rfl)) rfl
theorem antiFirst41 {V : Int} {E : List (Int × Int)} (hj : ∀ B, JOk Tryz.prog B hookS) (hE : E.length ≤ 1000000) : Pure Tryz.prog B 41 [.agg [I V, encP E]] (· = if aErr V E ≠ 0 then .tup [.nils, I (aErr V E)] else match (jN V.toNat E E.length E.length []).head? with | none => .tup [.nils, I 7] | some f => .tup [encI f, I 0]) := by
 refine gY fun h nx K H0 hK => zZ yD dreg 1000 fun hf => ?_
 rw [F41.go]
 refine H0.box (l := [I V, encP E]) rfl fun bx h1 nx1 H1 => ?_
 rw [H1.loadN (k := 0) (n := 2) rfl rfl]
 refine edges98 hE _ _ _ _ ?_
 rintro _ rfl _
 simp only [sNeq]
 by_cases he : aErr V E = 0
 case neg =>
  rw [if_pos he] at hK
  simp only [he, decide_false, Bool.not_false, zE]
  exact hK _ _ _ _ _ H1 (uG (zS rfl) (zS rfl)) rfl
 rw [if_neg (by simp [he])] at hK
 have hg : zR V E = 0 := by
  by_cases c : zR V E = 0
  ·exact c
  ·rw [aErr, if_pos c] at he; exact absurd he c
 have h8 : E.length ≤ 8 := by
  by_cases c : 8 < E.length
  ·rw [aErr, if_neg (by simp [hg]), if_pos c] at he; cases he
  ·omega
 obtain ⟨⟨v1, v2⟩, _, hin⟩ := graph_ok hg
 obtain ⟨n, rfl⟩ : ∃ n : Nat, V = n := ⟨V.toNat, by omega⟩
 rw [Int.toNat_natCast] at hK
 simp only [he, decide_true, Bool.not_true, zD]
 refine H1.alloc fun c1 h2 nx2 H2 => ?_
 refine H2.store (k := 0) rfl (by simp) rfl fun h3 H3 => ?_
 refine H3.alloc fun c2 h4 nx4 H4 => ?_
 rw [H4.loadN (k := 2) (n := 2) rfl rfl]
 have hYf : ∀ lb bu bl sm bs bx' bm bp, YA B h n E lb bu bl sm bs bx' bm bp (.fn 101 (.of 101) [.ptr c1 0, .ptr c2 0]) (fun go k L => ∃ L0, LCo c1 c2 go k L0 ∧ L = L0 ++ [.arr bx [I n, encP E]]) stpO := by
  rintro lb bu bl sm bs bx' bm bp k fl s m h' nx' K' L M hfl ⟨L0, hL0, rfl⟩ H' hK'
  rw [List.append_assoc] at H'
  refine ya101 h8 lb bu bl sm bs bx' bm bp k fl s m h' nx' K' L0 _ hfl hL0 H' fun h'' nx'' L' hL' H'' => ?_
  exact hK' _ _ _ ⟨L', hL', rfl⟩ (H''.cast (by rw [List.append_assoc L']))
 refine labellings99 (st := none) hj (by omega) hin h8 rfl hYf ⟨[.arr c2 [.nils], .arr c1 [.bool false]], rfl, rfl⟩ H4 fun h5 nx5 L' hL' H5 => ?_
 rw [foldO] at hL'
 obtain ⟨L0, hL0, rfl⟩ := hL'
 unfold LCo at hL0
 subst hL0
 generalize (jN n E E.length E.length []).head? = o at *
 rw [H5.load (k := 0) (i := 0) rfl rfl, H5.load (k := 1) (i := 0) rfl rfl, yE]
 refine whenB82 _ _ _ _ _ _ ?_
 rintro _ rfl _
 rw [H5.load (k := 0) (i := 0) rfl rfl, zC]
 cases o with
 | none => exact hK _ _ _ _ _ H5 (uG (zS rfl) (zS rfl)) rfl
 | some f => exact hK _ _ _ _ _ H5 (uG (zS (fixd_encI f)) (zS rfl)) rfl
end Go.Ev
namespace Go.Ev
open Go Go.Proofs
variable {B : Nat}
theorem sameFst35 {f : List Int} {v : AV} {p : Pa} {h : T Blk} {nx : Pa} {K : Kw Prop} (hl : f.length ≤ 1000000) (hv : LI v f) (hK : Fr h nx → K (.bool true) h nx = .ok True) : (CS Tryz.prog B).fn 35 p [encI f, v] h nx K = .ok True := by
 have base : (CS Tryz.prog B).fn 35 p [encI f, encI f] h nx K = .ok True := by
  refine sameInts35 (by omega) _ _ _ _ ?_
  rintro _ rfl hf
  rw [decide_eq_true rfl]
  exact hK hf
 rcases hv with ⟨rfl, rfl⟩ | rfl
 ·exact CS_let (h' := h) (fun _ _ => rfl) (.cons (zS (fixd_encI [])) (.cons (.lnils 1) .nil)) base
 ·exact base
theorem law8 {V : Int} {E : List (Int × Int)} (hj : ∀ B, JOk Tryz.prog B hookS) (haw : ∀ {B}, Pure Tryz.prog B 18 [] (· = .bool true)) : Pure Tryz.prog B 8 [.agg [I V, encP E]] (· = .bool true) := by
 refine gY fun h nx K H0 hK => zZ yD dreg 1000 fun hf => ?_
 rw [F8.go]
 refine H0.box (l := [I V, encP E]) rfl fun bx h1 nx1 H1 => ?_
 have awk : ∀ (h : T Blk) (nx : Pa) (Z : Kw Prop), Z (.bool true) h nx = .ok True → (CS Tryz.prog B).fn 18 (.of 18) [] h nx Z = .ok True := fun h nx Z hZ => haw _ _ _ _ fun v hv _ => by rw [hv]; exact hZ
 have ret : K (.bool true) h1 nx1 = .ok True := hK _ _ _ _ _ H1 (zS rfl) rfl
 rw [sFx, H1.load (k := 0) (i := 0 + 1) rfl rfl]
 simp only [zH, sGtr]
 by_cases c40 : 40 < E.length
 ·simp only [show (40 : Int) < (E.length : Int) by omega, decide_true, yV, sG_undef, zI, zE]
  exact awk _ _ _ ret
 have hE : E.length ≤ 1000000 := by omega
 simp only [show ¬ (40 : Int) < (E.length : Int) by omega, decide_false, yP, sFx]
 rw [H1.load (k := 0) (i := 0 + 1) rfl rfl]
 simp only [zH, sGtr]
 have main : ∀ z10 : AV, (E.length ≤ 6 ∨ 8 < E.length) → IR.run F8.b1 (CS Tryz.prog B) 1000 (fnO F8.res K) (retK F8.res K) (F8.fr (.agg [I V, encP E]) (.ptr bx 0) (.bool false) .undef .undef .undef .undef .undef .undef .undef z10 .undef .undef .undef .undef) h1 nx1 = .ok True := by
  intro z10 h68
  rw [F8.k1, H1.loadN (k := 0) (n := 2) rfl rfl]
  refine antiCount40 hj hE _ _ _ _ ?_
  rintro _ rfl _
  by_cases he : aErr V E = 0
  case neg =>
   rw [if_pos he]
   simp only [yX, yT]
   rw [H1.loadN (k := 0) (n := 2) rfl rfl]
   refine antiFirst41 hj hE _ _ _ _ ?_
   rintro _ rfl _
   rw [if_pos he]
   simp only [yX, yT]
   rw [H1.loadN (k := 0) (n := 2) rfl rfl]
   refine refGraph42 hE _ _ _ _ ?_
   rintro _ rfl _
   have fin : ∀ z7 z11, z7 = I (aErr V E) → IR.run F8.b2 (CS Tryz.prog B) 1000 (fnO F8.res K) (retK F8.res K) (F8.fr (.agg [I V, encP E]) (.ptr bx 0) (.bool false) (I 0) (I (aErr V E)) .nils (I (aErr V E)) z7 .undef .undef z10 z11 .undef .undef .undef) h1 nx1 = .ok True := by
    rintro _ z11 rfl
    rw [F8.k2]
    simp only [sNeq, he, decide_false, Bool.not_false, zE, zK, sEql, decide_true, yJ, zI]
    rw [sGW_tt]
    exact awk _ _ _ ret
   by_cases hg : zR V E = 0
   ·have h8 : 8 < E.length := by
     by_cases c : 8 < E.length
     ·exact c
     ·rw [aErr, if_neg (by simp [hg]), if_neg c] at he; exact absurd rfl he
    have e20 : aErr V E = 20 := by rw [aErr, if_neg (by simp [hg]), if_pos h8]
    simp only [sEql, hg, decide_true, yJ, sFx]
    rw [H1.load (k := 0) (i := 0 + 1) rfl rfl]
    simp only [zH, sGtr, show (8 : Int) < (E.length : Int) by omega, decide_true, zI, zE]
    rw [e20] at fin ⊢
    exact fin _ _ rfl
   ·have eg : aErr V E = zR V E := by rw [aErr, if_pos hg]
    simp only [sEql, hg, decide_false, yW, zJ, zD]
    rw [eg] at fin ⊢
    exact fin _ _ rfl
  have hg : zR V E = 0 := by
   by_cases c : zR V E = 0
   ·exact c
   ·rw [aErr, if_pos c] at he; exact absurd he c
  have h8 : ¬ 8 < E.length := by
   intro c
   rw [aErr, if_neg (by simp [hg]), if_pos c] at he; cases he
  obtain ⟨⟨v1, v2⟩, _, hin⟩ := graph_ok hg
  obtain ⟨n, rfl⟩ : ∃ n : Nat, V = n := ⟨V.toNat, by omega⟩
  rw [if_neg (by simp [he]), Int.toNat_natCast]
  simp only [yX, yT]
  rw [H1.loadN (k := 0) (n := 2) rfl rfl]
  refine antiFirst41 hj hE _ _ _ _ ?_
  rintro _ rfl _
  rw [if_neg (by simp [he]), Int.toNat_natCast]
  have hlen := antiL_len (V := n) (E := E) (m := E.length) E.length (pre := []) (by simp) (by simp) (by simp)
  have hfac := factF_le (n := E.length) (by omega)
  have ref := @refA43 B n E (by omega) hin (by omega) E.length .nils [] (.inl ⟨rfl, rfl⟩) (by simp) (by simp) (by simp)
  have flen : ∀ f ∈ jN n E E.length E.length [], f.length ≤ 1000000 := fun f hf => by
   have := (perms_nrm (List.mem_filter.1 hf).1).1
   omega
  generalize jN n E E.length E.length [] = F at *
  rw [show wrapN F.length = (F.length : Int) from wrap64_in (by omega)]
  have good : ∀ (lv ev z8 z9 z11 z12 z13 z14 : AV), ((F = [] ∧ lv = .nils ∧ ev = I 7) ∨ ∃ f q, F = f :: q ∧ lv = encI f ∧ ev = I 0) →
    IR.run F8.b2 (CS Tryz.prog B) 1000 (fnO F8.res K) (retK F8.res K) (F8.fr (.agg [I n, encP E]) (.ptr bx 0) (.bool false) (I F.length) (I 0) lv ev (I 0) z8 z9 z10 z11 z12 z13 z14) h1 nx1 = .ok True := by
   intro lv ev z8 z9 z11 z12 z13 z14 hfe
   rw [F8.k2]
   simp only [sNeq, decide_true, Bool.not_true, zD]
   rw [F8.k3, H1.loadN (k := 0) (n := 2) rfl rfl]
   refine ref _ _ _ _ ?_
   rintro _ ⟨fv, hfv, rfl⟩ _
   simp only [yX, yT, sNeq, decide_true, Bool.not_true, yP, zJ, zD, sEql]
   rcases hfe with ⟨rfl, rfl, rfl⟩ | ⟨f, q, rfl, rfl, rfl⟩
   ·simp only [List.length_nil, show ((0 : Nat) : Int) = 0 from rfl, decide_true, zE, zK, sEql, yJ, zI]
    rw [sGW_tt]
    exact awk _ _ _ ret
   ·simp only [show ¬ (((f :: q).length : Nat) : Int) = 0 by simp; omega, decide_false, zD]
    rw [F8.k5]
    simp only [sEql, decide_true, yJ]
    rw [sGW_tt]
    refine sameFst35 (flen f (by simp)) hfv fun _ => ?_
    simp only [zI]
    rw [sGW_tt]
    exact awk _ _ _ ret
  cases F with
  | nil =>
   simp only [List.head?_nil, yX, yT]
   rw [H1.loadN (k := 0) (n := 2) rfl rfl]
   refine refGraph42 hE _ _ _ _ ?_
   rintro _ rfl _
   simp only [sEql, hg, decide_true, yJ, sFx]
   rw [H1.load (k := 0) (i := 0 + 1) rfl rfl]
   simp only [zH, sGtr, show ¬ (8 : Int) < (E.length : Int) by omega, decide_false, zI, zD]
   exact good _ _ _ _ _ _ _ _ (.inl ⟨rfl, rfl, rfl⟩)
  | cons f q =>
   simp only [List.head?_cons, yX, yT]
   rw [H1.loadN (k := 0) (n := 2) rfl rfl]
   refine refGraph42 hE _ _ _ _ ?_
   rintro _ rfl _
   simp only [sEql, hg, decide_true, yJ, sFx]
   rw [H1.load (k := 0) (i := 0 + 1) rfl rfl]
   simp only [zH, sGtr, show ¬ (8 : Int) < (E.length : Int) by omega, decide_false, zI, zD]
   exact good _ _ _ _ _ _ _ _ (.inr ⟨f, q, rfl, rfl, rfl⟩)
 by_cases c6 : 6 < E.length
 ·simp only [show (6 : Int) < (E.length : Int) by omega, decide_true, yJ, sFx]
  rw [H1.load (k := 0) (i := 0 + 1) rfl rfl]
  simp only [zH, sLeq]
  by_cases c8 : E.length ≤ 8
  ·simp only [show (E.length : Int) ≤ 8 by omega, decide_true, zI, zJ, zE]
   exact awk _ _ _ ret
  ·simp only [show ¬ (E.length : Int) ≤ 8 by omega, decide_false, zI, zJ, zD]
   exact main _ (.inr (by omega))
 ·simp only [show ¬ (6 : Int) < (E.length : Int) by omega, decide_false, yW, zJ, zD]
  exact main _ (.inl (by omega))
end Go.Ev
