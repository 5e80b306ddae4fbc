import Derived.Test.YtepfaegpjddehaaGreatDoorEvD
import Derived.Deep.Matrix
import Derived.Lib.SmallJoins
import Derived.Test.YtepfaegpjddehaaGreatDoorCode
import GoSem.Core.Next
import Derived.Test.YtepfaegpjddehaaGreatDoorLaws
import Derived.Lib.Small
import Derived.Lib.Walk
import Derived.Deep.Draws
import Derived.Lib.Agree
import Derived.Shelf.SlLaysF
import Derived.Shelf.RegionOpenPlain
import Derived.WalkKit
import Derived.Deep.LoopGhost
import Derived.Test.YtepfaegpjddehaaGreatDoorProg
set_option linter.unusedSimpArgs false
set_option linter.unusedVariables false
namespace Go.Ev
open Go Go.RowKit Go.ChangeShapes Go.WideShapes Go.Deep Go.Joins
variable {H : Type} {enc : TypeId × Value → H} {P : Program}
theorem qL {w : World} {a : Addr} {i : Nat} {v : Value} (h : w.cell? (a.add i) = some v) : a = ⟨a.block, a.off, a.spot⟩ ∧ (i = 0 → a.spot = none) ∧ uS w a.block (a.off + i) = some v := by
 unfold Addr.add at h
 by_cases hi : i = 0
 ·subst hi
  rw [if_pos rfl] at h
  unfold World.cell? at h
  split at h
  ·rename_i c ty fr hb
   split at h
   ·cases h
   ·rename_i hs
    refine ⟨rfl, fun _ => by cases e : a.spot <;> simp_all, ?_⟩
    simp [uS, hb, h]
  ·cases h
 ·rw [if_neg hi] at h
  unfold World.cell? at h
  split at h
  ·rename_i c ty fr hb
   refine ⟨rfl, fun q => absurd q hi, ?_⟩
   simp at h hb
   simp [uS, hb, h]
  ·cases h
theorem VRF_mk {E : Env} {b : Nat} : ∀ {l : List AV} {off : Nat}, (∀ i a, l[i]? = some a → ∃ v, E.fz b (off + i) = some v ∧ VR E a v) → VRF E l b off
 | [], _, _ => by simp only [VRF]
 | a :: l, off, h => by
  simp only [VRF]
  obtain ⟨v, h1, h2⟩ := h 0 a rfl
  refine ⟨v, h1, h2, VRF_mk fun i x hx => ?_⟩
  obtain ⟨v', h3, h4⟩ := h (i + 1) x (by simpa using hx)
  exact ⟨v', by rw [Nat.add_assoc, Nat.add_comm 1 i]; exact h3, h4⟩
end Go.Ev
namespace Go.Ev
open Go
def yV (q : List (Int × Int)) : List AV := q.flatMap fun p => [I p.1, I p.2]
abbrev encP (q : List (Int × Int)) : AV := .lst 2 q.length (yV q)
theorem vN (q : List (Int × Int)) : (yV q).length = q.length * 2 := by
 induction q with
 | nil => rfl
 | cons p q ih => rw [yV, List.flatMap_cons, List.length_append, ← yV, ih]; simp; omega
theorem mN (a b : List (Int × Int)) : yV (a ++ b) = yV a ++ yV b := by simp [yV]
theorem wU : ∀ (q : List (Int × Int)) (i : Nat), (yV q).drop (i * 2) = yV (q.drop i)
 | q, 0 => by simp
 | [], i + 1 => by simp [yV]
 | p :: q, i + 1 => by
  rw [List.drop_succ_cons, ← wU q i, show (i + 1) * 2 = i * 2 + 1 + 1 by omega]
  rfl
theorem dQ : ∀ (q : List (Int × Int)) (i : Nat), (yV q).take (i * 2) = yV (q.take i)
 | q, 0 => by simp [yV]
 | [], i + 1 => by simp [yV]
 | p :: q, i + 1 => by
  rw [List.take_succ_cons, show (i + 1) * 2 = i * 2 + 1 + 1 by omega]
  show I p.1 :: I p.2 :: (yV q).take (i * 2) = _
  rw [dQ q i]
  rfl
theorem flat2_mem {q : List (Int × Int)} : ∀ v ∈ yV q, ∃ x, v = I x := fun v hv => by
 obtain ⟨p, _, h⟩ := List.mem_flatMap.1 hv
 simp only [List.mem_cons, List.not_mem_nil, or_false] at h
 rcases h with rfl | rfl
 ·exact ⟨_, rfl⟩
 ·exact ⟨_, rfl⟩
theorem dR {q : List (Int × Int)} : ∀ v ∈ yV q, fixd v = true := fun v hv => by obtain ⟨x, rfl⟩ := flat2_mem v hv; rfl
theorem dJ {q : List (Int × Int)} : (yV q).all scal = true := List.all_eq_true.2 fun v hv => by obtain ⟨x, rfl⟩ := flat2_mem v hv; rfl
theorem vP (q : List (Int × Int)) : fixd (encP q) = true := pN dR
theorem jN {q : List (Int × Int)} {i : Nat} (h : i < q.length) : (yV q).drop (i * 2) = I q[i].1 :: I q[i].2 :: (yV q).drop ((i + 1) * 2) := by
 rw [wU, wU, List.drop_eq_getElem_cons h]; rfl
theorem sNeqP {a b c d : Int} {K : AV → OP} : sBin .neq (.agg 2) (.agg [I a, I b]) (.agg [I c, I d]) K = K (.bool (!(decide (a = c) && decide (b = d)))) := by
 have e : sBin .neq (.agg 2) (.agg [I a, I b]) (.agg [I c, I d]) K = K (.bool (!(ieq a c && ieq b d))) := by
  have e1 : gE [I a, I b] [I c, I d] = some (ieq a c && ieq b d) := by
   show (bif ieq a c then (bif ieq b d then some true else some false) else some false) = _
   cases ieq a c <;> cases ieq b d <;> rfl
  show (match gE [I a, I b] [I c, I d] with | some r => xT .neq r K | none => Out.no 5) = _
  rw [e1]
  rfl
 rw [e, u5, u5]
 congr 3
theorem sAx0 {K : AV → OP} {id : Pa} {off : Nat} : yW 1 2 (.ptr id off) (I 0) K = K (.ptr id off) := by
 show (bif Nat.ble (0 + 1) 2 then natK (off + 0 * 1) (fun o => K (.ptr id o)) else .no 14) = _
 rw [Nat.ble_eq_true_of_le (by omega), yD]; simp
theorem sAx1 {K : AV → OP} {id : Pa} {off : Nat} : yW 1 2 (.ptr id off) (I 1) K = K (.ptr id (off + 1)) := by
 show (bif Nat.ble (1 + 1) 2 then natK (off + 1 * 1) (fun o => K (.ptr id o)) else .no 14) = _
 rw [Nat.ble_eq_true_of_le (by omega), yD]; simp
theorem sAxF0 {a b : AV} {l : List AV} {K : AV → OP} : yW 1 2 (.fp (a :: b :: l)) (I 0) K = K (.fp (a :: b :: l)) := nr rfl
theorem sAxF1 {a b : AV} {l : List AV} {K : AV → OP} : yW 1 2 (.fp (a :: b :: l)) (I 1) K = K (.fp (b :: l)) := nr rfl
theorem vC {a b : AV} {l : List AV} {h : T Blk} {K : AV → OP} : zL 2 (.fp (a :: b :: l)) h K = K (.agg [a, b]) := nr rfl
theorem sEqlP {a b c d : Int} {K : AV → OP} : sBin .eql (.agg 2) (.agg [I a, I b]) (.agg [I c, I d]) K = K (.bool (decide (a = c) && decide (b = d))) := by
 have e : sBin .eql (.agg 2) (.agg [I a, I b]) (.agg [I c, I d]) K = K (.bool (ieq a c && ieq b d)) := by
  have e1 : gE [I a, I b] [I c, I d] = some (ieq a c && ieq b d) := by
   show (bif ieq a c then (bif ieq b d then some true else some false) else some false) = _
   cases ieq a c <;> cases ieq b d <;> rfl
  show (match gE [I a, I b] [I c, I d] with | some r => xT .eql r K | none => Out.no 5) = _
  rw [e1]
  rfl
 rw [e, u5, u5]
 congr 3
theorem sSliceP {n i : Nat} {l : List AV} {op : AV → OP} (hn : 1 ≤ n) (hi : i ≤ n) : gG 2 (.lst 2 n l) none (some (I (i : Int))) none op = op (.lst 2 i (l.take (i * 2))) := by
 show (bif Nat.beq 2 2 && Nat.ble 1 n then (match bnd (some (I (i : Int))) n n with | none => Out.no 17 | some h => match bnd none h 0 with | none => .no 17 | some q => op (.lst 2 (h - q) ((l.drop (q * 2)).take ((h - q) * 2)))) else .no 17) = _
 rw [Nat.ble_eq_true_of_le hn]
 have : bnd (some (I (i : Int))) n n = some i := by
  show (bif Nat.ble i n then some i else none) = _
  rw [Nat.ble_eq_true_of_le hi]; rfl
 rw [this]
 show op (.lst 2 (i - 0) ((l.drop (0 * 2)).take ((i - 0) * 2))) = _
 simp
theorem mP {E : List (Int × Int)} {i : Nat} (h : i ≤ E.length) : AV.lst 2 i ((yV E).take (i * 2)) = encP (E.take i) := by
 rw [dQ]
 show _ = AV.lst 2 (E.take i).length (yV (E.take i))
 rw [List.length_take, Nat.min_eq_left h]
end Go.Ev
namespace Go.Ev
open Go Go.RowKit Go.ChangeShapes Go.WideShapes Go.Deep Go.Joins
variable {H : Type} {enc : TypeId × Value → H} {P : Program}
theorem flatP_get : ∀ (q : List (Int × Int)) (i : Nat), (yV q)[i]? = (q[i / 2]?).map fun p => if i % 2 = 0 then I p.1 else I p.2
 | [], i => by simp [yV]
 | p :: q, 0 => rfl
 | p :: q, 1 => rfl
 | p :: q, i + 2 => by
  show (I p.1 :: I p.2 :: yV q)[i + 2]? = _
  rw [List.getElem?_cons_succ, List.getElem?_cons_succ, flatP_get q i, show (i + 2) / 2 = i / 2 + 1 by omega, show (i + 2) % 2 = i % 2 by omega, List.getElem?_cons_succ]
theorem open_listP {t e q : TypeId} {w : World} {base : Nat} {held : Bool} {fuel : Nat} {cs : List Value} {x : DataW H × List MemPlace} (ht : P.underlying t = some (.slice e)) (he : P.underlying e = some (.array 2 q)) (hq : P.underlying q = some (.int .i64))
  (ce : P.cellsOf e = 2) (cq : P.cellsOf q = 1) (h : DataW.trod enc P w base (fun _ => true) held fuel t cs = some x) :
  ∃ (l : List (Int × Int)) (v : Value), cs = [v] ∧ VR (allE w) (encP l) v ∧ l.length ≤ maxLen := by
 rcases open_slice ht h with ⟨rfl, _⟩ | ⟨a, len, cap, m, n, D, Pl, rfl, hb, hl, hm, hmm, _, hx⟩
 ·exact ⟨[], _, rfl, by simp only [VR]; exact ⟨rfl, rfl, none, 0, rfl, .inl rfl⟩, by simp⟩
 ·have each : ∀ i, i < len → ∃ p : Int × Int, w.cell? (a.add (i * 2)) = some (.int .i64 p.1) ∧ w.cell? (a.add (i * 2 + 1)) = some (.int .i64 p.2) := by
   intro i hi
   obtain ⟨cs', h1, h2⟩ := hx i (by rw [hmm, if_pos rfl]; omega)
   rw [ce] at h1
   obtain ⟨_, hlen, hcell⟩ := World.cells?_some h1
   obtain ⟨xs, k, hk, _, _, hxl, hf⟩ := DataW.trod_array he h2
   match xs, hxl, cs', hlen with
   | [y0, y1], _, [v0, v1], _ =>
    have g0 := hf 0 (by omega)
    have g1 := hf 1 (by omega)
    simp [cq] at g0 g1
    obtain ⟨p0, q0, _⟩ := DataW.trod_int hq g0
    obtain ⟨p1, q1, _⟩ := DataW.trod_int hq g1
    simp only [List.cons.injEq, and_true] at q0 q1
    subst q0 q1
    have e0 := hcell 0 (by omega)
    have e1 := hcell 1 (by omega)
    rw [add_add] at e0 e1
    exact ⟨(p0, p1), by simpa using e0, by simpa using e1⟩
  obtain ⟨Q, hQ⟩ := choose_lt each
  refine ⟨(List.range len).map Q, _, rfl, ?_, by simp; omega⟩
  simp only [VR]
  refine ⟨dJ, vN _, some a, cap, by simp, ?_⟩
  by_cases h0 : len = 0
  ·exact .inl (by simp [h0])
  ·obtain ⟨_, hs, _⟩ := qL (hQ 0 (by omega)).1
   obtain ⟨b, off, sp⟩ := a
   have : sp = none := hs (by omega)
   subst this
   refine .inr ⟨b, off, rfl, by simpa using hl, VRF_mk fun i x hx => ?_⟩
   rw [flatP_get] at hx
   have hi : i / 2 < len := by
    cases e : ((List.range len).map Q)[i / 2]? with
    | none => rw [e] at hx; cases hx
    | some y => have := (List.getElem?_eq_some_iff.1 e).1; simpa using this
   rw [List.getElem?_map, List.getElem?_range hi] at hx
   have hx := Option.some.inj hx
   obtain ⟨g0, g1⟩ := hQ (i / 2) hi
   by_cases c : i % 2 = 0
   ·simp only [if_pos c] at hx
    obtain ⟨_, _, h3⟩ := qL g0
    subst hx
    refine ⟨_, (show off + i = off + i / 2 * 2 by omega) ▸ h3, by simp only [VR]⟩
   ·simp only [if_neg c] at hx
    obtain ⟨_, _, h3⟩ := qL g1
    subst hx
    refine ⟨_, (show off + i = off + (i / 2 * 2 + 1) by omega) ▸ h3, by simp only [VR]⟩
theorem open_graph {r : Reach} {b0 base : Nat} {held : Bool} {w : World} {t ti tl tr : TypeId} {f0 f1 : Field} {v : Value} {d : DataW H} {p : List MemPlace} (hs : P.underlying t = some (.struct #[f0, f1])) (hone : oneCellFields P #[f0, f1] = true) (hC : P.cellsOf t = 2)
  (e0 : f0.type = ti) (e1 : f1.type = tl) (u0 : P.underlying ti = some (.int .i64)) (u1 : P.underlying tl = some (.slice tr)) (u2 : P.underlying tr = some (.array 2 ti)) (c1 : P.cellsOf tr = 2) (c2 : P.cellsOf ti = 1)
  (hv : Value.okWide P w r b0 t v) (h : DataW.Trod enc P w base (fun _ => true) held t v d p) :
  ∃ (c : Int) (l : List (Int × Int)), VR (allE w) (.agg [I c, encP l]) v ∧ (Lit.int .i64 c).wf = true ∧ l.length ≤ maxLen := by
 obtain ⟨v0, v1, y0, y1, n, rfl, _, _, h0, h1⟩ := open_agg2 hs hone hC hv h
 rw [e0] at h0
 rw [e1] at h1
 obtain ⟨x, hx, _, hw⟩ := DataW.trod_int u0 h0
 simp only [List.cons.injEq, and_true] at hx
 subst hx
 obtain ⟨l, v', hv', g1, g2⟩ := open_listP u1 u2 u0 c1 c2 h1
 simp only [List.cons.injEq, and_true] at hv'
 subst hv'
 refine ⟨x, l, ?_, hw, g2⟩
 simp only [VR]
 exact ⟨rfl, _, rfl, VRL.cons (by simp only [VR]) (VRL.cons g1 VRL.nil)⟩
end Go.Ev
namespace Go.Ev
open Go Go.Proofs
theorem dreg {B : Nat} : pZ Tryz.prog B Prop := dreg_all mixed
variable {B : Nat}
theorem sameInts35 {a b : List Int} (ha : a.length ≤ 1000000000) : Pure Tryz.prog B 35 [encI a, encI b] (· = .bool (decide (a = b))) := by
 intro p h nx K hK
 refine zP zT dreg (a.length + 2) fun hf => ?_
 rw [F35.go]
 simp (disch := omega) only [sAdd, sSub, sMul, sEql, sNeq, sLss, sLeq, sGtr, sGeq, zI, zK, zC, zA, yJ, yN, yO, yP, zV, yE, yB, yU, yI, yH, yG, zF, zS, zJ, zB, decide_true, decide_false, Bool.not_true, Bool.not_false, yA]
 by_cases hl : a.length = b.length
 ·simp only [hl, decide_true, Bool.not_true, zA]
  refine F35.L2 (fun m z3 h' nx' => ∃ i : Nat, z3 = I i ∧ m = a.length - i ∧ i ≤ a.length ∧ h' = h ∧ nx' = nx ∧ a.take i = b.take i) (m := a.length) (by omega) ⟨0, rfl, by simp, by omega, rfl, rfl, by simp⟩ ?_
  rintro m z2 z3 z5 z6 _ _ R ⟨i, rfl, rfl, hi, rfl, rfl, htk⟩ hR
  simp (disch := omega) only [sAdd, sSub, sMul, sEql, sNeq, sLss, sLeq, sGtr, sGeq, zI, zK, zC, zA, yJ, yN, yO, yP, zV, yE, yB, yU, yI, yH, yG, zF, zS, zJ, zB, decide_true, decide_false, Bool.not_true, Bool.not_false, yA]
  by_cases hlt : i < a.length
  ·have h1 : (i : Int) < a.length := by omega
   have hb : i < b.length := by omega
   simp only [h1, decide_true, zC]
   rw [sIxL rfl hlt, ldL (getI (List.getElem?_eq_getElem hlt)), sIxL rfl hb, ldL (getI (List.getElem?_eq_getElem hb))]
   simp (disch := omega) only [sAdd, sSub, sMul, sEql, sNeq, sLss, sLeq, sGtr, sGeq, zI, zK, zC, zA, yJ, yN, yO, yP, zV, yE, yB, yU, yI, yH, yG, zF, zS, zJ, zB, decide_true, decide_false, Bool.not_true, Bool.not_false, yA]
   by_cases he : a[i] = b[i]
   ·simp only [he, decide_true, Bool.not_true, zA]
    refine hR (a.length - (i + 1)) _ _ _ _ _ _ (by omega) ⟨i + 1, rfl, rfl, by omega, rfl, rfl, ?_⟩
    rw [List.take_add_one, List.take_add_one, htk, List.getElem?_eq_getElem hlt, List.getElem?_eq_getElem hb, he]
   ·simp only [he, decide_false, Bool.not_false, zC]
    refine hK _ ?_ hf
    rw [decide_eq_false]
    rintro rfl
    exact he rfl
  ·have h1 : ¬ (i : Int) < a.length := by omega
   simp only [h1, decide_false, zA]
   rw [F35.k9]
   refine hK _ ?_ hf
   rw [List.take_of_length_le (by omega), List.take_of_length_le (by omega)] at htk
   rw [decide_eq_true htk]
 ·have h1 : ¬ (a.length : Int) = b.length := by omega
  simp only [h1, decide_false, Bool.not_false, zC]
  refine hK _ ?_ hf
  rw [decide_eq_false]
  rintro rfl; exact hl rfl
end Go.Ev
namespace Go.Ev
def addAt (y : List Nat) (i k : Nat) : List Nat := y.set i ((y.getD i 0 + k) % 256)
def addL (y : List Nat) (idx : List Nat) (k : Nat) : List Nat := idx.foldl (fun y i => addAt y i k) y
@[simp] theorem addAt_length (y : List Nat) (i k : Nat) : (addAt y i k).length = y.length := by simp [addAt]
@[simp] theorem bK (idx : List Nat) (k : Nat) : ∀ y : List Nat, (addL y idx k).length = y.length := by
 induction idx with
 | nil => intro y; rfl
 | cons i l ih => intro y; show (addL (addAt y i k) l k).length = _; rw [ih]; simp
theorem addL_snoc (y : List Nat) (l : List Nat) (i k : Nat) : addL y (l ++ [i]) k = addAt (addL y l k) i k := by simp [addL]
def onP (lines : List (List Int)) (i c : Nat) : List Nat := (List.range i).flatMap fun j => ((lines.getD j []).filter (· = (c : Int))).map fun _ => j
abbrev onC (lines : List (List Int)) (c : Nat) : List Nat := onP lines lines.length c
theorem onP_succ (lines : List (List Int)) (i c : Nat) : onP lines (i + 1) c = onP lines i c ++ ((lines.getD i []).filter (· = (c : Int))).map fun _ => i := by
 simp [onP, List.range_succ, List.flatMap_append]
theorem onP_lt {lines : List (List Int)} {i c x : Nat} (h : x ∈ onP lines i c) : x < i := by
 simp only [onP, List.mem_flatMap, List.mem_range, List.mem_map] at h
 obtain ⟨j, h1, y, _, rfl⟩ := h
 exact h1
def kV (lines : List (List Int)) (most fr : Nat) : Nat → List (List Nat)
 | 0 => [List.replicate lines.length 0]
 | n + 1 => (kV lines most fr n).flatMap fun x => (List.range (most + 1)).map fun k => addL x (onC lines (fr + n)) k
theorem u9 (lines : List (List Int)) (most fr : Nat) : ∀ n, (kV lines most fr n).length = (most + 1) ^ n
 | 0 => rfl
 | n + 1 => by
  simp only [kV, List.length_flatMap, List.length_map, List.length_range, List.map_const', List.sum_replicate_nat]
  rw [u9 lines most fr n, Nat.pow_succ]
def blk (x : List Nat) (idx : List Nat) (n : Nat) : Nat → List (List Nat)
 | 0 => []
 | j + 1 => List.replicate n (addL x idx j) ++ blk x idx n j
theorem dT (x idx : List Nat) (n : Nat) : ∀ j, (blk x idx n j).length = j * n
 | 0 => by simp [blk]
 | j + 1 => by simp [blk, dT x idx n j, Nat.add_mul]; omega
theorem vI (ks G : List (List Nat)) (nd : ks.Nodup) (hm : ∀ y, y ∈ ks ↔ y ∈ G) : (ks.flatMap fun x => List.replicate (G.count x) x).Perm G := by
 rw [List.perm_iff_count]
 intro y
 have key : ∀ (l : List (List Nat)), l.Nodup → (l.flatMap fun x => List.replicate (G.count x) x).count y = if y ∈ l then G.count y else 0 := by
  intro l
  induction l with
  | nil => intro _; rfl
  | cons a l ih =>
   intro nd
   rw [List.flatMap_cons, List.count_append, ih (List.nodup_cons.1 nd).2, List.count_replicate]
   by_cases e : y = a
   ·subst e
    have : y ∉ l := (List.nodup_cons.1 nd).1
    simp [this]
   ·have : ¬ (a == y) = true := by simpa using fun q => e q.symm
    simp [this, e]
 rw [key ks nd]
 by_cases e : y ∈ ks
 ·rw [if_pos e]
 ·rw [if_neg e, List.count_eq_zero.2 fun q => e ((hm y).2 q)]
theorem blk_perm (x idx : List Nat) (n : Nat) : ∀ j, (blk x idx n j).Perm ((List.replicate n x).flatMap fun x => (List.range j).map fun k => addL x idx k)
 | 0 => by
  have : ((List.replicate n x).flatMap fun x => (List.range 0).map fun k => addL x idx k) = [] := by simp
  rw [this]; exact .refl _
 | j + 1 => by
  refine (List.Perm.append_left _ (blk_perm x idx n j)).trans ?_
  clear blk_perm
  induction n with
  | zero => simp
  | succ n ih =>
   rw [List.replicate_succ, List.replicate_succ, List.flatMap_cons, List.flatMap_cons, List.range_succ, List.map_append, List.map_singleton]
   rw [List.range_succ] at ih
   generalize addL x idx j = a at *
   generalize (List.range j).map (fun k => addL x idx k) = r at *
   have : (a :: List.replicate n a ++ (r ++ (List.replicate n x).flatMap fun x => (List.range j).map fun k => addL x idx k)).Perm (r ++ [a] ++ (List.replicate n a ++ (List.replicate n x).flatMap fun x => (List.range j).map fun k => addL x idx k)) := by
    rw [List.perm_iff_count]; intro y; simp only [List.count_append, List.count_cons, List.cons_append, List.nil_append, List.count_nil]; omega
   refine this.trans ?_
   exact List.Perm.append_left _ ih
theorem next_perm (ks G : List (List Nat)) (idx : List Nat) (j : Nat) (nd : ks.Nodup) (hm : ∀ y, y ∈ ks ↔ y ∈ G) : (ks.flatMap fun x => blk x idx (G.count x) j).Perm (G.flatMap fun x => (List.range j).map fun k => addL x idx k) := by
 refine List.Perm.trans ?_ ((vI ks G nd hm).flatMap_right _)
 rw [List.flatMap_assoc]
 clear hm nd
 induction ks with
 | nil => exact .refl _
 | cons a l ih =>
  rw [List.flatMap_cons, List.flatMap_cons]
  exact (blk_perm a idx _ j).append ih
theorem seen_perm {n : Nat} {seen : List Nat} (nd : seen.Nodup) (h1 : ∀ i ∈ seen, i < n) (h2 : ∀ i, i < n → i ∈ seen) : seen.Perm (List.range n) := by
 rw [List.perm_iff_count]
 intro a
 rw [nd.count, List.nodup_range.count]
 by_cases e : a < n
 ·rw [if_pos (h2 a e), if_pos (by simpa using e)]
 ·rw [if_neg fun q => e (h1 a q), if_neg (by simpa using e)]
end Go.Ev
namespace Go.Ev
open Go Go.Proofs
variable {B : Nat}
abbrev nI (x : Nat) : AV := I (x : Int)
noncomputable abbrev Lt (on bx : Pa) (cells : Nat) (lines : List (List Int)) (o : Nat → Option Pa) (D : Nat → List Nat) (L : List Ob) : List Ob :=
 .arr on (rowL cells fun c => rowV (o c) 1 (D c).length) :: .arr bx [I cells, encT lines] :: (rowL cells (fun c => Ob.gro (o c) 1 (D c).length ((D c).map nI)) ++ L)
theorem Lt_get {on bx : Pa} {cells c : Nat} {lines : List (List Int)} {o : Nat → Option Pa} {D : Nat → List Nat} {L : List Ob} (hc : c < cells) : (Lt on bx cells lines o D L)[c + 2]? = some (.gro (o c) 1 (D c).length ((D c).map nI)) := by
 show (rowL cells _ ++ L)[c]? = _
 rw [List.getElem?_append_left (by simpa using hc), uK hc]
theorem F89.on {N : Nat} {K0 : Kw Prop} {K : Ks Prop} {h0 h : T Blk} {nx : Pa} {L : List Ob} {x0 x1 x2 x3 x5 x7 x8 x9 x10 x11 x12 x13 x14 x15 x16 x17 x21 x22 x23 x24 x25 x26 x27 x28 x29 x30 x31 x32 x33 : AV} {on bx : Pa} {cells : Nat} {lines : List (List Int)} (hN : 100000000 < N) (hm : lines.length ≤ 128) (hw : ∀ l ∈ lines, l.length ≤ 1000) (hl : ∀ l ∈ lines, ∀ c ∈ l, 0 ≤ c ∧ c < (cells : Int))
  (H : Hp h0 h nx (.arr on (List.replicate cells .nils) :: .arr bx [I cells, encT lines] :: L))
  (hK : ∀ x7 x8 x9 x20 x21 x22 x23 x24 x25 h' nx' o, Hp h0 h' nx' (Lt on bx cells lines o (onC lines) L) → K (F89.fr x0 x1 x2 x3 (.ptr bx 0) x5 (.sl on 0 cells (some cells) 1) x7 x8 x9 x10 x11 x12 x13 x14 x15 x16 x17 (encT lines) (I lines.length) x20 x21 x22 x23 x24 x25 x26 x27 x28 x29 x30 x31 x32 x33) h' nx' = .ok True) :
  IR.run F89.b1 (CS Tryz.prog B) N (fnO F89.res K0) K (F89.fr x0 x1 x2 x3 (.ptr bx 0) x5 (.sl on 0 cells (some cells) 1) x7 x8 x9 x10 x11 x12 x13 x14 x15 x16 x17 (encT lines) (I lines.length) (I 0) x21 x22 x23 x24 x25 x26 x27 x28 x29 x30 x31 x32 x33) h nx = .ok True := by
 refine F89.L1 (fun m x20 h' nx' => ∃ (i : Nat) (o : Nat → Option Pa), x20 = I i ∧ lines.length - i = m ∧ i ≤ lines.length ∧ Hp h0 h' nx' (Lt on bx cells lines o (onP lines i) L)) (m := lines.length) (by omega) ⟨0, fun _ => none, rfl, rfl, by omega, ?_⟩ ?_
 ·have H2 := (H.addE (E := rowL cells fun _ => Ob.gro none 1 0 []) fun x hx => by
   obtain ⟨j, _, rfl⟩ := rowL_mem hx
   exact ⟨rfl, fun _ => ⟨rfl, rfl⟩⟩).perm (List.perm_append_comm (l₂ := .arr on (List.replicate cells .nils) :: .arr bx [I cells, encT lines] :: L))
  refine (H2.perm (L' := .arr on (List.replicate cells .nils) :: .arr bx [I cells, encT lines] :: (rowL cells (fun _ => Ob.gro none 1 0 []) ++ L)) ?_).cast ?_
  ·exact (List.perm_append_comm.cons _).cons _
  ·rw [rowL_const]; rfl
 rintro m z7 z8 z9 z20 z21 z22 z23 z24 z25 h1 nx1 R ⟨i, o, rfl, rfl, hi, H1⟩ hR
 simp (disch := omega) only [sAdd, sSub, sMul, sEql, sNeq, sLss, sLeq, sGtr, sGeq, zI, zK, zC, zA, yJ, yN, yO, yP, zV, yE, yB, yU, yI, yH, yG, zF, zS, zJ, zB, decide_true, decide_false, Bool.not_true, Bool.not_false, yA]
 by_cases hlt : i < lines.length
 case neg =>
  simp only [show ¬ (i : Int) < (lines.length : Int) by omega, decide_false, zA]
  obtain rfl : i = lines.length := by omega
  exact hK _ _ _ _ _ _ _ _ _ _ _ _ H1
 simp only [show (i : Int) < (lines.length : Int) by omega, decide_true, zC]
 obtain ⟨line, hline⟩ : ∃ l, lines[i]? = some l := ⟨_, List.getElem?_eq_getElem hlt⟩
 have hmem := List.mem_of_getElem? hline
 have hgd : lines.getD i [] = line := by rw [List.getD_eq_getElem?_getD, hline]; rfl
 rw [sIxL rfl hlt, ldL (getT hline)]
 simp (disch := omega) only [sAdd, sSub, sMul, sEql, sNeq, sLss, sLeq, sGtr, sGeq, zI, zK, zC, zA, yJ, yN, yO, yP, zV, yE, yB, yU, yI, yH, yG, zF, zS, zJ, zB, decide_true, decide_false, Bool.not_true, Bool.not_false, yA]
 have hlw := hw _ hmem
 refine F89.L7 (fun m x24 h' nx' => ∃ (j : Nat) (o : Nat → Option Pa), x24 = I j ∧ line.length - j = m ∧ j ≤ line.length ∧ Hp h0 h' nx' (Lt on bx cells lines o (fun c => onP lines i c ++ ((line.take j).filter (· = (c : Int))).map fun _ => i) L)) (m := line.length) (by omega) ⟨0, o, rfl, rfl, by omega, H1.cast (by simp [Lt])⟩ ?_
 rintro m z9 z24 z25 h2 nx2 R2 ⟨j, o2, rfl, rfl, hj, H2⟩ hR2
 simp (disch := omega) only [sAdd, sSub, sMul, sEql, sNeq, sLss, sLeq, sGtr, sGeq, zI, zK, zC, zA, yJ, yN, yO, yP, zV, yE, yB, yU, yI, yH, yG, zF, zS, zJ, zB, decide_true, decide_false, Bool.not_true, Bool.not_false, yA]
 by_cases hjt : j < line.length
 case neg =>
  simp only [show ¬ (j : Int) < (line.length : Int) by omega, decide_false, zA]
  rw [F89.k14]
  simp (disch := omega) only [sAdd, sSub, sMul, sEql, sNeq, sLss, sLeq, sGtr, sGeq, zI, zK, zC, zA, yJ, yN, yO, yP, zV, yE, yB, yU, yI, yH, yG, zF, zS, zJ, zB, decide_true, decide_false, Bool.not_true, Bool.not_false, yA]
  refine hR (lines.length - (i + 1)) _ _ _ _ _ _ _ _ _ _ _ (by omega) ⟨i + 1, o2, rfl, rfl, by omega, H2.cast ?_⟩
  have : ∀ c, onP lines (i + 1) c = onP lines i c ++ ((line.take j).filter (· = (c : Int))).map fun _ => i := fun c => by
   rw [onP_succ, hgd, List.take_of_length_le (by omega)]
  simp only [Lt, this]
 simp only [show (j : Int) < (line.length : Int) by omega, decide_true, zC]
 obtain ⟨cz, hcz⟩ : ∃ c, line[j]? = some c := ⟨_, List.getElem?_eq_getElem hjt⟩
 have hcr := hl _ hmem cz (List.mem_of_getElem? hcz)
 obtain ⟨c, rfl⟩ : ∃ c : Nat, cz = c := ⟨cz.toNat, by omega⟩
 have hc : c < cells := by omega
 rw [sIxL rfl hjt, ldL (getI hcz), sIx (i := c) rfl hc, H2.load (k := 0) rfl (uK hc)]
 refine H2.bslice (l := [I i]) rfl fun t h3 nx3 H3 => ?_
 refine H3.appN (k := c + 3) (o := o2 c) (c := 1) (new := [I i]) (by exact Lt_get (on := on) (bx := bx) (lines := lines) hc) (HasArr.rd (l := [I i]) (n := 1) (H3.own _ (List.mem_cons_self ..)) rfl) rfl rfl (by decide) (by decide) ?_ fun o' h4 nx4 _ H4 => ?_
 ·have h1 : (onP lines i c).length ≤ 128000 := by
   have : ∀ i, i ≤ lines.length → (onP lines i c).length ≤ i * 1000 := by
    intro i
    induction i with
    | zero => intro _; simp [onP]
    | succ i ih =>
     intro hi
     rw [onP_succ, List.length_append, List.length_map]
     have h2 := ih (by omega)
     have h3 : ((lines.getD i []).filter (· = (c : Int))).length ≤ 1000 := by
      refine Nat.le_trans (List.length_filter_le _ _) ?_
      rw [List.getD_eq_getElem?_getD, List.getElem?_eq_getElem (by omega)]
      exact hw _ (List.getElem_mem _)
     omega
   have h9 := this i hi
   clear this
   omega
  have h2 : (((line.take j).filter (· = (c : Int))).map fun _ => i).length ≤ 1000 := by
   rw [List.length_map]
   refine Nat.le_trans (List.length_filter_le _ _) ?_
   rw [List.length_take]; omega
  rw [List.length_append]; omega
 rw [sIx (i := c) rfl hc]
 refine H4.store (k := 1) rfl (by simpa using hc) (gV _ _ _) fun h5 H5 => ?_
 refine hR2 (line.length - (j + 1)) _ _ _ _ _ (by omega) ⟨j + 1, fun p => if p = c then o' else o2 p, rfl, rfl, by omega, H5.drop.cast ?_⟩
 have hD : ∀ p : Nat, (onP lines i p ++ ((line.take (j + 1)).filter (· = (p : Int))).map fun _ => i) = if p = c then (onP lines i c ++ ((line.take j).filter (· = (c : Int))).map fun _ => i) ++ [i] else onP lines i p ++ ((line.take j).filter (· = (p : Int))).map fun _ => i := fun p => by
  rw [List.take_add_one, hcz]
  by_cases e : p = c
  ·subst e; simp
  ·have : ¬ (c : Int) = (p : Int) := by omega
   simp [e, this]
 simp only [hD]
 simp only [Lt, List.set_cons_succ, List.set_cons_zero, List.tail_cons]
 have e1 : ∀ x : Ob, (rowL cells (fun p => Ob.gro (o2 p) 1 (onP lines i p ++ ((line.take j).filter (· = (p : Int))).map fun _ => i).length ((onP lines i p ++ ((line.take j).filter (· = (p : Int))).map fun _ => i).map nI)) ++ L).set c x = rowL cells (fun p => if p = c then x else Ob.gro (o2 p) 1 (onP lines i p ++ ((line.take j).filter (· = (p : Int))).map fun _ => i).length ((onP lines i p ++ ((line.take j).filter (· = (p : Int))).map fun _ => i).map nI)) ++ L := fun x => by
  rw [List.set_append_left _ _ (by simpa using hc), pB]
 rw [e1, pB]
 congr 1
 ·congr 1
  refine wO fun p _ => ?_
  by_cases e : p = c
  ·subst e; simp [Nat.add_assoc]
  ·simp [e]
 ·congr 2
  refine wO fun p _ => ?_
  by_cases e : p = c
  ·subst e; simp [Nat.add_assoc]
  ·simp [e]
theorem sConv_u8 {k : IntKind} {x : Nat} {K : AV → OP} : mY .u8 (.int k (x : Int)) K = K (u8 (x % 256)) := by
 show intK (kK .u8 (x : Int)) (fun z => K (.int .u8 z)) = _
 rw [uH, dY, IntKind.wrap_u8]
 have : u8 (x % 256) = .int .u8 ((x : Int) % 256) := by unfold u8; congr 1
 rw [this]
theorem sAdd_u8 {x y : Nat} {K : AV → OP} : sBin .add .int (u8 x) (u8 y) K = K (u8 ((x + y) % 256)) := by
 rw [sAddW, IntKind.wrap_u8]
 have : u8 ((x + y) % 256) = .int .u8 (((x : Int) + (y : Int)) % 256) := by unfold u8; congr 1
 rw [this]
theorem F89.add {N : Nat} {K0 : Kw Prop} {E4 E5 E6 E7 E8 E9 K : Ks Prop} {h0 h : T Blk} {nx : Pa} {L : List Ob} {x0 x1 x2 x3 x4 x5 x6 x7 x8 x9 x10 x11 x12 x13 x14 x17 x18 x19 x20 x21 x22 x23 x24 x25 x26 x27 x28 x29 x33 : AV} {yb : Pa} {y : Key} {idx : List Nat} {o : Option Pa} {k c : Nat} (hN : 100000000 < N) (hy : y.length ≤ 128) (hi : ∀ x ∈ idx, x < y.length) (hn : idx.length ≤ 1000000)
  (H : Hp h0 h nx (.arr yb (jD y) :: L)) (hc : L[c]? = some (.gro o 1 idx.length (idx.map nI)))
  (hK : ∀ x17 x32 x33 h' nx', Hp h0 h' nx' (.arr yb (jD (addL y idx k)) :: L) → K (F89.fr x0 x1 x2 x3 x4 x5 x6 x7 x8 x9 x10 x11 x12 x13 x14 (I k) (.ptr yb 0) x17 x18 x19 x20 x21 x22 x23 x24 x25 x26 x27 x28 x29 (rowV o 1 idx.length) (I idx.length) x32 x33) h' nx' = .ok True) :
  IR.run F89.b33 (CS Tryz.prog B) N (((((((fnO F89.res K0).blk 4 E4).blk 5 E5).blk 6 E6).blk 7 E7).blk 8 E8).blk 9 E9) K (F89.fr x0 x1 x2 x3 x4 x5 x6 x7 x8 x9 x10 x11 x12 x13 x14 (I k) (.ptr yb 0) x17 x18 x19 x20 x21 x22 x23 x24 x25 x26 x27 x28 x29 (rowV o 1 idx.length) (I idx.length) (I 0) x33) h nx = .ok True := by
 refine F89.L33 (fun m x32 h' nx' => ∃ j : Nat, x32 = I j ∧ idx.length - j = m ∧ j ≤ idx.length ∧ Hp h0 h' nx' (.arr yb (jD (addL y (idx.take j) k)) :: L)) (m := idx.length) (by omega) ⟨0, rfl, rfl, by omega, H⟩ ?_
 rintro m z17 z32 z33 h1 nx1 R ⟨j, rfl, rfl, hj, H1⟩ hR
 simp (disch := omega) only [sAdd, sSub, sMul, sEql, sNeq, sLss, sLeq, sGtr, sGeq, zI, zK, zC, zA, yJ, yN, yO, yP, zV, yE, yB, yU, yI, yH, yG, zF, zS, zJ, zB, decide_true, decide_false, Bool.not_true, Bool.not_false, yA]
 by_cases hlt : j < idx.length
 case neg =>
  simp only [show ¬ (j : Int) < (idx.length : Int) by omega, decide_false, zA]
  rw [List.take_of_length_le (by omega)] at H1
  exact hK _ _ _ _ _ H1
 simp only [show (j : Int) < (idx.length : Int) by omega, decide_true, zC]
 obtain ⟨x, hx⟩ : ∃ x, idx[j]? = some x := ⟨_, List.getElem?_eq_getElem hlt⟩
 have hxl := hi x (List.mem_of_getElem? hx)
 obtain ⟨id, q1, q2⟩ := H1.groIx (k := c + 1) (by exact hc) (v := I x) (by rw [List.getElem?_map, hx]; rfl)
 have hyl : x < (addL y (idx.take j) k).length := by simpa using hxl
 rw [q1, q2, sAx (i := x) rfl (by omega), H1.load (k := 0) rfl (dS (List.getElem?_eq_getElem hyl)), sConv_u8, sAdd_u8, sAx (i := x) rfl (by omega)]
 refine H1.store (k := 0) rfl (by rw [jP (by simpa using hy)]; omega) rfl fun h2 H2 => ?_
 refine hR (idx.length - (j + 1)) _ _ _ _ _ (by omega) ⟨j + 1, rfl, rfl, by omega, H2.cast ?_⟩
 rw [List.set_cons_zero, cellsK_set hyl, List.take_add_one, hx]
 show _ = .arr yb (jD (addL y (idx.take j ++ [x]) k)) :: L
 rw [addL_snoc, addAt]
 congr 3
 congr 1
 rw [List.getD_eq_getElem?_getD, List.getElem?_eq_getElem hyl]
 simp
theorem Hp.dropL {h0 h : T Blk} {nx : Pa} : ∀ {A L : List Ob}, Hp h0 h nx (A ++ L) → Hp h0 h nx L
 | [], _, H => H
 | _ :: _, _, H => Hp.dropL H.drop
theorem Hp.dropMid {h0 h : T Blk} {nx : Pa} {A L : List Ob} {x : Ob} (H : Hp h0 h nx (x :: (A ++ L))) : Hp h0 h nx (x :: L) :=
 Hp.dropL (H.perm List.perm_middle.symm)
theorem F89.ks {N : Nat} {K0 : Kw Prop} {E4 E5 E6 E7 K : Ks Prop} {h0 h : T Blk} {nx : Pa} {Lr : List Ob} {x0 x1 x2 x4 x5 x7 x8 x9 x10 x16 x17 x18 x19 x20 x21 x22 x23 x24 x25 x26 x27 x28 x29 x30 x31 x32 x33 : AV} {xb nid on : Pa} {hdr : List AV} {x : Key} {idx : List Nat} {o : Option Pa} {ks G : List Key} {m most n p q r c cells : Nat} (hN : 100000000 < N) (hm : m ≤ 128) (hx : x.length = m) (hi : ∀ z ∈ idx, z < m) (hidx : idx.length ≤ 1000000) (hmost : most ≤ 1000) (hn : 1 ≤ n) (hG : G.length + (most + 2) * n ≤ 4000000000000000000)
  (H : Hp h0 h nx (.arr xb (jD x) :: Lr)) (hp : Lr[p]? = some (.map nid (ks.map (entK (cntV G))))) (O : KsOk m ks G) (hq : Lr[q]? = some (.arr on hdr)) (hqp : p ≠ q) (hh : hdr[c]? = some (rowV o 1 idx.length)) (hr : Lr[r]? = some (.gro o 1 idx.length (idx.map nI))) (hrp : p ≠ r) (hc : c < cells)
  (hK : ∀ x15 x16 x17 x29 x30 x31 x32 x33 h' nx' ks', KsOk m ks' (blk x idx n (most + 1) ++ G) → Hp h0 h' nx' (.arr xb (jD x) :: Lr.set p (.map nid (ks'.map (entK (cntV (blk x idx n (most + 1) ++ G)))))) → K (F89.fr x0 x1 x2 (I most) x4 x5 (.sl on 0 cells (some cells) 1) x7 x8 x9 x10 (I c) (.map nid) (.ptr xb 0) (I n) x15 x16 x17 x18 x19 x20 x21 x22 x23 x24 x25 x26 x27 x28 x29 x30 x31 x32 x33) h' nx' = .ok True) :
  IR.run F89.b27 (CS Tryz.prog B) N (((((fnO F89.res K0).blk 4 E4).blk 5 E5).blk 6 E6).blk 7 E7) K (F89.fr x0 x1 x2 (I most) x4 x5 (.sl on 0 cells (some cells) 1) x7 x8 x9 x10 (I c) (.map nid) (.ptr xb 0) (I n) (I 0) x16 x17 x18 x19 x20 x21 x22 x23 x24 x25 x26 x27 x28 x29 x30 x31 x32 x33) h nx = .ok True := by
 refine F89.L27 (fun m' x15 h' nx' => ∃ (k : Nat) (ks' : List Key), x15 = I k ∧ most + 1 - k = m' ∧ k ≤ most + 1 ∧ KsOk m ks' (blk x idx n k ++ G) ∧ Hp h0 h' nx' (.arr xb (jD x) :: Lr.set p (.map nid (ks'.map (entK (cntV (blk x idx n k ++ G))))))) (m := most + 1) (by omega) ⟨0, ks, rfl, rfl, by omega, O, H.cast ?_⟩ ?_
 ·have e : Lr.set p (.map nid (ks.map (entK (cntV G)))) = Lr := by rw [(kF hp).2]; exact (kF hp).1.symm
  exact congrArg _ e.symm
 rintro m' z15 z16 z17 z29 z30 z31 z32 z33 h1 nx1 R ⟨k, ks1, rfl, rfl, hk, O1, H1⟩ hR
 simp (disch := omega) only [sAdd, sSub, sMul, sEql, sNeq, sLss, sLeq, sGtr, sGeq, zI, zK, zC, zA, yJ, yN, yO, yP, zV, yE, yB, yU, yI, yH, yG, zF, zS, zJ, zB, decide_true, decide_false, Bool.not_true, Bool.not_false, yA]
 by_cases hlt : k ≤ most
 case neg =>
  simp only [show ¬ (k : Int) ≤ (most : Int) by omega, decide_false, zA]
  obtain rfl : k = most + 1 := by omega
  exact hK _ _ _ _ _ _ _ _ _ _ _ O1 H1
 simp only [show (k : Int) ≤ (most : Int) by omega, decide_true, zC]
 have hpl := (List.getElem?_eq_some_iff.1 hp).1
 rw [H1.loadN (k := 0) rfl (jP (by omega))]
 refine H1.alloc fun yb h2 nx2 H2 => ?_
 refine H2.storeN (k := 0) rfl rfl (jP (by omega)) fun h3 H3 => ?_
 have H3 : Hp h0 h3 nx2 (.arr yb (jD x) :: .arr xb (jD x) :: Lr.set p (.map nid (ks1.map (entK (cntV (blk x idx n k ++ G)))))) := H3
 have hq3 : (Lr.set p (.map nid (ks1.map (entK (cntV (blk x idx n k ++ G))))))[q]? = some (.arr on hdr) := by rw [List.getElem?_set_ne hqp]; exact hq
 have hr3 : (Lr.set p (.map nid (ks1.map (entK (cntV (blk x idx n k ++ G))))))[r]? = some (.gro o 1 idx.length (idx.map nI)) := by rw [List.getElem?_set_ne hrp]; exact hr
 rw [sIx (i := c) rfl hc, H3.load (k := q + 2) hq3 hh, H3.groLen (k := r + 2) hr3]
 refine F89.add (k := k) hN (by omega) (fun z hz => by rw [hx]; exact hi z hz) hidx H3 (c := r + 1) hr3 fun y17 y32 y33 h4 nx4 H4 => ?_
 rw [F89.k40]
 rw [H4.loadN (k := 0) rfl (jP (by rw [bK]; omega))]
 have hlen : (blk x idx n k ++ G).length + n ≤ 4000000000000000000 := by
  rw [List.length_append, dT]
  have : k * n + n ≤ (most + 2) * n := by
   have := Nat.mul_le_mul_right n (show k + 1 ≤ most + 2 by omega)
   rw [Nat.add_mul] at this; omega
  omega
 refine H4.mapAdd (k := p + 2) (nn := n) (y := addL x idx k) hm (by exact List.getElem?_set_self hpl) O1 (by rw [bK]; exact hx) hn (by omega) (K := fun h9 n10 => IR.run F89.b41 (CS Tryz.prog B) N ((((((fnO F89.res K0).blk 4 E4).blk 5 E5).blk 6 E6).blk 7 E7).blk 8 K) R _ h9 n10) fun h5 ks2 O2 H5 => ?_
 rw [F89.k41, sAdd (by omega)]
 refine hR (most + 1 - (k + 1)) _ _ _ _ _ _ _ _ _ _ (by omega) ⟨k + 1, ks2, rfl, rfl, by omega, O2.perm (by simp [blk]), H5.drop.cast ?_⟩
 simp only [List.set_cons_succ, List.tail_cons, List.set_set]
 rw [blk, List.append_assoc]
abbrev bH (ks G : List Key) (idx : List Nat) (most : Nat) (i : Nat) : List Key := blk (ks.getD i []) idx (G.count (ks.getD i [])) (most + 1)
theorem m8 {α : Type} {f : α → List Key} {M : Nat} : ∀ (l : List α), (∀ i ∈ l, (f i).length ≤ M) → (l.flatMap f).length ≤ l.length * M
 | [], _ => by simp
 | a :: l, h => by
  have h1 := h a (by simp)
  have h2 := m8 l fun i hi => h i (by simp [hi])
  rw [List.flatMap_cons, List.length_append, List.length_cons, Nat.add_mul]; omega
theorem F89.ents {N : Nat} {K0 : Kw Prop} {E4 E5 K : Ks Prop} {h0 h : T Blk} {nx : Pa} {L : List Ob} {x0 x1 x2 x4 x5 x7 x8 x9 x10 x13 x14 x15 x16 x17 x18 x19 x20 x21 x22 x23 x24 x25 x26 x28 x29 x30 x31 x32 x33 : AV} {it mid nid on bx : Pa} {o : Nat → Option Pa} {lines : List (List Int)} {ksM GM : List Key} {most c cells : Nat} (hN : 100000000 < N) (hm : lines.length ≤ 128) (hD : ∀ c, (onC lines c).length ≤ 1000000) (hmost : most ≤ 1000) (hGM : GM.length ≤ 1000000) (O : KsOk lines.length ksM GM) (hkl : ksM.length ≤ 1000000) (hc : c < cells)
  (H : Hp h0 h nx (.iter it mid (ksM.map (entK (cntV GM))).length [] (ksM.map (entK (cntV GM))).length :: .map nid [] :: .map mid (ksM.map (entK (cntV GM))) :: Lt on bx cells lines o (onC lines) L))
  (hK : ∀ x13 x14 x15 x16 x17 x28 x29 x30 x31 x32 x33 h' nx' ks' G', KsOk lines.length ks' G' → G'.Perm (GM.flatMap fun x => (List.range (most + 1)).map fun k => addL x (onC lines c) k) → Hp h0 h' nx' (.map nid (ks'.map (entK (cntV G'))) :: .map mid (ksM.map (entK (cntV GM))) :: Lt on bx cells lines o (onC lines) L) → K (F89.fr x0 x1 x2 (I most) x4 x5 (.sl on 0 cells (some cells) 1) x7 x8 x9 x10 (I c) (.map nid) x13 x14 x15 x16 x17 x18 x19 x20 x21 x22 x23 x24 x25 x26 (.ptr it 0) x28 x29 x30 x31 x32 x33) h' nx' = .ok True) :
  IR.run F89.b22 (CS Tryz.prog B) N (((fnO F89.res K0).blk 4 E4).blk 5 E5) K (F89.fr x0 x1 x2 (I most) x4 x5 (.sl on 0 cells (some cells) 1) x7 x8 x9 x10 (I c) (.map nid) x13 x14 x15 x16 x17 x18 x19 x20 x21 x22 x23 x24 x25 x26 (.ptr it 0) x28 x29 x30 x31 x32 x33) h nx = .ok True := by
 refine F89.L22 (fun m' h' nx' => ∃ (seen : List Nat) (ks' : List Key), (gY ksM.length seen).length = m' ∧ seen.length + m' = ksM.length ∧ seen.Nodup ∧ (∀ i ∈ seen, i < ksM.length) ∧ KsOk lines.length ks' (seen.flatMap (bH ksM GM (onC lines c) most)) ∧
  Hp h0 h' nx' (.iter it mid (ksM.map (entK (cntV GM))).length seen (ksM.map (entK (cntV GM))).length :: .map nid (ks'.map (entK (cntV (seen.flatMap (bH ksM GM (onC lines c) most))))) :: .map mid (ksM.map (entK (cntV GM))) :: Lt on bx cells lines o (onC lines) L)) (m := ksM.length) (by omega) ⟨[], [], by (have e : gY ksM.length [] = List.range ksM.length := List.filter_eq_self.2 (by simp)); rw [e]; simp, by simp, by simp, by simp, KsOk.nil _, H⟩ ?_
 rintro m' z13 z14 z15 z16 z17 z28 z29 z30 z31 z32 z33 h1 nx1 R ⟨seen, ks1, rfl, hsl, hnd, hlt, O1, H1⟩ hR
 refine H1.next (k := 0) (j := 2) rfl rfl (fun hall => ?_) fun i a b h2 hi hns hab H2 => ?_
 ·simp (disch := omega) only [sAdd, sSub, sMul, sEql, sNeq, sLss, sLeq, sGtr, sGeq, zI, zK, zC, zA, yJ, yN, yO, yP, zV, yE, yB, yU, yI, yH, yG, zF, zS, zJ, zB, decide_true, decide_false, Bool.not_true, Bool.not_false, yA]
  refine hK _ _ _ _ _ _ _ _ _ _ _ _ _ ks1 _ O1 ?_ H1.drop
  have hsp := seen_perm hnd hlt fun i hi => hall i (by simpa using hi)
  refine (hsp.flatMap_right _).trans ?_
  have e : (List.range ksM.length).flatMap (bH ksM GM (onC lines c) most) = ksM.flatMap fun x => blk x (onC lines c) (GM.count x) (most + 1) := by
   have : ksM = (List.range ksM.length).map fun i => ksM.getD i [] := by
    have := rowL_self ksM []
    exact this
   conv => rhs; rw [this]
   rw [List.flatMap_map]
  rw [e]
  exact next_perm ksM GM (onC lines c) (most + 1) O.nd O.mem
 ·have hi' : i < ksM.length := by simpa using hi
  obtain ⟨x, hx⟩ : ∃ x, ksM[i]? = some x := ⟨_, List.getElem?_eq_getElem hi'⟩
  have hxm := List.mem_of_getElem? hx
  rw [List.getElem?_map, hx] at hab
  obtain ⟨rfl, rfl⟩ : encK x = a ∧ cntV GM x = b := by simpa [entK] using hab
  have hgx : ksM.getD i [] = x := by rw [List.getD_eq_getElem?_getD, hx]; rfl
  have hxl := O.klen x hxm
  have hcx : 1 ≤ GM.count x := List.count_pos_iff.2 ((O.mem x).1 hxm)
  have hcx2 : GM.count x ≤ GM.length := List.count_le_length
  simp (disch := omega) only [sAdd, sSub, sMul, sEql, sNeq, sLss, sLeq, sGtr, sGeq, zI, zK, zC, zA, yJ, yN, yO, yP, zV, yE, yB, yU, yI, yH, yG, zF, zS, zJ, zB, decide_true, decide_false, Bool.not_true, Bool.not_false, yA]
  have hent : (ksM.map (entK (cntV GM)))[i]? = some (encK x, cntV GM x) := by rw [List.getElem?_map, hx]; rfl
  rw [H2.entry (k := 0) (j := 2) rfl rfl hent]
  simp (disch := omega) only [sAdd, sSub, sMul, sEql, sNeq, sLss, sLeq, sGtr, sGeq, zI, zK, zC, zA, yJ, yN, yO, yP, zV, yE, yB, yU, yI, yH, yG, zF, zS, zJ, zB, decide_true, decide_false, Bool.not_true, Bool.not_false, yA]
  refine H2.alloc fun xb h3 nx3 H3 => ?_
  refine H3.storeN (k := 0) rfl rfl (jP (by omega)) fun h4 H4 => ?_
  have hb : ∀ j ∈ seen, (bH ksM GM (onC lines c) most j).length ≤ 1001 * 1000000 := fun j _ => by
   rw [dT]
   exact Nat.mul_le_mul (by omega) (Nat.le_trans List.count_le_length hGM)
  have hfl : (seen.flatMap (bH ksM GM (onC lines c) most)).length ≤ seen.length * (1001 * 1000000) := m8 seen hb
  have hsl2 : seen.length * (1001 * 1000000) ≤ 1000000 * (1001 * 1000000) := Nat.mul_le_mul_right _ (by omega)
  have hmn : (most + 2) * GM.count x ≤ 1002 * 1000000 := Nat.mul_le_mul (by omega) (by omega)
  refine F89.ks (most := most) (n := GM.count x) (p := 1) (q := 3) (r := c + 5) (idx := onC lines c) (o := o c) hN hm hxl (fun z hz => onP_lt hz) (hD c) hmost hcx (by omega) H4 rfl O1 rfl (by decide) (uK hc) (by exact Lt_get (on := on) (bx := bx) (lines := lines) hc) (by omega) hc fun y15 y16 y17 y29 y30 y31 y32 y33 h5 nx5 ks2 O2 H5 => ?_
  have hst := leftA_step hi' hns
  have e : (i :: seen).flatMap (bH ksM GM (onC lines c) most) = blk x (onC lines c) (GM.count x) (most + 1) ++ seen.flatMap (bH ksM GM (onC lines c) most) := by
   rw [List.flatMap_cons, bH, hgx]
  refine hR _ _ _ _ _ _ _ _ _ _ _ _ _ _ (by omega) ⟨i :: seen, ks2, rfl, by simp; omega, List.nodup_cons.2 ⟨hns, hnd⟩, fun j hj => ?_, by rw [e]; exact O2, by rw [e]; exact H5.drop⟩
  rcases List.mem_cons.1 hj with rfl | q
  ·exact hi'
  ·exact hlt j q
theorem Hp.swap {h0 h : T Blk} {nx : Pa} {a b : Ob} {L : List Ob} (H : Hp h0 h nx (a :: b :: L)) : Hp h0 h nx (b :: a :: L) := H.perm (.swap _ _ _)
theorem F89.cells {N : Nat} {K0 : Kw Prop} {K : Ks Prop} {h0 h : T Blk} {nx : Pa} {L : List Ob} {x0 x1 x4 x5 x7 x8 x9 x12 x13 x14 x15 x16 x17 x18 x19 x20 x21 x22 x23 x24 x25 x26 x27 x28 x29 x30 x31 x32 x33 : AV} {mid on bx : Pa} {o : Nat → Option Pa} {lines : List (List Int)} {most fr to cells : Nat} (hN : 100000000 < N) (hm : lines.length ≤ 128) (hD : ∀ c, (onC lines c).length ≤ 1000000) (hmost : most ≤ 1000) (hfr : fr ≤ to) (hto : to ≤ cells) (hcl : cells ≤ 1000000) (hpow : (most + 1) ^ (to - fr) ≤ 1000000)
  (H : Hp h0 h nx (.map mid ([List.replicate lines.length 0].map (entK (cntV [List.replicate lines.length 0]))) :: Lt on bx cells lines o (onC lines) L))
  (hK : ∀ x12 x13 x14 x15 x16 x17 x26 x27 x28 x29 x30 x31 x32 x33 h' nx' id ks G, KsOk lines.length ks G → G.Perm (kV lines most fr (to - fr)) → Hp h0 h' nx' (.map id (ks.map (entK (cntV G))) :: Lt on bx cells lines o (onC lines) L) → K (F89.fr x0 x1 (I to) (I most) x4 x5 (.sl on 0 cells (some cells) 1) x7 x8 x9 (.map id) (I to) x12 x13 x14 x15 x16 x17 x18 x19 x20 x21 x22 x23 x24 x25 x26 x27 x28 x29 x30 x31 x32 x33) h' nx' = .ok True) :
  IR.run F89.b16 (CS Tryz.prog B) N (fnO F89.res K0) K (F89.fr x0 x1 (I to) (I most) x4 x5 (.sl on 0 cells (some cells) 1) x7 x8 x9 (.map mid) (I fr) x12 x13 x14 x15 x16 x17 x18 x19 x20 x21 x22 x23 x24 x25 x26 x27 x28 x29 x30 x31 x32 x33) h nx = .ok True := by
 refine F89.L16 (fun m' x10 x11 h' nx' => ∃ (c : Nat) (mid : Pa) (ks G : List Key), x10 = .map mid ∧ x11 = I c ∧ to - c = m' ∧ fr ≤ c ∧ c ≤ to ∧ KsOk lines.length ks G ∧ G.Perm (kV lines most fr (c - fr)) ∧ Hp h0 h' nx' (.map mid (ks.map (entK (cntV G))) :: Lt on bx cells lines o (onC lines) L)) (m := to - fr) (by omega)
  ⟨fr, mid, [List.replicate lines.length 0], [List.replicate lines.length 0], rfl, rfl, rfl, Nat.le_refl _, hfr, ⟨by simp, by simp, by simp⟩, by rw [Nat.sub_self]; exact .refl _, H⟩ ?_
 rintro m' z10 z11 z12 z13 z14 z15 z16 z17 z26 z27 z28 z29 z30 z31 z32 z33 h1 nx1 R ⟨c, mid1, ks1, G1, rfl, rfl, rfl, hc1, hc2, O1, hp1, H1⟩ hR
 simp (disch := omega) only [sAdd, sSub, sMul, sEql, sNeq, sLss, sLeq, sGtr, sGeq, zI, zK, zC, zA, yJ, yN, yO, yP, zV, yE, yB, yU, yI, yH, yG, zF, zS, zJ, zB, decide_true, decide_false, Bool.not_true, Bool.not_false, yA]
 by_cases hlt : c < to
 case neg =>
  simp only [show ¬ (c : Int) < (to : Int) by omega, decide_false, zA]
  obtain rfl : c = to := by omega
  exact hK _ _ _ _ _ _ _ _ _ _ _ _ _ _ _ _ _ _ _ O1 hp1 H1
 simp only [show (c : Int) < (to : Int) by omega, decide_true, zC]
 refine H1.mkmap fun nid h2 nx2 H2 => ?_
 refine H2.range (k := 1) rfl fun it h3 nx3 H3 => ?_
 have hlen : G1.length ≤ 1000000 := by
  rw [hp1.length_eq, u9]
  exact Nat.le_trans (Nat.pow_le_pow_right (by omega) (by omega)) hpow
 have hkl : ks1.length ≤ G1.length := by
  have h1 := (vI ks1 G1 O1.nd O1.mem).length_eq
  rw [← h1, List.length_flatMap]
  have : ∀ l : List Key, (∀ y ∈ l, y ∈ G1) → l.length ≤ (l.map fun x => (List.replicate (G1.count x) x).length).sum := by
   intro l
   induction l with
   | nil => simp
   | cons a l ih =>
    intro h
    have h2 := ih fun y hy => h y (by simp [hy])
    have h3 : 1 ≤ G1.count a := List.count_pos_iff.2 (h a (by simp))
    simp only [List.map_cons, List.sum_cons, List.length_cons, List.length_replicate] at h2 ⊢
    omega
  exact this ks1 fun y hy => (O1.mem y).1 hy
 refine F89.ents (c := c) (o := o) (bx := bx) (L := L) hN hm hD hmost hlen O1 (by omega) (by omega) H3 fun y13 y14 y15 y16 y17 y28 y29 y30 y31 y32 y33 h4 nx4 ks2 G2 O2 hp2 H4 => ?_
 rw [F89.k42, F89.k43, sAdd (by omega)]
 refine hR (to - (c + 1)) _ _ _ _ _ _ _ _ _ _ _ _ _ _ _ _ _ _ (by omega) ⟨c + 1, nid, ks2, G2, rfl, rfl, rfl, by omega, by omega, O2, ?_, H4.swap.drop⟩
 rw [show c + 1 - fr = (c - fr) + 1 by omega, kV, show fr + (c - fr) = c by omega]
 exact hp2.trans (hp1.flatMap_right _)
theorem tally89 {h0 h : T Blk} {nx : Pa} {L : List Ob} {lines : List (List Int)} {most fr to cells : Nat} {p : Pa} {K : Kw Prop} (hm : lines.length ≤ 128) (hw : ∀ l ∈ lines, l.length ≤ 1000) (hl : ∀ l ∈ lines, ∀ c ∈ l, 0 ≤ c ∧ c < (cells : Int)) (hmost : most ≤ 1000) (hfr : fr ≤ to) (hto : to ≤ cells) (hcl : cells ≤ 1000000) (hpow : (most + 1) ^ (to - fr) ≤ 1000000) (H : Hp h0 h nx L)
  (hK : ∀ h' nx' id ks G, KsOk lines.length ks G → G.Perm (kV lines most fr (to - fr)) → Hp h0 h' nx' (.map id (ks.map (entK (cntV G))) :: L) → K (.map id) h' nx' = .ok True) :
  (CS Tryz.prog B).fn 89 p [.agg [I cells, encT lines], I fr, I to, I most] h nx K = .ok True := by
 have hD : ∀ c, (onC lines c).length ≤ 1000000 := fun c => by
  have : ∀ i, i ≤ lines.length → (onP lines i c).length ≤ i * 1000 := by
   intro i
   induction i with
   | zero => intro _; simp [onP]
   | succ i ih =>
    intro hi
    rw [onP_succ, List.length_append, List.length_map]
    have h2 := ih (by omega)
    have h3 : ((lines.getD i []).filter (· = (c : Int))).length ≤ 1000 := by
     refine Nat.le_trans (List.length_filter_le _ _) ?_
     rw [List.getD_eq_getElem?_getD, List.getElem?_eq_getElem (by omega)]
     exact hw _ (List.getElem_mem _)
    omega
  have h9 := this _ (Nat.le_refl _)
  clear this
  show (onP lines lines.length c).length ≤ _
  omega
 refine yS (p := .of 89) (K := K) (zP zT dreg 1000000000 fun hf => ?_) fun _ _ _ _ q => q
 rw [F89.go]
 refine H.box (l := [I cells, encT lines]) rfl fun bx h1 nx1 H1 => ?_
 rw [sFx, H1.load (k := 0) (i := 0) rfl rfl]
 refine H1.mk1 cells rfl rfl hcl (by decide) fun on h2 nx2 H2 => ?_
 rw [sFx, H2.load (k := 1) (i := 0 + 1) rfl rfl]
 simp (disch := omega) only [sAdd, sSub, sMul, sEql, sNeq, sLss, sLeq, sGtr, sGeq, zI, zK, zC, zA, yJ, yN, yO, yP, zV, yE, yB, yU, yI, yH, yG, zF, zS, zJ, zB, decide_true, decide_false, Bool.not_true, Bool.not_false, yA]
 refine F89.on (by decide) hm hw hl H2 fun y7 y8 y9 y20 y21 y22 y23 y24 y25 h3 nx3 o H3 => ?_
 rw [F89.k15]
 refine H3.mkmap fun mid h4 nx4 H4 => ?_
 have hz : encK (List.replicate lines.length 0) = .agg (List.replicate 128 (u8 0)) := by rw [encK, bF hm]
 have hb : ∀ (z : List AV) (op : AV → OP), gB z [] op = op (.agg z) := fun z op => rfl
 rw [hb]
 have hz2 : AV.agg (List.replicate 128 (u8 0)) = encK (List.replicate lines.length 0) := hz.symm
 refine Eq.trans (b := p8 (.agg 128) (.map mid) (AV.agg (List.replicate 128 (u8 0))) (I 1) h4 nx4 _) rfl ?_
 rw [hz2]
 refine H4.mapFirst (m := lines.length) hm (by simp) (k := 0) rfl fun h5 H5 => ?_
 refine F89.cells (o := o) (by decide) hm hD hmost hfr hto hcl hpow H5 fun y12 y13 y14 y15 y16 y17 y26 y27 y28 y29 y30 y31 y32 y33 h6 nx6 id ks G O6 hp6 H6 => ?_
 rw [F89.k44]
 exact hK _ _ _ _ _ O6 hp6 (Hp.dropMid (A := .arr on _ :: .arr bx _ :: rowL cells _) H6)
end Go.Ev
namespace Go.Ev
open Go Go.Proofs
variable {B : Nat}
theorem tallyT_lt (lines : List (List Int)) (most fr : Nat) : ∀ n, ∀ y ∈ kV lines most fr n, ∀ v ∈ y, v < 256
 | 0, y, h, v, hv => by
  rw [List.mem_singleton.1 h] at hv
  rw [(List.mem_replicate.1 hv).2]; decide
 | n + 1, y, h, v, hv => by
  simp only [kV, List.mem_flatMap, List.mem_map] at h
  obtain ⟨x, hx, k, _, rfl⟩ := h
  have ih := tallyT_lt lines most fr n x hx
  have : ∀ (idx : List Nat) (y : List Nat), (∀ v ∈ y, v < 256) → ∀ v ∈ addL y idx k, v < 256 := by
   intro idx
   induction idx with
   | nil => exact fun y h => h
   | cons i l ih2 =>
    intro y h
    refine ih2 _ fun v hv => ?_
    rcases List.mem_or_eq_of_mem_set hv with q | rfl
    ·exact h v q
    ·omega
  exact this _ _ ih v hv
def fB (sum : Nat) (G : List Key) (x : Key) : Nat := if x.all (fun v => decide (v ≤ sum)) then G.count (x.map fun v => sum - v) else 0
def bsum (lines : List (List Int)) (most sum half cells : Nat) : Nat := ((kV lines most 0 half).map (fB sum (kV lines most half (cells - half)))).sum
theorem sum_perm {α : Type} {l l' : List α} (f : α → Nat) (h : l.Perm l') : (l.map f).sum = (l'.map f).sum := by
 induction h with
 | nil => rfl
 | cons a _ ih => simp [ih]
 | swap a b l => simp; omega
 | trans _ _ h1 h2 => exact h1.trans h2
theorem sum_flat {f : Key → Nat} {G : List Key} : ∀ (l : List Key), ((l.flatMap fun x => List.replicate (G.count x) x).map f).sum = (l.map fun x => G.count x * f x).sum
 | [] => rfl
 | a :: l => by
  rw [List.flatMap_cons, List.map_append, List.sum_append, sum_flat l, List.map_cons, List.sum_cons]
  congr 1
  rw [List.map_replicate, List.sum_replicate_nat]
theorem sum_keys {f : Key → Nat} {ks G : List Key} {m : Nat} (O : KsOk m ks G) : (ks.map fun x => G.count x * f x).sum = (G.map f).sum := by
 rw [← sum_flat, sum_perm f (vI ks G O.nd O.mem)]
theorem fB_perm {sum : Nat} {G G' : List Key} (h : G.Perm G') : fB sum G = fB sum G' := by
 funext x; simp only [fB]; rw [h.count_eq]
theorem fB_le {sum : Nat} {G : List Key} {x : Key} : fB sum G x ≤ G.length := by
 unfold fB; split
 ·exact List.count_le_length
 ·omega
theorem sConv_i64 {k : IntKind} {x : Nat} {K : AV → OP} (h : x ≤ 1000000) : mY .i64 (.int k (x : Int)) K = K (I x) := by
 show intK (kK .i64 (x : Int)) (fun z => K (.int .i64 z)) = _
 rw [uH, dY, uU (by omega)]
theorem sSub_u8 {x y : Nat} {K : AV → OP} (h : y ≤ x) (hx : x < 256) : sBin .sub .int (u8 x) (u8 y) K = K (u8 (x - y)) := by
 rw [sSubW, IntKind.wrap_u8]
 have : u8 (x - y) = .int .u8 (((x : Int) - (y : Int)) % 256) := by unfold u8; congr 1; omega
 rw [this]
theorem F31.rest {N : Nat} {K0 : Kw Prop} {E0 E1 K : Ks Prop} {h0 h : T Blk} {nx : Pa} {L : List Ob} {x0 x1 x3 x4 x5 x6 x7 x8 x9 x11 x13 x14 x15 x16 x17 x18 x21 x22 : AV} {xb rb : Pa} {x : Key} {sum m : Nat} (hN : 1000 < N) (hm : m ≤ 128) (hx : x.length = m) (hv : ∀ v ∈ x, v < 256) {s : Int} (hs : m = 0 ∨ (s = sum ∧ sum ≤ 255))
  (H : Hp h0 h nx (.arr rb (jD (List.replicate m 0)) :: .arr xb (jD x) :: L))
  (hno : ∀ x13 x20 x21 x22 h' nx', ¬ x.all (fun v => decide (v ≤ sum)) = true → Hp h0 h' nx' L → E1 (F31.fr x0 x1 (I s) x3 x4 x5 x6 x7 x8 x9 (.ptr xb 0) x11 (.ptr rb 0) x13 x14 x15 x16 x17 x18 (I m) x20 x21 x22) h' nx' = .ok True)
  (hK : ∀ x13 x20 x21 x22 h' nx', x.all (fun v => decide (v ≤ sum)) = true → Hp h0 h' nx' (.arr rb (jD (x.map fun v => sum - v)) :: .arr xb (jD x) :: L) → K (F31.fr x0 x1 (I s) x3 x4 x5 x6 x7 x8 x9 (.ptr xb 0) x11 (.ptr rb 0) x13 x14 x15 x16 x17 x18 (I m) x20 x21 x22) h' nx' = .ok True) :
  IR.run F31.b9 (CS Tryz.prog B) N (((fnO F31.res K0).blk 0 E0).blk 1 E1) K (F31.fr x0 x1 (I s) x3 x4 x5 x6 x7 x8 x9 (.ptr xb 0) x11 (.ptr rb 0) x13 x14 x15 x16 x17 x18 (I m) (I 0) x21 x22) h nx = .ok True := by
 refine F31.L9 (fun m' x20 h' nx' => ∃ j : Nat, x20 = I j ∧ m - j = m' ∧ j ≤ m ∧ (x.take j).all (fun v => decide (v ≤ sum)) = true ∧ Hp h0 h' nx' (.arr rb (jD ((x.take j).map (fun v => sum - v) ++ List.replicate (m - j) 0)) :: .arr xb (jD x) :: L)) (m := m) (by omega) ⟨0, rfl, rfl, by omega, rfl, H⟩ ?_
 rintro m' z13 z20 z21 z22 h1 nx1 R ⟨j, rfl, rfl, hj, hall, H1⟩ hR
 simp (disch := omega) only [sAdd, sSub, sMul, sEql, sNeq, sLss, sLeq, sGtr, sGeq, zI, zK, zC, zA, yJ, yN, yO, yP, zV, yE, yB, yU, yI, yH, yG, zF, zS, zJ, zB, decide_true, decide_false, Bool.not_true, Bool.not_false, yA]
 by_cases hlt : j < m
 case neg =>
  simp only [show ¬ (j : Int) < (m : Int) by omega, decide_false, zA]
  obtain rfl : j = m := by omega
  rw [List.take_of_length_le (by omega)] at hall H1
  exact hK _ _ _ _ _ _ hall (H1.cast (by simp))
 simp only [show (j : Int) < (m : Int) by omega, decide_true, zC]
 have hjx : j < x.length := by omega
 have hxj : x[j]? = some x[j] := List.getElem?_eq_getElem hjx
 have hv1 := hv _ (List.getElem_mem hjx)
 obtain ⟨rfl, hs'⟩ := hs.resolve_left (by omega)
 rw [sAx (i := j) rfl (by omega), H1.load (k := 1) rfl (dS hxj), sConv_i64 (by omega)]
 simp (disch := omega) only [sAdd, sSub, sMul, sEql, sNeq, sLss, sLeq, sGtr, sGeq, zI, zK, zC, zA, yJ, yN, yO, yP, zV, yE, yB, yU, yI, yH, yG, zF, zS, zJ, zB, decide_true, decide_false, Bool.not_true, Bool.not_false, yA]
 by_cases hle : x[j] ≤ sum
 case neg =>
  simp only [show (sum : Int) < (x[j] : Int) by omega, decide_true, zC]
  refine hno _ _ _ _ _ _ (fun q => ?_) H1.drop.drop
  have := List.all_eq_true.1 q _ (List.getElem_mem hjx)
  exact hle (of_decide_eq_true this)
 simp only [show ¬ (sum : Int) < (x[j] : Int) by omega, decide_false, zA]
 have hlen : ((x.take j).map (fun v => sum - v) ++ List.replicate (m - j) 0).length = m := by simp; omega
 rw [sConv_u8, Nat.mod_eq_of_lt (show sum < 256 by omega), sAx (i := j) rfl (by omega), H1.load (k := 1) rfl (dS hxj), sSub_u8 hle (by omega), sAx (i := j) rfl (by omega)]
 refine H1.store (k := 0) rfl (by rw [jP (by omega)]; omega) rfl fun h2 H2 => ?_
 refine hR (m - (j + 1)) _ _ _ _ _ _ (by omega) ⟨j + 1, by congr 1, rfl, by omega, ?_, H2.cast ?_⟩
 ·rw [List.take_add_one, hxj, List.all_append, hall]
  simp [hle]
 ·rw [List.set_cons_zero, cellsK_set (by omega), List.take_add_one, hxj]
  congr 3
  rw [List.set_append_right _ _ (by simp; omega)]
  have e : m - j = (m - (j + 1)) + 1 := by omega
  have e2 : j - ((x.take j).map fun v => sum - v).length = 0 := by simp; omega
  rw [e, e2, List.replicate_succ, List.set_cons_zero]
  simp only [Option.toList_some, List.map_append, List.map_cons, List.map_nil, List.append_assoc, List.cons_append, List.nil_append]
theorem sum_len {α : Type} {f : α → Nat} {M : Nat} : ∀ (l : List α), (∀ i ∈ l, f i ≤ M) → (l.map f).sum ≤ l.length * M
 | [], _ => by simp
 | a :: l, h => by
  have h1 := h a (by simp)
  have h2 := sum_len l fun i hi => h i (by simp [hi])
  rw [List.map_cons, List.sum_cons, List.length_cons, Nat.add_mul]; omega
abbrev d6 (ks GL GR : List Key) (sum i : Nat) : Nat := GL.count (ks.getD i []) * fB sum GR (ks.getD i [])
theorem F31.meet {N : Nat} {K0 : Kw Prop} {K : Ks Prop} {h0 h : T Blk} {nx : Pa} {L : List Ob} {x0 x1 x4 x5 x6 x7 x10 x11 x12 x13 x14 x15 x16 x18 x19 x20 x21 x22 : AV} {it lid rid bx : Pa} {lines : List (List Int)} {ksL GL ksR GR : List Key} {sum cells : Nat} {s : Int} (hN : 100000000 < N) (hm : lines.length ≤ 128) (hs : lines.length = 0 ∨ (s = sum ∧ sum ≤ 255)) (OL : KsOk lines.length ksL GL) (OR : KsOk lines.length ksR GR) (hL : GL.length ≤ 1000000) (hR0 : GR.length ≤ 1000000) (hkl : ksL.length ≤ 1000000) (hlt : ∀ y ∈ GL, ∀ v ∈ y, v < 256)
  (H : Hp h0 h nx (.iter it lid (ksL.map (entK (cntV GL))).length [] (ksL.map (entK (cntV GL))).length :: .map lid (ksL.map (entK (cntV GL))) :: .map rid (ksR.map (entK (cntV GR))) :: .arr bx [I cells, encT lines] :: L))
  (hK : ∀ x10 x11 x12 x13 x18 x19 x20 x21 x22 h' nx' L', Hp h0 h' nx' L' → K (F31.fr x0 x1 (I s) (.ptr bx 0) x4 x5 x6 x7 (.map rid) (I ((GL.map (fB sum GR)).sum : Nat)) x10 x11 x12 x13 x14 x15 x16 (.ptr it 0) x18 x19 x20 x21 x22) h' nx' = .ok True) :
  IR.run F31.b4 (CS Tryz.prog B) N (fnO F31.res K0) K (F31.fr x0 x1 (I s) (.ptr bx 0) x4 x5 x6 x7 (.map rid) (I 0) x10 x11 x12 x13 x14 x15 x16 (.ptr it 0) x18 x19 x20 x21 x22) h nx = .ok True := by
 refine F31.L4 (fun m' x9 h' nx' => ∃ (seen : List Nat), x9 = I ((seen.map (d6 ksL GL GR sum)).sum : Nat) ∧ (gY ksL.length seen).length = m' ∧ seen.length + m' = ksL.length ∧ seen.Nodup ∧ (∀ i ∈ seen, i < ksL.length) ∧
  Hp h0 h' nx' (.iter it lid (ksL.map (entK (cntV GL))).length seen (ksL.map (entK (cntV GL))).length :: .map lid (ksL.map (entK (cntV GL))) :: .map rid (ksR.map (entK (cntV GR))) :: .arr bx [I cells, encT lines] :: L)) (m := ksL.length) (by omega) ⟨[], rfl, by (have e : gY ksL.length [] = List.range ksL.length := List.filter_eq_self.2 (by simp)); rw [e]; simp, by simp, by simp, by simp, H⟩ ?_
 rintro m' z9 z10 z11 z12 z13 z18 z19 z20 z21 z22 h1 nx1 R ⟨seen, rfl, rfl, hsl, hnd, hse, H1⟩ hR
 refine H1.next (k := 0) (j := 1) rfl rfl (fun hall => ?_) fun i a b h2 hi hns hab H2 => ?_
 ·simp (disch := omega) only [sAdd, sSub, sMul, sEql, sNeq, sLss, sLeq, sGtr, sGeq, zI, zK, zC, zA, yJ, yN, yO, yP, zV, yE, yB, yU, yI, yH, yG, zF, zS, zJ, zB, decide_true, decide_false, Bool.not_true, Bool.not_false, yA]
  have hsp := seen_perm hnd hse fun i hi => hall i (by simpa using hi)
  have e : (seen.map (d6 ksL GL GR sum)).sum = (GL.map (fB sum GR)).sum := by
   rw [sum_perm _ hsp, ← sum_keys OL]
   have : ksL = (List.range ksL.length).map fun i => ksL.getD i [] := rowL_self ksL []
   conv => rhs; rw [this]
   rw [List.map_map]
   rfl
  rw [e]
  exact hK _ _ _ _ _ _ _ _ _ _ _ _ H1
 ·have hi' : i < ksL.length := by simpa using hi
  obtain ⟨x, hx⟩ : ∃ x, ksL[i]? = some x := ⟨_, List.getElem?_eq_getElem hi'⟩
  have hxm := List.mem_of_getElem? hx
  rw [List.getElem?_map, hx] at hab
  obtain ⟨rfl, rfl⟩ : encK x = a ∧ cntV GL x = b := by simpa [entK] using hab
  have hgx : ksL.getD i [] = x := by rw [List.getD_eq_getElem?_getD, hx]; rfl
  have hxl := OL.klen x hxm
  have hcx2 : GL.count x ≤ GL.length := List.count_le_length
  simp (disch := omega) only [sAdd, sSub, sMul, sEql, sNeq, sLss, sLeq, sGtr, sGeq, zI, zK, zC, zA, yJ, yN, yO, yP, zV, yE, yB, yU, yI, yH, yG, zF, zS, zJ, zB, decide_true, decide_false, Bool.not_true, Bool.not_false, yA]
  have hent : (ksL.map (entK (cntV GL)))[i]? = some (encK x, cntV GL x) := by rw [List.getElem?_map, hx]; rfl
  rw [H2.entry (k := 0) (j := 1) rfl rfl hent]
  simp (disch := omega) only [sAdd, sSub, sMul, sEql, sNeq, sLss, sLeq, sGtr, sGeq, zI, zK, zC, zA, yJ, yN, yO, yP, zV, yE, yB, yU, yI, yH, yG, zF, zS, zJ, zB, decide_true, decide_false, Bool.not_true, Bool.not_false, yA]
  refine H2.alloc fun xb h3 nx3 H3 => ?_
  refine H3.storeN (k := 0) rfl rfl (jP (by omega)) fun h4 H4 => ?_
  refine H4.alloc fun rb h5 nx5 H5 => ?_
  rw [sFx, H5.load (k := 5) (i := 0 + 1) rfl rfl]
  simp (disch := omega) only [sAdd, sSub, sMul, sEql, sNeq, sLss, sLeq, sGtr, sGeq, zI, zK, zC, zA, yJ, yN, yO, yP, zV, yE, yB, yU, yI, yH, yG, zF, zS, zJ, zB, decide_true, decide_false, Bool.not_true, Bool.not_false, yA]
  have hst := leftA_step hi' hns
  have hterm : d6 ksL GL GR sum i = GL.count x * fB sum GR x := by rw [d6, hgx]
  have hb : ∀ j ∈ seen, d6 ksL GL GR sum j ≤ 1000000 * 1000000 := fun j _ => Nat.mul_le_mul (Nat.le_trans List.count_le_length hL) (Nat.le_trans fB_le hR0)
  have hfl := sum_len seen hb
  have hsl2 : seen.length * (1000000 * 1000000) ≤ 1000000 * (1000000 * 1000000) := Nat.mul_le_mul_right _ (by omega)
  have hres : ∀ (v : Nat) (hv : v = d6 ksL GL GR sum i) (h' : T Blk) (w10 w11 w12 w13 w18 w19 w20 w21 w22 : AV) (nx' : Pa), Hp h0 h' nx' (.iter it lid (ksL.map (entK (cntV GL))).length (i :: seen) (ksL.map (entK (cntV GL))).length :: .map lid (ksL.map (entK (cntV GL))) :: .map rid (ksR.map (entK (cntV GR))) :: .arr bx [I cells, encT lines] :: L) →
    R (F31.fr x0 x1 (I s) (.ptr bx 0) x4 x5 x6 x7 (.map rid) (I (((seen.map (d6 ksL GL GR sum)).sum : Nat) + (v : Int))) w10 w11 w12 w13 x14 x15 x16 (.ptr it 0) w18 w19 w20 w21 w22) h' nx' = .ok True := by
   rintro v rfl h' w10 w11 w12 w13 w18 w19 w20 w21 w22 nx' H'
   refine hR _ _ _ _ _ _ _ _ _ _ _ _ _ (by omega) ⟨i :: seen, ?_, rfl, by simp; omega, List.nodup_cons.2 ⟨hns, hnd⟩, fun j hj => ?_, H'⟩
   ·congr 1
    rw [List.map_cons, List.sum_cons]; omega
   ·rcases List.mem_cons.1 hj with rfl | q
    ·exact hi'
    ·exact hse j q
  have H6 : Hp h0 h5 nx5 (.arr rb (jD (List.replicate lines.length 0)) :: .arr xb (jD x) :: .iter it lid (ksL.map (entK (cntV GL))).length (i :: seen) (ksL.map (entK (cntV GL))).length :: .map lid (ksL.map (entK (cntV GL))) :: .map rid (ksR.map (entK (cntV GR))) :: .arr bx [I cells, encT lines] :: L) := H5.cast (by rw [bF hm]; rfl)
  have hcm : ((GL.count x : Int) * ((fB sum GR x : Nat) : Int)) = ((d6 ksL GL GR sum i : Nat) : Int) := by rw [hterm, Int.natCast_mul]
  have htl : d6 ksL GL GR sum i ≤ 1000000 * 1000000 := by
   rw [hterm]; exact Nat.mul_le_mul (by omega) (Nat.le_trans fB_le hR0)
  refine F31.rest (m := lines.length) (x := x) (sum := sum) (by omega) hm hxl (hlt x ((OL.mem x).1 hxm)) hs H6 (fun y13 y20 y21 y22 h7 nx7 hall H7 => ?_) fun y13 y20 y21 y22 h7 nx7 hall H7 => ?_
  ·have := hres 0 (by rw [hterm, fB, if_neg hall]; simp) h7 (.ptr xb 0) (cntV GL x) (.ptr rb 0) y13 (.bool true) (I lines.length) y20 y21 y22 nx7 H7
   simpa using this
  ·rw [F31.k17]
   have hrl : (x.map fun v => sum - v).length = lines.length := by rw [List.length_map]; exact hxl
   rw [H7.loadN (k := 0) rfl (jP (by omega))]
   have hlk := fun op => p9 (op := op) hm H7 (k := 4) (id := rid) rfl OR hrl
   refine Eq.trans (b := xE (.agg 128) (I 0) false (.map rid) (encK (x.map fun v => sum - v)) h7 _) rfl ?_
   rw [hlk]
   have hf : fB sum GR x = GR.count (x.map fun v => sum - v) := by rw [fB, if_pos hall]
   rw [cntV, cntV, ← hf, sMul (by omega), hcm, sAdd (by omega)]
   exact hres _ rfl h7 _ _ _ _ _ _ _ _ _ nx7 H7.drop.drop
end Go.Ev
namespace Go.Ev
open Go Go.Proofs
variable {B : Nat}
theorem half_q (n : Nat) : ((n : Int)).tdiv 2 = ((n / 2 : Nat) : Int) := by
 rw [Int.tdiv_eq_ediv_of_nonneg (by omega)]; omega
theorem sQuo2 {n : Nat} {K : AV → OP} (h : n ≤ 1000000) : sBin .quo .int (I (n : Int)) (I 2) K = K (I ((n / 2 : Nat) : Int)) := by
 have e : sBin .quo .int (I (n : Int)) (I 2) K = (bif ieq (2 : Int) 0 then Out.no 5 else intK (IntKind.wrap .i64 ((n : Int).tdiv 2)) fun z => K (.int .i64 z)) := rfl
 rw [e, show ieq (2 : Int) 0 = false from rfl, cond_false, uH, half_q, uU (by omega)]
theorem sG_undef (b : Bool) (op : (AV → OP) → OP) (K : AV → OP) : sG .undef b op K = K .undef := nr rfl
theorem bounded31 {lines : List (List Int)} {cells most : Nat} {s : Int} (hm : lines.length ≤ 128) (hw : ∀ l ∈ lines, l.length ≤ 1000) (hl : ∀ l ∈ lines, ∀ c ∈ l, 0 ≤ c ∧ c < (cells : Int)) (hcl : cells ≤ 16) (hmost : most ≤ 9) (hpow : (most + 1) ^ (cells - cells / 2) ≤ 1000000)
  (h87 : Pure Tryz.prog B 87 [.agg [I cells, encT lines], I most] (· = I 0)) (h88 : Pure Tryz.prog B 88 [I ((cells - cells / 2 : Nat) : Int), I most] (· = .bool false)) :
  Pure Tryz.prog B 31 [.agg [I cells, encT lines], I most, I s] (· = .tup [I (if 0 < lines.length ∧ (s < 0 ∨ 255 < s) then 0 else (bsum lines most s.toNat (cells / 2) cells : Nat)), I 0]) := by
 refine yX fun h nx K H0 hK => zP zT dreg 1000000000 fun hf => ?_
 rw [F31.go]
 refine H0.box (l := [I cells, encT lines]) rfl fun bx h1 nx1 H1 => ?_
 rw [H1.loadN (k := 0) (n := 2) rfl rfl]
 refine h87 _ _ _ _ ?_
 rintro _ rfl _
 simp (disch := omega) only [sAdd, sSub, sMul, sEql, sNeq, sLss, sLeq, sGtr, sGeq, zI, zK, zC, zA, yJ, yN, yO, yP, zV, yE, yB, yU, yI, yH, yG, zF, zS, zJ, zB, decide_true, decide_false, Bool.not_true, Bool.not_false, yA]
 rw [sFx, H1.load (k := 0) (i := 0) rfl rfl, sQuo2 (by omega), sFx, H1.load (k := 0) (i := 0) rfl rfl, sSub (by omega), show (cells : Int) - ((cells / 2 : Nat) : Int) = ((cells - cells / 2 : Nat) : Int) by omega]
 refine h88 _ _ _ _ ?_
 rintro _ rfl _
 rw [zA, sFx, H1.load (k := 0) (i := 0 + 1) rfl rfl]
 simp (disch := omega) only [sAdd, sSub, sMul, sEql, sNeq, sLss, sLeq, sGtr, sGeq, zI, zK, zC, zA, yJ, yN, yO, yP, zV, yE, yB, yU, yI, yH, yG, zF, zS, zJ, zB, decide_true, decide_false, Bool.not_true, Bool.not_false, yA]
 have ret : ∀ v : Int, v = (if 0 < lines.length ∧ (s < 0 ∨ 255 < s) then (0 : Int) else ((bsum lines most s.toNat (cells / 2) cells : Nat) : Int)) → ∀ h' nx' L, Hp h h' nx' L → K (.tup [I v, I 0]) h' nx' = .ok True := fun v hv h' nx' L H => by
  rw [hv]; exact hK _ _ _ L _ H (jG (zO rfl) (zO rfl)) rfl
 by_cases hz : 0 < lines.length ∧ (s < 0 ∨ 255 < s)
 ·rw [if_pos hz] at ret
  simp only [show (0 : Int) < (lines.length : Int) by omega, decide_true, yJ]
  by_cases hs0 : s < 0
  ·simp only [sLss, hs0, decide_true, yO, zI, zC]
   exact ret 0 rfl _ _ _ H1
  ·simp only [sLss, sGtr, hs0, show (255 : Int) < s by omega, decide_true, decide_false, yN, zI, zK, zC]
   exact ret 0 rfl _ _ _ H1
 rw [if_neg hz] at ret
 have fin : ∀ z5 z6 z14 z15 z16, IR.run F31.b3 (CS Tryz.prog B) 1000000000 (fnO F31.res K) (retK F31.res K) (F31.fr (.agg [I cells, encT lines]) (I most) (I s) (.ptr bx 0) (I 0) z5 z6 (I ((cells / 2 : Nat) : Int)) .undef .undef .undef .undef .undef .undef z14 z15 z16 .undef .undef .undef .undef .undef .undef) h1 nx1 = .ok True := by
  intro z5 z6 z14 z15 z16
  rw [F31.k3, H1.loadN (k := 0) (n := 2) rfl rfl, sFx, H1.load (k := 0) (i := 0) rfl rfl]
  refine tally89 (cells := cells) hm hw hl (by omega) (by omega) (Nat.le_refl _) (by omega) hpow H1 fun h2 nx2 rid ksR GR OR hpR H2 => ?_
  rw [H2.loadN (k := 1) (n := 2) rfl rfl]
  refine tally89 (fr := 0) (cells := cells) hm hw hl (by omega) (by omega) (by omega) (by omega) (by rw [Nat.sub_zero]; exact Nat.le_trans (Nat.pow_le_pow_right (by omega) (by omega)) hpow) H2 fun h3 nx3 lid ksL GL OL hpL H3 => ?_
  rw [Nat.sub_zero] at hpL
  refine H3.range (k := 0) rfl fun it h4 nx4 H4 => ?_
  have hLl : GL.length ≤ 1000000 := by
   rw [hpL.length_eq, u9]
   exact Nat.le_trans (Nat.pow_le_pow_right (by omega) (by omega)) hpow
  have hRl : GR.length ≤ 1000000 := by rw [hpR.length_eq, u9]; exact hpow
  have hkl : ksL.length ≤ GL.length := by
   have h1 := (vI ksL GL OL.nd OL.mem).length_eq
   rw [← h1, List.length_flatMap]
   have : ∀ l : List Key, (∀ y ∈ l, y ∈ GL) → l.length ≤ (l.map fun x => (List.replicate (GL.count x) x).length).sum := by
    intro l
    induction l with
    | nil => simp
    | cons a l ih =>
     intro h
     have h2 := ih fun y hy => h y (by simp [hy])
     have h3 : 1 ≤ GL.count a := List.count_pos_iff.2 (h a (by simp))
     simp only [List.map_cons, List.sum_cons, List.length_cons, List.length_replicate] at h2 ⊢
     omega
   exact this ksL fun y hy => (OL.mem y).1 hy
  refine F31.meet (sum := s.toNat) (cells := cells) (by decide) hm (by omega) OL OR hLl hRl (by omega) (fun y hy => tallyT_lt _ _ _ _ y (hpL.mem_iff.1 hy)) H4 fun w10 w11 w12 w13 w18 w19 w20 w21 w22 h5 nx5 L5 H5 => ?_
  rw [F31.k18]
  refine ret _ ?_ _ _ _ H5
  rw [sum_perm _ hpL, fB_perm hpR]; rfl
 by_cases hl0 : 0 < lines.length
 ·simp only [show (0 : Int) < (lines.length : Int) by omega, decide_true, yJ, sLss, sGtr, show ¬ s < 0 by omega, show ¬ (255 : Int) < s by omega, decide_false, yN, zI, zK, zA]
  exact fin _ _ _ _ _
 ·simp only [show ¬ (0 : Int) < (lines.length : Int) by omega, decide_false, yP, sG_undef, zK, zA]
  exact fin _ _ _ _ _
end Go.Ev
namespace Go.Ev
open Go Go.Proofs
variable {B : Nat}
theorem u7 (b : Bool) (e : Int) : Pure Tryz.prog B 123 [.bool b, I e] (· = I (if b then e else 0)) := by
 intro p h nx K hK
 refine zP zT dreg 9 fun hf => ?_
 rw [F123.go]
 cases b <;> simp (disch := omega) only [sAdd, sSub, sMul, sEql, sNeq, sLss, sLeq, sGtr, sGeq, zI, zK, zC, zA, yJ, yN, yO, yP, zV, yE, yB, yU, yI, yH, yG, zF, zS, zJ, zB, decide_true, decide_false, Bool.not_true, Bool.not_false, yA] <;> exact hK _ rfl hf
def jC : List Int → Int
 | [] => 0
 | e :: l => if e ≠ 0 then e else jC l
theorem kG : ∀ (l : List Int) (i : Nat), (∀ e ∈ l.take i, e = 0) → jC l = jC (l.drop i)
 | l, 0, _ => rfl
 | [], _ + 1, _ => rfl
 | e :: l, i + 1, h => by
  have h0 : e = 0 := h e (by simp)
  rw [jC, if_neg (by simp [h0]), List.drop_succ_cons]
  exact kG l i fun x hx => h x (by simp [hx])
theorem xR {l : List Int} (hl : l.length ≤ 1000000) : Pure Tryz.prog B 121 [encI l] (· = I (jC l)) := by
 intro p h nx K hK
 refine zP zT dreg 10000000 fun hf => ?_
 rw [F121.go]
 simp (disch := omega) only [sAdd, sSub, sMul, sEql, sNeq, sLss, sLeq, sGtr, sGeq, zI, zK, zC, zA, yJ, yN, yO, yP, zV, yE, yB, yU, yI, yH, yG, zF, zS, zJ, zB, decide_true, decide_false, Bool.not_true, Bool.not_false, yA]
 refine F121.L1 (fun m z5 h' nx' => ∃ i : Nat, z5 = I i ∧ l.length - i = m ∧ i ≤ l.length ∧ h' = h ∧ nx' = nx ∧ ∀ e ∈ l.take i, e = 0) (m := l.length) (by omega) ⟨0, rfl, rfl, by omega, rfl, rfl, by simp⟩ ?_
 rintro m z1 z2 z5 z6 z7 _ _ R ⟨i, rfl, rfl, hi, rfl, rfl, htk⟩ hR
 simp (disch := omega) only [sAdd, sSub, sMul, sEql, sNeq, sLss, sLeq, sGtr, sGeq, zI, zK, zC, zA, yJ, yN, yO, yP, zV, yE, yB, yU, yI, yH, yG, zF, zS, zJ, zB, decide_true, decide_false, Bool.not_true, Bool.not_false, yA]
 by_cases hlt : i < l.length
 ·simp only [show (i : Int) < (l.length : Int) by omega, decide_true, zC]
  have hx : l[i]? = some l[i] := List.getElem?_eq_getElem hlt
  rw [sIxL rfl hlt, ldL (getI hx)]
  simp (disch := omega) only [sAdd, sSub, sMul, sEql, sNeq, sLss, sLeq, sGtr, sGeq, zI, zK, zC, zA, yJ, yN, yO, yP, zV, yE, yB, yU, yI, yH, yG, zF, zS, zJ, zB, decide_true, decide_false, Bool.not_true, Bool.not_false, yA]
  have hd : l.drop i = l[i] :: l.drop (i + 1) := List.drop_eq_getElem_cons hlt
  by_cases h0 : l[i] = 0
  ·simp only [h0, decide_true, Bool.not_true, zA]
   refine hR _ _ _ _ _ _ _ _ (by omega) ⟨i + 1, rfl, rfl, by omega, rfl, rfl, fun e he => ?_⟩
   rw [List.take_add_one, hx] at he
   rcases List.mem_append.1 he with q | q
   ·exact htk e q
   ·simp at q; rw [q]; exact h0
  ·simp only [h0, decide_false, Bool.not_false, zC]
   refine hK _ ?_ hf
   rw [kG l i htk, hd, jC, if_pos h0]
 ·simp only [show ¬ (i : Int) < (l.length : Int) by omega, decide_false, zA]
  rw [F121.k8]
  refine hK _ ?_ hf
  rw [kG l i htk, List.drop_of_length_le (by omega)]; rfl
theorem equal150 {a b : List Int} (ha : a.length ≤ 1000000000) : Pure Tryz.prog B 150 [encI a, encI b] (· = .bool (decide (a = b))) := by
 intro p h nx K hK
 refine zP zT dreg (a.length + 2) fun hf => ?_
 rw [F150.go]
 simp (disch := omega) only [sAdd, sSub, sMul, sEql, sNeq, sLss, sLeq, sGtr, sGeq, zI, zK, zC, zA, yJ, yN, yO, yP, zV, yE, yB, yU, yI, yH, yG, zF, zS, zJ, zB, decide_true, decide_false, Bool.not_true, Bool.not_false, yA]
 by_cases hl : a.length = b.length
 ·simp only [hl, decide_true, Bool.not_true, zA]
  refine F150.L2 (fun m z6 h' nx' => ∃ i : Nat, z6 = I i ∧ a.length - i = m ∧ i ≤ a.length ∧ h' = h ∧ nx' = nx ∧ a.take i = b.take i) (m := a.length) (by omega) ⟨0, rfl, by simp, by omega, rfl, rfl, by simp⟩ ?_
  rintro m z2 z3 z6 z7 z8 _ _ R ⟨i, rfl, rfl, hi, rfl, rfl, htk⟩ hR
  simp (disch := omega) only [sAdd, sSub, sMul, sEql, sNeq, sLss, sLeq, sGtr, sGeq, zI, zK, zC, zA, yJ, yN, yO, yP, zV, yE, yB, yU, yI, yH, yG, zF, zS, zJ, zB, decide_true, decide_false, Bool.not_true, Bool.not_false, yA]
  by_cases hlt : i < a.length
  ·have hb : i < b.length := by omega
   simp only [show (i : Int) < (b.length : Int) by omega, decide_true, zC]
   rw [sIxL rfl hlt, ldL (getI (List.getElem?_eq_getElem hlt)), sIxL rfl hb, ldL (getI (List.getElem?_eq_getElem hb))]
   simp (disch := omega) only [sAdd, sSub, sMul, sEql, sNeq, sLss, sLeq, sGtr, sGeq, zI, zK, zC, zA, yJ, yN, yO, yP, zV, yE, yB, yU, yI, yH, yG, zF, zS, zJ, zB, decide_true, decide_false, Bool.not_true, Bool.not_false, yA]
   by_cases he : a[i] = b[i]
   ·simp only [he, decide_true, Bool.not_true, zA]
    refine hR (a.length - (i + 1)) _ _ _ _ _ _ _ (by omega) ⟨i + 1, rfl, rfl, by omega, rfl, rfl, ?_⟩
    rw [List.take_add_one, List.take_add_one, htk, List.getElem?_eq_getElem hlt, List.getElem?_eq_getElem hb, he]
   ·simp only [he, decide_false, Bool.not_false, zC]
    refine hK _ ?_ hf
    rw [decide_eq_false]
    rintro rfl
    exact he rfl
  ·simp only [show ¬ (i : Int) < (b.length : Int) by omega, decide_false, zA]
   rw [F150.k9]
   refine hK _ ?_ hf
   rw [List.take_of_length_le (by omega), List.take_of_length_le (by omega)] at htk
   rw [decide_eq_true htk]
 ·have h1 : ¬ (a.length : Int) = b.length := by omega
  simp only [h1, decide_false, Bool.not_false, zC]
  refine hK _ ?_ hf
  rw [decide_eq_false]
  rintro rfl; exact hl rfl
theorem contains148 {h0 h : T Blk} {nx : Pa} {L : List Ob} {k : Nat} {x p : Pa} {l : List Int} {prev : List (List Int)} {K : Kw Prop} (H : Hp h0 h nx L) (hk : L[k]? = some (.arr x [encI l])) (hp : prev.length ≤ 1000000) (hw : ∀ q ∈ prev, q.length ≤ 1000000)
  (hK : K (.bool (decide (l ∈ prev))) h nx = .ok True) : (CS Tryz.prog B).fn 148 p [encT prev, .fn 149 (.of 149) [.ptr x 0]] h nx K = .ok True := by
 refine yS (p := .of 148) (K := K) (zP zT dreg 9 fun hf => ?_) fun _ _ _ _ q => q
 rw [F148.go]
 refine yS (p := .of 172) (K := fun v1 h2 n3 => sBin .geq .int v1 (I 0) fun v4 => K v4 h2 n3) (zP zT dreg 10000000 fun hf => ?_) fun _ _ _ _ q => q
 rw [F172.go]
 simp (disch := omega) only [sAdd, sSub, sMul, sEql, sNeq, sLss, sLeq, sGtr, sGeq, zI, zK, zC, zA, yJ, yN, yO, yP, zV, yE, yB, yU, yI, yH, yG, zF, zS, zJ, zB, decide_true, decide_false, Bool.not_true, Bool.not_false, yA]
 refine F172.L1 (fun m z5 h' nx' => ∃ i : Nat, z5 = I i ∧ prev.length - i = m ∧ i ≤ prev.length ∧ h' = h ∧ nx' = nx ∧ l ∉ prev.take i) (m := prev.length) (by omega) ⟨0, rfl, rfl, by omega, rfl, rfl, by simp⟩ ?_
 rintro m z2 z3 z5 z6 z7 _ _ R ⟨i, rfl, rfl, hi, rfl, rfl, htk⟩ hR
 simp (disch := omega) only [sAdd, sSub, sMul, sEql, sNeq, sLss, sLeq, sGtr, sGeq, zI, zK, zC, zA, yJ, yN, yO, yP, zV, yE, yB, yU, yI, yH, yG, zF, zS, zJ, zB, decide_true, decide_false, Bool.not_true, Bool.not_false, yA]
 by_cases hlt : i < prev.length
 ·simp only [show (i : Int) < (prev.length : Int) by omega, decide_true, zC]
  have hx : prev[i]? = some prev[i] := List.getElem?_eq_getElem hlt
  rw [sIxL rfl hlt, ldL (getT hx), d9]
  refine yS (p := .of 149) (zP zT dreg 9 fun hf => ?_) fun _ _ _ _ q => q
  show zR tbl 9 _ (Pa.of 149) [encI prev[i], .ptr x 0] _ _ _ = _
  rw [F149.go, H.load (k := k) (i := 0) hk rfl]
  refine equal150 (Nat.le_trans (hw _ (List.getElem_mem hlt)) (by omega)) _ _ _ _ ?_
  rintro _ rfl _
  by_cases he : prev[i] = l
  ·simp only [he, decide_true, zC, sGeq, show (0 : Int) ≤ (i : Int) by omega]
   rw [decide_eq_true (he ▸ List.getElem_mem hlt)] at hK
   exact hK
  ·simp only [he, decide_false, zA]
   refine hR _ _ _ _ _ _ _ _ (by omega) ⟨i + 1, rfl, rfl, by omega, rfl, rfl, fun q => ?_⟩
   rw [List.take_add_one, hx] at q
   rcases List.mem_append.1 q with q | q
   ·exact htk q
   ·simp at q; exact he q.symm
 ·simp only [show ¬ (i : Int) < (prev.length : Int) by omega, decide_false, zA]
  rw [F172.k8]
  rw [List.take_of_length_le (by omega)] at htk
  rw [decide_eq_false htk] at hK
  simp only [sGeq, show ¬ (0 : Int) ≤ -1 by omega, decide_false]
  exact hK
end Go.Ev
namespace Go.Ev
open Go Go.Proofs
variable {B : Nat}
def jQ (cells : Int) : Option Int → List Int → Int
 | _, [] => 0
 | p, c :: l => if c < 0 ∨ cells ≤ c then 10 else if p.any (fun q => decide (c ≤ q)) then 11 else jQ cells (some c) l
def gH (cells : Int) (prev : List (List Int)) (l : List Int) : Int := if l = [] then 12 else if jQ cells none l ≠ 0 then jQ cells none l else if l ∈ prev then 9 else 0
def uM (cells : Int) : List (List Int) → List (List Int) → Int
 | _, [] => 0
 | prev, l :: r => if gH cells prev l ≠ 0 then gH cells prev l else uM cells (prev ++ [l]) r
def jW (cells : Int) (lines : List (List Int)) : Int := if cells < 1 ∨ 256 < cells then 3 else if 128 < lines.length then 5 else uM cells [] lines
def pv (l : List Int) (k : Nat) : Option Int := if k = 0 then none else l[k - 1]?
theorem pv_succ {l : List Int} {k : Nat} (h : k < l.length) : pv l (k + 1) = some l[k] := by simp [pv, h]
theorem hasLine84 {prev : List (List Int)} {l : List Int} (hp : prev.length ≤ 1000000) (hw : ∀ q ∈ prev, q.length ≤ 1000000000) : Pure Tryz.prog B 84 [encT prev, encI l] (· = .bool (decide (l ∈ prev))) := by
 intro p h nx K hK
 refine zP zT dreg 10000000 fun hf => ?_
 rw [F84.go]
 refine F84.L1 (fun m z3 h' nx' => ∃ i : Nat, z3 = I i ∧ prev.length - i = m ∧ i ≤ prev.length ∧ h' = h ∧ nx' = nx ∧ l ∉ prev.take i) (m := prev.length) (by omega) ⟨0, rfl, rfl, by omega, rfl, rfl, by simp⟩ ?_
 rintro m z2 z3 z4 z5 _ _ R ⟨i, rfl, rfl, hi, rfl, rfl, htk⟩ hR
 simp (disch := omega) only [sAdd, sSub, sMul, sEql, sNeq, sLss, sLeq, sGtr, sGeq, zI, zK, zC, zA, yJ, yN, yO, yP, zV, yE, yB, yU, yI, yH, yG, zF, zS, zJ, zB, decide_true, decide_false, Bool.not_true, Bool.not_false, yA]
 by_cases hlt : i < prev.length
 ·simp only [show (i : Int) < (prev.length : Int) by omega, decide_true, zC]
  have hx : prev[i]? = some prev[i] := List.getElem?_eq_getElem hlt
  rw [sIxL rfl hlt, ldL (getT hx)]
  refine sameInts35 (hw _ (List.getElem_mem hlt)) _ _ _ _ ?_
  rintro _ rfl _
  by_cases he : prev[i] = l
  ·simp only [he, decide_true, zC]
   refine hK _ ?_ hf
   rw [decide_eq_true (he ▸ List.getElem_mem hlt)]
  ·simp only [he, decide_false, zA]
   refine hR _ _ _ _ _ _ _ (by omega) ⟨i + 1, rfl, rfl, by omega, rfl, rfl, fun q => ?_⟩
   rw [List.take_add_one, hx] at q
   rcases List.mem_append.1 q with q | q
   ·exact htk q
   ·simp at q; exact he q.symm
 ·simp only [show ¬ (i : Int) < (prev.length : Int) by omega, decide_false, zA]
  rw [F84.k8]
  rw [List.take_of_length_le (by omega)] at htk
  refine hK _ ?_ hf
  rw [decide_eq_false htk]
end Go.Ev
namespace Go.Ev
open Go Go.Proofs
variable {B : Nat}
theorem sSliceF {n i : Nat} {l : List AV} {op : AV → OP} (hn : 1 ≤ n) (hi : i ≤ n) : gG 1 (.lst 1 n l) none (some (I (i : Int))) none op = op (.lst 1 i (l.take i)) := by
 show (bif Nat.beq 1 1 && Nat.ble 1 n then (match bnd (some (I (i : Int))) n n with | none => Out.no 17 | some h => match bnd none h 0 with | none => .no 17 | some q => op (.lst 1 (h - q) ((l.drop (q * 1)).take ((h - q) * 1)))) else .no 17) = _
 rw [Nat.ble_eq_true_of_le hn]
 have : bnd (some (I (i : Int))) n n = some i := by
  show (bif Nat.ble i n then some i else none) = _
  rw [Nat.ble_eq_true_of_le hi]; rfl
 rw [this]
 show op (.lst 1 (i - 0) ((l.drop (0 * 1)).take ((i - 0) * 1))) = _
 simp
end Go.Ev
namespace Go.Ev
open Go Go.Proofs
variable {B : Nat}
theorem u4 {P : Program} {f : Nat} {p id : Pa} {h0 h : T Blk} {nx : Pa} {L : List Ob} {k : Nat} {l : List Int} {K : Kw Prop} {Q : AV → Prop} (H : Hp h0 h nx L) (hk : L[k]? = some (.arr id (l.map I))) (hq : ∀ B, Pure P B f [encI l] Q) (hpl : ∀ v, Q v → Plain v)
  (hK : ∀ v, Q v → K v h nx = .ok True) : (CS P B).fn f p [.sl id 0 l.length (some l.length) 1] h nx K = .ok True :=
 xX (.cons (HasArr.frz (H.own _ (List.mem_of_getElem? hk)) (T.get_e _ id) (Nat.le_refl _) (by simp) fun v hv => by obtain ⟨x, _, rfl⟩ := List.mem_map.1 hv; rfl) .nil) (by
  have := kS l
  simp only [nns, fixd.nn this, Bool.and_self]) hq hpl fun v hv _ => hK v hv
theorem contF131 {h : T Blk} {nx : Pa} {l : List Int} {g : Nat} {p q : Pa} {cap : List AV} {pr : Int → Bool} {K : Kw Prop} (hl : l.length ≤ 1000000) (hcl : ∀ x ∈ l, ∀ K : Kw Prop, K (.bool (pr x)) h nx = .ok True → (CS Tryz.prog B).fn g q (I x :: cap) h nx K = .ok True)
  (hK : K (.bool (l.any pr)) h nx = .ok True) : (CS Tryz.prog B).fn 131 p [encI l, .fn g q cap] h nx K = .ok True := by
 refine yS (p := .of 131) (K := K) (zP zT dreg 9 fun hf => ?_) fun _ _ _ _ q => q
 rw [F131.go]
 refine yS (p := .of 165) (K := fun v1 h2 n3 => sBin .geq .int v1 (I 0) fun v4 => K v4 h2 n3) (zP zT dreg 10000000 fun hf => ?_) fun _ _ _ _ q => q
 rw [F165.go]
 simp (disch := omega) only [sAdd, sSub, sMul, sEql, sNeq, sLss, sLeq, sGtr, sGeq, zI, zK, zC, zA, yJ, yN, yO, yP, zV, yE, yB, yU, yI, yH, yG, zF, zS, zJ, zB, decide_true, decide_false, Bool.not_true, Bool.not_false, yA]
 refine F165.L1 (fun m z5 h' nx' => ∃ i : Nat, z5 = I i ∧ l.length - i = m ∧ i ≤ l.length ∧ h' = h ∧ nx' = nx ∧ (l.take i).any pr = false) (m := l.length) (by omega) ⟨0, rfl, rfl, by omega, rfl, rfl, by simp⟩ ?_
 rintro m z2 z3 z5 z6 z7 _ _ R ⟨i, rfl, rfl, hi, rfl, rfl, htk⟩ hR
 simp (disch := omega) only [sAdd, sSub, sMul, sEql, sNeq, sLss, sLeq, sGtr, sGeq, zI, zK, zC, zA, yJ, yN, yO, yP, zV, yE, yB, yU, yI, yH, yG, zF, zS, zJ, zB, decide_true, decide_false, Bool.not_true, Bool.not_false, yA]
 by_cases hlt : i < l.length
 ·simp only [show (i : Int) < (l.length : Int) by omega, decide_true, zC]
  have hx : l[i]? = some l[i] := List.getElem?_eq_getElem hlt
  rw [sIxL rfl hlt, ldL (getI hx), d9]
  refine hcl _ (List.getElem_mem hlt) _ ?_
  cases he : pr l[i] with
  | true =>
   simp only [zC, sGeq, show (0 : Int) ≤ (i : Int) by omega, decide_true]
   rw [List.any_eq_true.2 ⟨_, List.getElem_mem hlt, he⟩] at hK
   exact hK
  | false =>
   simp only [zA]
   refine hR _ _ _ _ _ _ _ _ (by omega) ⟨i + 1, rfl, rfl, by omega, rfl, rfl, ?_⟩
   rw [List.take_add_one, hx, List.any_append, htk]
   simp [he]
 ·simp only [show ¬ (i : Int) < (l.length : Int) by omega, decide_false, zA]
  rw [F165.k8]
  rw [List.take_of_length_le (by omega)] at htk
  rw [htk] at hK
  simp only [sGeq, show ¬ (0 : Int) ≤ -1 by omega, decide_false]
  exact hK
theorem from122 {a b : Int} {l : List Int} (hl : l.length ≤ 1000000) : Pure Tryz.prog B 122 [I a, I b, encI l] (· = I (if l.any (fun x => decide (x < a) || decide (b < x)) then 3 else 0)) := by
 refine yX fun h nx K H0 hK => zP zT dreg 1000 fun hf => ?_
 rw [F122.go]
 refine H0.box (l := [I a]) rfl fun x1 h1 nx1 H1 => ?_
 refine H1.box (l := [I b]) rfl fun x2 h2 nx2 H2 => ?_
 refine contF131 (pr := fun x => decide (x < a) || decide (b < x)) hl (fun x _ K hK => ?_) ?_
 ·refine yS (p := .of 147) (K := K) (zP zT dreg 9 fun hf => ?_) fun _ _ _ _ q => q
  show zR tbl 9 _ (Pa.of 147) [I x, .ptr x1 0, .ptr x2 0] _ _ _ = _
  rw [F147.go, H2.load (k := 1) (i := 0) rfl rfl]
  by_cases c : x < a
  ·simp only [sLss, c, decide_true, yO, zI]
   simpa [c] using hK
  ·simp only [sLss, c, decide_false, yN]
   rw [H2.load (k := 0) (i := 0) rfl rfl]
   simp only [sGtr, zK]
   simpa [c] using hK
 ·refine u7 _ _ _ _ _ _ ?_
  rintro _ rfl _
  exact hK _ _ _ _ _ H2 (zO rfl) rfl
theorem line124 {cells : Int} {lines : List (List Int)} {i : Nat} {l : List Int} (hi : lines[i]? = some l) (hn : lines.length ≤ 1000000) (hw : ∀ q ∈ lines, q.length ≤ 1000000) : Pure Tryz.prog B 124 [.agg [I cells, encT lines], I i] (· = I (gH cells (lines.take i) l)) := by
 refine yX fun h nx K H0 hK => zP zT dreg 10000000 fun hf => ?_
 have hlt : i < lines.length := (List.getElem?_eq_some_iff.1 hi).1
 have hlw := hw l (List.mem_of_getElem? hi)
 rw [F124.go]
 refine H0.box (l := [I cells, encT lines]) rfl fun bx h1 nx1 H1 => ?_
 rw [sFx, H1.load (k := 0) (i := 0 + 1) rfl rfl, sIxL rfl hlt, ldL (getT hi)]
 refine H1.alloc fun x h2 nx2 H2 => ?_
 refine H2.store (k := 0) rfl (by decide) rfl fun h3 H3 => ?_
 rw [H3.load (k := 0) (i := 0) rfl rfl]
 simp (disch := omega) only [sAdd, sSub, sMul, sEql, sNeq, sLss, sLeq, sGtr, sGeq, zI, zK, zC, zA, yJ, yN, yO, yP, zV, yE, yB, yU, yI, yH, yG, zF, zS, zJ, zB, decide_true, decide_false, Bool.not_true, Bool.not_false, yA]
 have ret : ∀ (v : Int) h' nx' L, v = gH cells (lines.take i) l → Hp h h' nx' L → K (I v) h' nx' = .ok True := fun v h' nx' L hv H' => by rw [hv]; exact hK _ _ _ _ _ H' (zO rfl) rfl
 by_cases h0 : l.length = 0
 ·simp only [show (l.length : Int) = 0 by omega, decide_true, zC]
  have hl0 : l = [] := List.eq_nil_of_length_eq_zero h0
  exact ret 12 _ _ _ (by rw [gH, if_pos hl0]) H3
 simp only [show ¬ (l.length : Int) = 0 by omega, decide_false, zA]
 have hl0 : l ≠ [] := fun q => h0 (by rw [q]; rfl)
 have hcell : jQ cells none l ≠ 0 → jQ cells none l = gH cells (lines.take i) l := fun h => by rw [gH, if_neg hl0, if_pos h]
 rw [H3.load (k := 0) (i := 0) rfl rfl]
 simp (disch := omega) only [sAdd, sSub, sMul, sEql, sNeq, sLss, sLeq, sGtr, sGeq, zI, zK, zC, zA, yJ, yN, yO, yP, zV, yE, yB, yU, yI, yH, yG, zF, zS, zJ, zB, decide_true, decide_false, Bool.not_true, Bool.not_false, yA]
 refine F124.L2 (fun m z11 h' nx' => ∃ k : Nat, z11 = I k ∧ l.length - k = m ∧ k ≤ l.length ∧ Hp h h' nx' [.arr x [encI l], .arr bx [I cells, encT lines]] ∧ jQ cells none l = jQ cells (pv l k) (l.drop k)) (m := l.length) (by omega) ⟨0, rfl, rfl, by omega, H3, rfl⟩ ?_
 rintro m z3 z5 z6 z7 z11 z12 z13 h1 nx1 R ⟨k, rfl, rfl, hk, H1, hce⟩ hR
 simp (disch := omega) only [sAdd, sSub, sMul, sEql, sNeq, sLss, sLeq, sGtr, sGeq, zI, zK, zC, zA, yJ, yN, yO, yP, zV, yE, yB, yU, yI, yH, yG, zF, zS, zJ, zB, decide_true, decide_false, Bool.not_true, Bool.not_false, yA]
 by_cases hkt : k < l.length
 case neg =>
  simp only [show ¬ (k : Int) < (l.length : Int) by omega, decide_false, zA]
  have hz : jQ cells none l = 0 := by rw [hce, List.drop_of_length_le (by omega)]; rfl
  rw [F124.k9, sFx, H1.load (k := 1) (i := 0 + 1) rfl rfl, sSliceF (by omega) (by omega)]
  have ep : AV.lst 1 i ((lines.map encI).take i) = encT (lines.take i) := by
   rw [← List.map_take]
   simp [encT, Nat.min_eq_left (Nat.le_of_lt hlt)]
  rw [ep]
  refine contains148 H1 (k := 0) rfl (by rw [List.length_take]; omega) (fun q hq => hw q (List.mem_of_mem_take hq)) ?_
  refine u7 _ _ _ _ _ _ ?_
  rintro _ rfl _
  refine ret _ _ _ _ ?_ H1
  have e9 : gH cells (lines.take i) l = if l ∈ lines.take i then 9 else 0 := by rw [gH, if_neg hl0, if_neg (by rw [hz]; simp)]
  rw [e9]
  by_cases hin : l ∈ lines.take i <;> simp [hin]
 simp only [show (k : Int) < (l.length : Int) by omega, decide_true, zC]
 have hxk : l[k]? = some l[k] := List.getElem?_eq_getElem hkt
 have hdk : l.drop k = l[k] :: l.drop (k + 1) := List.drop_eq_getElem_cons hkt
 rw [sIxL rfl hkt, ldL (getI hxk)]
 have tail : ∀ (b1 b2 : Bool) (z : AV) (z' : AV) (Z : AV → T Blk → Pa → Out Prop), b1 = (decide (l[k] < 0 ∨ cells ≤ l[k])) → b2 = (pv l k).any (fun q => decide (l[k] ≤ q)) →
   (∀ (e : Int) h' nx', e = (if l[k] < 0 ∨ cells ≤ l[k] then 10 else if (pv l k).any (fun q => decide (l[k] ≤ q)) then 11 else 0) → Hp h h' nx' [.arr x [encI l], .arr bx [I cells, encT lines]] → Z (I e) h' nx' = .ok True) →
   (CS Tryz.prog B).fn 123 (.of 123) [.bool b2, I 11] h1 nx1 (fun v22 h23 n24 => yF 1 2 [(I 0)] [(0, 1, I (if b1 then 10 else 0)), (1, 1, v22)] h23 n24 fun v25 h26 n27 => (CS Tryz.prog B).fn 121 (.of 121) [v25] h26 n27 Z) = .ok True := by
  intro b1 b2 z z' Z e1 e2 hZ
  refine u7 _ _ _ _ _ _ ?_
  rintro _ rfl _
  refine H1.bslice (l := [I (if b1 then 10 else 0), I (if b2 then 11 else 0)]) rfl fun id h4 nx4 H4 => ?_
  refine u4 (l := [if b1 then 10 else 0, if b2 then 11 else 0]) H4 (k := 0) rfl (fun B => xR (by simp)) (fun v hv => by rw [hv]; exact .int _ _) ?_
  rintro _ rfl
  refine hZ _ _ _ ?_ H4.drop
  subst e1 e2
  by_cases c1 : l[k] < 0 ∨ cells ≤ l[k]
  ·simp [c1, jC]
  ·cases c2 : (pv l k).any (fun q => decide (l[k] ≤ q)) <;> simp [c1, jC]
 have fin : ∀ (e : Int) h' nx', e = (if l[k] < 0 ∨ cells ≤ l[k] then 10 else if (pv l k).any (fun q => decide (l[k] ≤ q)) then 11 else 0) → Hp h h' nx' [.arr x [encI l], .arr bx [I cells, encT lines]] →
   (sBin .neq .int (I e) (I 0) fun v31 => zM v31 (K (I e) h' nx') (R (F124.fr (.agg [I cells, encT lines]) (I i) (.ptr bx 0) z3 (.ptr x 0) (I k) (I l[k]) (I e) (.bool false) (encI l) (I l.length) (I ((k : Int) + 1)) (.bool true) v31) h' nx')) = .ok True := by
  intro e h' nx' he H'
  have hstep : jQ cells none l = if e ≠ 0 then e else jQ cells (some l[k]) (l.drop (k + 1)) := by
   rw [hce, hdk, jQ, he]
   by_cases c1 : l[k] < 0 ∨ cells ≤ l[k]
   ·simp [c1]
   ·cases c2 : (pv l k).any (fun q => decide (l[k] ≤ q)) <;> simp [c1]
  simp (disch := omega) only [sAdd, sSub, sMul, sEql, sNeq, sLss, sLeq, sGtr, sGeq, zI, zK, zC, zA, yJ, yN, yO, yP, zV, yE, yB, yU, yI, yH, yG, zF, zS, zJ, zB, decide_true, decide_false, Bool.not_true, Bool.not_false, yA]
  by_cases c : e = 0
  ·simp only [c, decide_true, Bool.not_true, zA]
   refine hR _ _ _ _ _ _ _ _ _ _ (by omega) ⟨k + 1, rfl, rfl, by omega, H', ?_⟩
   rw [hstep, if_neg (by simp [c]), pv_succ hkt]
  ·simp only [c, decide_false, Bool.not_false, zC]
   rw [if_pos c] at hstep
   exact ret _ _ _ _ (by rw [← hcell (by rw [hstep]; exact c), hstep]) H'
 have mid : ∀ b1 : Bool, b1 = decide (l[k] < 0 ∨ cells ≤ l[k]) →
   (CS Tryz.prog B).fn 123 (.of 123) [.bool b1, I 10] h1 nx1 (fun v10 h11 n12 =>
    sG (.bool (decide (0 < (k : Int)))) true (fun k => zD (.ptr x 0) h11 k) fun v14 => sG (.bool (decide (0 < (k : Int)))) true (fun q => q (I (k : Int))) fun v15 => sG (.bool (decide (0 < (k : Int)))) true (fun k => sBin .sub .int v15 (I 1) k) fun v16 => sG (.bool (decide (0 < (k : Int)))) true (fun k => zQ 1 v14 v16 k) fun v17 => sG (.bool (decide (0 < (k : Int)))) true (fun k => zD v17 h11 k) fun v18 =>
    sG (.bool (decide (0 < (k : Int)))) true (fun q => q (I l[k])) fun v19 => sG (.bool (decide (0 < (k : Int)))) true (fun k => sBin .geq .int v18 v19 k) fun v20 => jO (.bool (decide (0 < (k : Int)))) v20 (.bool false) fun v21 =>
    (CS Tryz.prog B).fn 123 (.of 123) [v21, I 11] h11 n12 fun v22 h23 n24 => yF 1 2 [(I 0)] [(0, 1, v10), (1, 1, v22)] h23 n24 fun v25 h26 n27 => (CS Tryz.prog B).fn 121 (.of 121) [v25] h26 n27 fun v28 h29 n30 =>
    sBin .neq .int v28 (I 0) fun v31 => zM v31 (K v28 h29 n30) (R (F124.fr (.agg [I cells, encT lines]) (I i) (.ptr bx 0) z3 (.ptr x 0) (I k) (I l[k]) v28 (.bool false) (encI l) (I l.length) (I ((k : Int) + 1)) (.bool true) v31) h29 n30)) = .ok True := by
  intro b1 e1
  refine u7 _ _ _ _ _ _ ?_
  rintro _ rfl _
  by_cases ck : 0 < k
  ·obtain ⟨k, rfl⟩ : ∃ j, k = j + 1 := ⟨k - 1, by omega⟩
   have hk1 : k < l.length := by omega
   have hxk1 : l[k]? = some l[k] := List.getElem?_eq_getElem hk1
   simp only [show (0 : Int) < ((k + 1 : Nat) : Int) by omega, decide_true, yJ, zI]
   rw [H1.load (k := 0) (i := 0) rfl rfl, sSub (by omega), sIxL (i := k) (by omega) hk1, ldL (getI hxk1)]
   simp only [sGeq]
   exact tail _ _ .undef .undef _ e1 (by rw [pv_succ hk1]; rfl) fin
  ·obtain rfl : k = 0 := by omega
   simp only [show ¬ (0 : Int) < ((0 : Nat) : Int) by omega, decide_false, yP, zK]
   exact tail _ _ .undef .undef _ e1 rfl fin
 by_cases c : l[k] < 0
 ·simp only [sLss, c, decide_true, yO, zI]
  exact mid true (by simp [c])
 ·simp only [sLss, c, decide_false, yN, sFx]
  rw [H1.load (k := 1) (i := 0) rfl rfl]
  simp only [sGeq, zK]
  exact mid _ (by simp [c])
theorem sys81 {cells : Int} {lines : List (List Int)} (hw : ∀ q ∈ lines, q.length ≤ 1000000) : Pure Tryz.prog B 81 [.agg [I cells, encT lines]] (· = I (jW cells lines)) := by
 refine yX fun h nx K H0 hK => zP zT dreg 10000000 fun hf => ?_
 rw [F81.go]
 refine H0.box (l := [I cells, encT lines]) rfl fun bx h1 nx1 H1 => ?_
 rw [sFx, H1.load (k := 0) (i := 0) rfl rfl, sFx, H1.load (k := 0) (i := 0 + 1) rfl rfl]
 simp only [zF, sGtr]
 refine H1.bslice (l := [I cells]) rfl fun id h2 nx2 H2 => ?_
 simp only [zB, zF]
 rw [H2.load (k := 1) (i := 0 + 1) rfl rfl]
 simp only [zB, sFx]
 refine xX (args' := [I 1, I 256, encI [cells]]) (.cons (.int _ _) (.cons (.int _ _) (.cons (HasArr.frz (H2.own (.arr id [I cells]) (by simp)) (T.get_e _ id) (Nat.le_refl _) rfl (fun v hv => by simp at hv; subst hv; rfl)) .nil))) rfl (fun B => from122 (l := [cells]) (by simp)) (fun v hv => by rw [hv]; exact .int _ _) ?_
 rintro _ rfl _
 rw [H2.load (k := 1) (i := 0 + 1) rfl rfl]
 simp only [zB, zF]
 refine u7 _ _ _ _ _ _ ?_
 rintro _ rfl _
 refine H2.bslice (l := [I (if [cells].any (fun x => decide (x < 1) || decide (256 < x)) then 3 else 0), I (if decide (128 < (lines.length : Int)) then 5 else 0)]) rfl fun id3 h3 nx3 H3 => ?_
 refine u4 (l := [if [cells].any (fun x => decide (x < 1) || decide (256 < x)) then 3 else 0, if decide (128 < (lines.length : Int)) then 5 else 0]) H3 (k := 0) rfl (fun B => xR (by simp)) (fun v hv => by rw [hv]; exact .int _ _) ?_
 rintro _ rfl
 have ret : ∀ (v : Int) h' nx' L, v = jW cells lines → Hp h h' nx' L → K (I v) h' nx' = .ok True := fun v h' nx' L hv H' => by rw [hv]; exact hK _ _ _ _ _ H' (zO rfl) rfl
 have ef : jC [if [cells].any (fun x => decide (x < 1) || decide (256 < x)) then 3 else 0, if decide (128 < (lines.length : Int)) then 5 else 0] = if cells < 1 ∨ 256 < cells then 3 else if 128 < lines.length then 5 else 0 := by
  by_cases c : cells < 1 ∨ 256 < cells
  ·simp [jC, c]
  ·by_cases c2 : 128 < lines.length
   ·have : (128 : Int) < (lines.length : Int) := by omega
    simp [jC, c, c2, this]
   ·have : ¬ (128 : Int) < (lines.length : Int) := by omega
    simp [jC, c, c2, this]
 rw [ef]
 simp only [sNeq]
 by_cases hc : cells < 1 ∨ 256 < cells
 ·simp only [hc, if_true]
  simp only [show ¬ (3 : Int) = 0 by omega, decide_false, Bool.not_false, zC]
  exact ret 3 _ _ _ (by rw [jW, if_pos hc]) H3
 simp only [hc, if_false]
 by_cases hm : 128 < lines.length
 ·simp only [hm, if_true]
  simp only [show ¬ (5 : Int) = 0 by omega, decide_false, Bool.not_false, zC]
  exact ret 5 _ _ _ (by rw [jW, if_neg hc, if_pos hm]) H3
 simp only [hm, if_false, decide_true, Bool.not_true, zA]
 rw [H3.load (k := 2) (i := 0 + 1) rfl rfl]
 simp only [zF]
 have hs : jW cells lines = uM cells [] lines := by rw [jW, if_neg hc, if_neg hm]
 refine F81.L2 (fun m z8 h' nx' => ∃ i : Nat, z8 = I i ∧ lines.length - i = m ∧ i ≤ lines.length ∧ Hp h h' nx' [.arr bx [I cells, encT lines]] ∧ jW cells lines = uM cells (lines.take i) (lines.drop i)) (m := lines.length) (by omega) ⟨0, rfl, rfl, by omega, H3.drop.drop, by simpa using hs⟩ ?_
 rintro m z2 z4 z5 z8 z9 z10 h4 nx4 R ⟨i, rfl, rfl, hi, H4, he⟩ hR
 simp (disch := omega) only [sAdd, sSub, sMul, sEql, sNeq, sLss, sLeq, sGtr, sGeq, zI, zK, zC, zA, yJ, yN, yO, yP, zV, yE, yB, yU, yI, yH, yG, zF, zS, zJ, zB, decide_true, decide_false, Bool.not_true, Bool.not_false, yA]
 by_cases hlt : i < lines.length
 case neg =>
  simp only [show ¬ (i : Int) < (lines.length : Int) by omega, decide_false, zA]
  rw [F81.k9]
  exact ret 0 _ _ _ (by rw [he, List.drop_of_length_le (by omega)]; rfl) H4
 simp only [show (i : Int) < (lines.length : Int) by omega, decide_true, zC]
 obtain ⟨l, hx⟩ : ∃ l, lines[i]? = some l := ⟨_, List.getElem?_eq_getElem hlt⟩
 have hd : lines.drop i = l :: lines.drop (i + 1) := by
  rw [List.drop_eq_getElem_cons hlt]
  rw [List.getElem?_eq_getElem hlt] at hx
  rw [Option.some.inj hx]
 have htake : lines.take (i + 1) = lines.take i ++ [l] := by rw [List.take_add_one, hx]; rfl
 rw [H4.loadN (k := 0) (n := 2) rfl rfl]
 refine line124 hx (by omega) hw _ _ _ _ ?_
 rintro _ rfl _
 simp only [sNeq]
 by_cases c : gH cells (lines.take i) l = 0
 ·simp only [c, decide_true, Bool.not_true, zA]
  refine hR _ _ _ _ _ _ _ _ _ (by omega) ⟨i + 1, rfl, rfl, by omega, H4, ?_⟩
  rw [he, hd, uM, if_neg (by rw [c]; simp), htake]
 ·simp only [c, decide_false, Bool.not_false, zC]
  exact ret _ _ _ _ (by rw [he, hd, uM, if_pos c]) H4
end Go.Ev
namespace Go.Ev
def AscL (cells : Nat) (l : List Int) : Prop := l ≠ [] ∧ l.Pairwise (· < ·) ∧ ∀ c ∈ l, 0 ≤ c ∧ c < (cells : Int)
end Go.Ev
namespace Go.Ev
open Go Go.Proofs
variable {B : Nat}
theorem whenB82 (b : Bool) (e : Int) : Pure Tryz.prog B 82 [.bool b, I e] (· = I (if b then e else 0)) := by
 intro p h nx K hK
 refine zP zT dreg 9 fun hf => ?_
 rw [F82.go]
 cases b <;> simp (disch := omega) only [sAdd, sSub, sMul, sEql, sNeq, sLss, sLeq, sGtr, sGeq, zI, zK, zC, zA, yJ, yN, yO, yP, zV, yE, yB, yU, yI, yH, yG, zF, zS, zJ, zB, decide_true, decide_false, Bool.not_true, Bool.not_false, yA] <;> exact hK _ rfl hf
theorem first80 {l : List Int} (hl : l.length ≤ 1000000) : Pure Tryz.prog B 80 [encI l] (· = I (jC l)) := by
 intro p h nx K hK
 refine zP zT dreg 10000000 fun hf => ?_
 rw [F80.go]
 simp (disch := omega) only [sAdd, sSub, sMul, sEql, sNeq, sLss, sLeq, sGtr, sGeq, zI, zK, zC, zA, yJ, yN, yO, yP, zV, yE, yB, yU, yI, yH, yG, zF, zS, zJ, zB, decide_true, decide_false, Bool.not_true, Bool.not_false, yA]
 refine F80.L1 (fun m z5 h' nx' => ∃ i : Nat, z5 = I i ∧ l.length - i = m ∧ i ≤ l.length ∧ h' = h ∧ nx' = nx ∧ ∀ e ∈ l.take i, e = 0) (m := l.length) (by omega) ⟨0, rfl, rfl, by omega, rfl, rfl, by simp⟩ ?_
 rintro m z1 z2 z5 z6 z7 _ _ R ⟨i, rfl, rfl, hi, rfl, rfl, htk⟩ hR
 simp (disch := omega) only [sAdd, sSub, sMul, sEql, sNeq, sLss, sLeq, sGtr, sGeq, zI, zK, zC, zA, yJ, yN, yO, yP, zV, yE, yB, yU, yI, yH, yG, zF, zS, zJ, zB, decide_true, decide_false, Bool.not_true, Bool.not_false, yA]
 by_cases hlt : i < l.length
 ·simp only [show (i : Int) < (l.length : Int) by omega, decide_true, zC]
  have hx : l[i]? = some l[i] := List.getElem?_eq_getElem hlt
  rw [sIxL rfl hlt, ldL (getI hx)]
  simp (disch := omega) only [sAdd, sSub, sMul, sEql, sNeq, sLss, sLeq, sGtr, sGeq, zI, zK, zC, zA, yJ, yN, yO, yP, zV, yE, yB, yU, yI, yH, yG, zF, zS, zJ, zB, decide_true, decide_false, Bool.not_true, Bool.not_false, yA]
  have hd : l.drop i = l[i] :: l.drop (i + 1) := List.drop_eq_getElem_cons hlt
  by_cases h0 : l[i] = 0
  ·simp only [h0, decide_true, Bool.not_true, zA]
   refine hR _ _ _ _ _ _ _ _ (by omega) ⟨i + 1, rfl, rfl, by omega, rfl, rfl, fun e he => ?_⟩
   rw [List.take_add_one, hx] at he
   rcases List.mem_append.1 he with q | q
   ·exact htk e q
   ·simp at q; rw [q]; exact h0
  ·simp only [h0, decide_false, Bool.not_false, zC]
   refine hK _ ?_ hf
   rw [kG l i htk, hd, jC, if_pos h0]
 ·simp only [show ¬ (i : Int) < (l.length : Int) by omega, decide_false, zA]
  rw [F80.k8]
  refine hK _ ?_ hf
  rw [kG l i htk, List.drop_of_length_le (by omega)]; rfl
theorem cells_ok {cells : Int} : ∀ {l : List Int} {p : Option Int}, jQ cells p l = 0 → (∀ c ∈ l, 0 ≤ c ∧ c < cells) ∧ l.Pairwise (· < ·) ∧ ∀ q, p = some q → ∀ c ∈ l, q < c
 | [], _, _ => ⟨by simp, .nil, by simp⟩
 | c :: l, p, h => by
  rw [jQ] at h
  by_cases c1 : c < 0 ∨ cells ≤ c
  ·rw [if_pos c1] at h; cases h
  rw [if_neg c1] at h
  cases c2 : p.any (fun q => decide (c ≤ q)) with
  | true => rw [c2, if_pos rfl] at h; cases h
  | false =>
   rw [c2, if_neg (by simp)] at h
   obtain ⟨h1, h2, h3⟩ := cells_ok h
   have h4 := h3 c rfl
   refine ⟨fun x hx => ?_, List.pairwise_cons.2 ⟨h4, h2⟩, fun q hq x hx => ?_⟩
   ·rcases List.mem_cons.1 hx with rfl | hx
    ·omega
    ·exact h1 x hx
   ·subst hq
    simp at c2
    rcases List.mem_cons.1 hx with rfl | hx
    ·exact c2
    ·have := h4 x hx; omega
theorem lines_ok {cells : Int} : ∀ {ls prev : List (List Int)}, uM cells prev ls = 0 → ∀ l ∈ ls, l ≠ [] ∧ jQ cells none l = 0
 | [], _, _, l, h => by simp at h
 | a :: ls, prev, h, l, hl => by
  rw [uM] at h
  by_cases c : gH cells prev a ≠ 0
  ·rw [if_pos c] at h; exact absurd h c
  rw [if_neg c] at h
  rcases List.mem_cons.1 hl with rfl | hl
  ·have c : gH cells prev l = 0 := by simpa using c
   rw [gH] at c
   by_cases c0 : l = []
   ·rw [if_pos c0] at c; cases c
   rw [if_neg c0] at c
   refine ⟨c0, ?_⟩
   by_cases c1 : jQ cells none l ≠ 0
   ·rw [if_pos c1] at c; exact c
   ·simpa using c1
  ·exact lines_ok h l hl
theorem sys_ok {cells : Int} {lines : List (List Int)} (h : jW cells lines = 0) : ∃ n : Nat, cells = n ∧ 1 ≤ n ∧ n ≤ 256 ∧ lines.length ≤ 128 ∧ ∀ l ∈ lines, AscL n l := by
 rw [jW] at h
 by_cases c1 : cells < 1 ∨ 256 < cells
 ·rw [if_pos c1] at h; cases h
 rw [if_neg c1] at h
 by_cases c2 : 128 < lines.length
 ·rw [if_pos c2] at h; cases h
 rw [if_neg c2] at h
 refine ⟨cells.toNat, by omega, by omega, by omega, by omega, fun l hl => ?_⟩
 obtain ⟨h1, h2⟩ := lines_ok h l hl
 obtain ⟨h3, h4, _⟩ := cells_ok h2
 exact ⟨h1, h4, fun c hc => by have := h3 c hc; omega⟩
theorem sGW_tt (op : KW3 → OP) (h : T Blk) (nx : Pa) (k : KW3) : sGW (.bool true) true op h nx k = op k := nr rfl
end Go.Ev
namespace Go.Ev
open Go Go.Proofs
variable {B : Nat}
theorem deg95 {cells : Nat} {lines : List (List Int)} (hcl : cells ≤ 256) (hn : lines.length ≤ 128) (hl : ∀ l ∈ lines, l.length ≤ 1000 ∧ ∀ c ∈ l, 0 ≤ c ∧ c < (cells : Int)) : Pure Tryz.prog B 95 [.agg [I cells, encT lines]] (· = encI (degS cells lines)) := by
 refine yX fun h nx K H0 hK => zP zT dreg 10000000 fun hf => ?_
 rw [F95.go]
 refine H0.box (l := [I cells, encT lines]) rfl fun bx h1 nx1 H1 => ?_
 rw [sFx, H1.load (k := 0) (i := 0) rfl rfl]
 refine H1.mk1 cells rfl rfl (by omega) (by decide) fun o h2 nx2 H2 => ?_
 rw [sFx, H2.load (k := 1) (i := 0 + 1) rfl rfl]
 simp only [zF]
 have hz : List.replicate cells (I 0) = (List.replicate cells (0 : Int)).map I := by simp
 rw [hz] at H2
 have hbd : ∀ i, i ≤ lines.length → Bd (degS cells (lines.take i)) (i * 1000) := fun i hi => by
  have := bN (cells := cells) (W := 1000) (lines := lines.take i) fun l hm => by
   obtain ⟨q1, q2⟩ := hl l (List.mem_of_mem_take hm)
   exact ⟨q1, fun c hc => by have := q2 c hc; omega⟩
  rw [List.length_take, Nat.min_eq_left hi] at this
  exact this
 refine F95.L1 (fun m z8 h' nx' => ∃ i : Nat, z8 = I i ∧ lines.length - i = m ∧ i ≤ lines.length ∧ Hp h h' nx' [.arr o ((degS cells (lines.take i)).map I), .arr bx [I cells, encT lines]]) (m := lines.length) (by omega) ⟨0, rfl, rfl, by omega, H2⟩ ?_
 rintro m z4 z5 z8 z9 z10 z11 z12 z13 h3 nx3 R ⟨i, rfl, rfl, hi, H3⟩ hR
 simp (disch := omega) only [sAdd, sSub, sMul, sEql, sNeq, sLss, sLeq, sGtr, sGeq, zI, zK, zC, zA, yJ, yN, yO, yP, zV, yE, yB, yU, yI, yH, yG, zF, zS, zJ, zB, decide_true, decide_false, Bool.not_true, Bool.not_false, yA]
 by_cases hlt : i < lines.length
 case neg =>
  simp only [show ¬ (i : Int) < (lines.length : Int) by omega, decide_false, zA]
  rw [F95.k15]
  rw [List.take_of_length_le (by omega)] at H3
  refine hK _ _ _ _ _ H3 (H3.frzArr (k := 0) rfl (Nat.le_refl _) (by simp [j4]) (fun v hv => by obtain ⟨x, _, rfl⟩ := List.mem_map.1 hv; rfl)) ?_
  show _ = AV.lst 1 _ _
  rw [j4]
 simp only [show (i : Int) < (lines.length : Int) by omega, decide_true, zC]
 obtain ⟨l, hx⟩ : ∃ l, lines[i]? = some l := ⟨_, List.getElem?_eq_getElem hlt⟩
 obtain ⟨hlw, hlc⟩ := hl l (List.mem_of_getElem? hx)
 have htake : lines.take (i + 1) = lines.take i ++ [l] := by rw [List.take_add_one, hx]; rfl
 have hds : degS cells (lines.take (i + 1)) = l.foldl incr (degS cells (lines.take i)) := by rw [degS, htake, List.foldl_append]; rfl
 rw [sIxL rfl hlt, ldL (getT hx)]
 simp (disch := omega) only [sAdd, sSub, sMul, sEql, sNeq, sLss, sLeq, sGtr, sGeq, zI, zK, zC, zA, yJ, yN, yO, yP, zV, yE, yB, yU, yI, yH, yG, zF, zS, zJ, zB, decide_true, decide_false, Bool.not_true, Bool.not_false, yA]
 refine F95.L7 (fun m z12 h' nx' => ∃ k : Nat, z12 = I k ∧ l.length - k = m ∧ k ≤ l.length ∧ Hp h h' nx' [.arr o (((l.take k).foldl incr (degS cells (lines.take i))).map I), .arr bx [I cells, encT lines]]) (m := l.length) (by omega) ⟨0, rfl, rfl, by omega, H3⟩ ?_
 rintro m y5 y12 y13 h4 nx4 R2 ⟨k, rfl, rfl, hk, H4⟩ hR2
 simp (disch := omega) only [sAdd, sSub, sMul, sEql, sNeq, sLss, sLeq, sGtr, sGeq, zI, zK, zC, zA, yJ, yN, yO, yP, zV, yE, yB, yU, yI, yH, yG, zF, zS, zJ, zB, decide_true, decide_false, Bool.not_true, Bool.not_false, yA]
 by_cases hkt : k < l.length
 case neg =>
  simp only [show ¬ (k : Int) < (l.length : Int) by omega, decide_false, zA]
  rw [F95.k14]
  try rw [sAdd (by omega)]
  rw [List.take_of_length_le (l := l) (by omega), ← hds] at H4
  exact hR _ _ _ _ _ _ _ _ _ _ _ (by omega) ⟨i + 1, rfl, rfl, by omega, H4⟩
 simp only [show (k : Int) < (l.length : Int) by omega, decide_true, zC]
 have hxk : l[k]? = some l[k] := List.getElem?_eq_getElem hkt
 obtain ⟨c0, c1⟩ := hlc _ (List.getElem_mem hkt)
 have hlen : ((l.take k).foldl incr (degS cells (lines.take i))).length = cells := by rw [gT, j4]
 have hbk : Bd ((l.take k).foldl incr (degS cells (lines.take i))) (i * 1000 + 1000) := (hbd i hi).line (fun c hc => by rw [j4]; have := hlc c (List.mem_of_mem_take hc); omega) (by rw [List.length_take]; omega)
 have hfd : (l.take (k + 1)).foldl incr (degS cells (lines.take i)) = incr ((l.take k).foldl incr (degS cells (lines.take i))) l[k] := by
  rw [List.take_add_one, hxk, List.foldl_append]; rfl
 generalize hd : (l.take k).foldl incr (degS cells (lines.take i)) = d at *
 have hv : (d.map I)[(l[k]).toNat]? = some (I (d.getD (l[k]).toNat 0)) := by
  rw [List.getElem?_map, List.getD_eq_getElem?_getD, List.getElem?_eq_getElem (by omega)]; rfl
 have hvb : 0 ≤ d.getD (l[k]).toNat 0 ∧ d.getD (l[k]).toNat 0 ≤ ((i * 1000 + 1000 : Nat) : Int) := by
  rw [List.getD_eq_getElem?_getD, List.getElem?_eq_getElem (by omega)]
  exact hbk _ (List.getElem_mem _)
 rw [sIxL rfl hkt, ldL (getI hxk), sIx (i := (l[k]).toNat) (by omega) (by omega), H4.load (k := 0) rfl hv, sAdd (by omega), sIx (i := (l[k]).toNat) (by omega) (by omega)]
 refine H4.store (k := 0) rfl (by simp; omega) rfl fun h5 H5 => ?_
 refine hR2 _ _ _ _ _ _ (by omega) ⟨k + 1, rfl, rfl, by omega, H5.cast ?_⟩
 rw [hfd, incr, List.map_set]; rfl
end Go.Ev
namespace Go.Ev
open Go Go.Proofs
variable {B : Nat}
end Go.Ev
namespace Go.Ev
open Go Go.Proofs
variable {B : Nat}
theorem q9 {h : T Blk} (a : AV) (l : List AV) (K : AV → OP) : zD (.fp (a :: l)) h K = K a := nr rfl
theorem sCall_yld {P : Program} {id : Pa} {args : List AV} {h : T Blk} {nx : Pa} {K : Kw Prop} : vZ (CS P B) (.yld id) args h nx K = (CS P B).yld id args h nx K := nr rfl
theorem iter153 {h : T Blk} {nx : Pa} {p id : Pa} {l : List Int} {K : Kw Prop} (J : Nat → T Blk → Pa → Prop) (hl : l.length ≤ 1000000) (hJ : J 0 h nx)
  (step : ∀ (i : Nat) (x : Int) (h : T Blk) (nx : Pa) (K : Kw Prop), l[i]? = some x → J i h nx → Fr h nx → (∀ h' nx', J (i + 1) h' nx' → K (.bool true) h' nx' = .ok True) → (CS Tryz.prog B).yld id [I x] h nx K = .ok True)
  (fr : ∀ i h nx, J i h nx → Fr h nx) (hK : ∀ h' nx', J l.length h' nx' → K (.tup []) h' nx' = .ok True) : (CS Tryz.prog B).fn 153 p [.yld id, .fp [encI l]] h nx K = .ok True := by
 refine yS (p := .of 153) (K := K) (zP zT dreg 10000000 fun hf => ?_) fun _ _ _ _ q => q
 rw [F153.go, q9]
 simp only [zF]
 refine F153.L1 (fun m z5 h' nx' => ∃ i : Nat, z5 = I i ∧ l.length - i = m ∧ i ≤ l.length ∧ J i h' nx') (m := l.length) (by omega) ⟨0, rfl, rfl, by omega, hJ⟩ ?_
 rintro m z2 z5 z6 z7 h1 nx1 R ⟨i, rfl, rfl, hi, hJ1⟩ hR
 simp (disch := omega) only [sAdd, sSub, sMul, sEql, sNeq, sLss, sLeq, sGtr, sGeq, zI, zK, zC, zA, yJ, yN, yO, yP, zV, yE, yB, yU, yI, yH, yG, zF, zS, zJ, zB, decide_true, decide_false, Bool.not_true, Bool.not_false, yA]
 by_cases hlt : i < l.length
 ·simp only [show (i : Int) < (l.length : Int) by omega, decide_true, zC]
  have hx : l[i]? = some l[i] := List.getElem?_eq_getElem hlt
  rw [sIxL rfl hlt, ldL (getI hx), sCall_yld]
  refine step i _ _ _ _ hx hJ1 (fr _ _ _ hJ1) fun h2 nx2 hJ2 => ?_
  simp only [zV, Bool.not_true, zA]
  try rw [sAdd (by omega)]
  exact hR _ _ _ _ _ _ _ (by omega) ⟨i + 1, rfl, rfl, by omega, hJ2⟩
 ·simp only [show ¬ (i : Int) < (l.length : Int) by omega, decide_false, zA]
  obtain rfl : i = l.length := by omega
  exact hK _ _ hJ1
theorem Hp.addGro {h0 h : T Blk} {nx : Pa} {L : List Ob} (H : Hp h0 h nx L) (e : Nat) : Hp h0 h nx (.gro none e 0 [] :: L) :=
  ⟨H.keep, fun x hx => by rcases List.mem_cons.1 hx with rfl | q; · exact ⟨rfl, rfl⟩
                          · exact H.own x q, fun n hn => H.off n (by simpa [Ob.names] using hn), by have := H.nd; simpa [Ob.names] using this, H.fr⟩
theorem getLoop {h0 h : T Blk} {nx : Pa} {L : List Ob} {id : Pa} {b : Blk} {k : Nat} (H : Hp h0 h nx L) (hk : L[k]? = some (.raw id b)) : T.get .no id h = b := (H.own _ (List.mem_of_getElem? hk)).1
theorem Hp.setRaw {h0 h : T Blk} {nx : Pa} {L : List Ob} {id : Pa} {b b' : Blk} {k : Nat} (H : Hp h0 h nx L) (hk : L[k]? = some (.raw id b)) (hb : b' ≠ .no) : Hp h0 (T.set .no b' id h) nx (L.set k (.raw id b')) :=
 H.upd hk (by simp [Ob.names]) rfl ⟨T.get_set_same _ _ _ _, hb⟩
theorem append173 {h0 h : T Blk} {nx : Pa} {L : List Ob} {p q : Pa} {l : List Int} {K : Kw Prop} (hl : l.length ≤ 100000) (H : Hp h0 h nx L)
  (hK : ∀ o h' nx', Hp h0 h' nx' (.gro o 1 l.length (l.map I) :: L) → K (rowV o 1 l.length) h' nx' = .ok True) : (CS Tryz.prog B).fn 173 p [.nils, .fn 153 q [.fp [encI l]]] h nx K = .ok True := by
 refine yS (p := .of 173) (K := K) (zP zT dreg 10000000 fun hf => ?_) fun _ _ _ _ q => q
 rw [F173.go]
 refine H.box (l := [.nils]) rfl fun bx h1 nx1 H1 => ?_
 refine H1.rf (g := 153) (p := q) (cap := [.fp [encI l]]) rfl fun id h2 nx2 H2 => ?_
 refine iter153 (fun i h' nx' => ∃ o, Hp h0 h' nx' (.raw id (.loop .ready .none (F173.fr .nils (.fn 153 q [.fp [encI l]]) (.ptr bx 0) .nils .undef (.fn 153 q [.fp [encI l]]) .undef) [.of 6] F173.b3 F173.b4) :: .arr bx [rowV o 1 i] :: .gro o 1 i ((l.take i).map I) :: L)) (by omega) ⟨none, ?_⟩ ?_ (fun _ _ _ ⟨_, q⟩ => q.fr) ?_
 ·have := H2.addGro 1
  exact this.perm ((List.Perm.swap _ _ _).trans (.cons _ (.swap _ _ _)))
 ·rintro i x h3 nx3 K3 hx ⟨o, H3⟩ _ hnext
  have hi : i < l.length := (List.getElem?_eq_some_iff.1 hx).1
  refine by_round (fns := tbl) dreg 100 fun hf => ?_
  rw [F173.y4 (getLoop H3 (k := 0) rfl) rfl]
  have H4 := H3.setRaw (k := 0) rfl (b' := .loop .busy .none (F173.fr .nils (.fn 153 q [.fp [encI l]]) (.ptr bx 0) .nils .undef (.fn 153 q [.fp [encI l]]) .undef) [.of 6] F173.b3 F173.b4) (by intro e; cases e)
  rw [H4.load (k := 1) (i := 0) rfl rfl]
  refine H4.bslice (l := [I x]) rfl fun e5 h5 nx5 H5 => ?_
  refine H5.appN (k := 3) (o := o) (c := 1) (new := [I x]) rfl (HasArr.rd (l := [I x]) (n := 1) (H5.own _ (List.mem_cons_self ..)) rfl) rfl rfl (by decide) (by decide) (by omega) fun o' h6 nx6 ho H6 => ?_
  refine H6.store (k := 2) rfl (by simp) (gV _ _ _) fun h7 H7 => ?_
  refine H7.rend (k := 1) rfl fun h8 H8 => ?_
  refine hnext _ _ ⟨o', (H8.drop).cast ?_⟩
  have e1 : (l.take (i + 1)).map I = (l.take i).map I ++ [I x] := by rw [List.take_add_one, hx]; simp
  rw [e1]; rfl
 ·rintro h3 nx3 ⟨o, H3⟩
  rw [List.take_length] at H3
  refine H3.rfEnd fun h4 H4 => ?_
  rw [rfEnd_on, F173.k6, H4.load (k := 0) (i := 0) rfl rfl]
  exact hK _ _ _ H4.drop
theorem values126 {l : List Int} : Pure Tryz.prog B 126 [encI l] (· = .fn 153 (.of 153) [.fp [encI l]]) := by
 refine yX fun h nx K H0 hK => zP zT dreg 10000000 fun hf => ?_
 rw [F126.go]
 refine H0.box (l := [encI l]) rfl fun bx h1 nx1 H1 => ?_
 obtain ⟨op, t, g1, g2⟩ : HasArr h1 bx [encI l] := H1.own _ (List.mem_cons_self ..)
 refine hK _ _ _ _ (.fn 153 (.of 153) [.fp [encI l]]) H1 (.fn _ _ _ _ rfl fun i v v' h2 h3 => ?_) rfl
 match i with
 | 0 =>
  simp only [List.getElem?_cons_zero, Option.some.injEq] at h2 h3
  subst h2 h3
  refine .ptr _ _ op _ t _ (H1.off bx (by simp [Ob.names])) g1 (by simp) (by simp [scal]) fun i v hv => ?_
  match i with
  | 0 =>
   simp only [List.getElem?_cons_zero, Option.some.injEq] at hv
   subst hv
   have := yL t 0 1 0 (by omega)
   have g2 : yM t 0 1 = [encI l] := g2
   rw [g2] at this
   simp only [List.getElem?_cons_zero, Option.some.injEq] at this
   rw [← this]
   exact zO (kS l)
  | i + 1 => simp at hv
 | i + 1 => simp at h2
end Go.Ev
namespace Go.Ev
open Go Go.Proofs
variable {B : Nat}
def dig (n : Nat) : List UInt8 := if n < 10 then [UInt8.ofNat (48 + n)] else [UInt8.ofNat (48 + n / 10), UInt8.ofNat (48 + n % 10)]
def und (l : List UInt8) : Nat := match l with
 | [a] => a.toNat - 48
 | [a, b] => 10 * (a.toNat - 48) + (b.toNat - 48)
 | _ => 0
theorem und_dig : ∀ n < 100, und (dig n) = n := by decide +kernel
theorem dig_free : ∀ n < 100, (32 : UInt8) ∉ dig n := by decide +kernel
theorem dig_len (n : Nat) : 1 ≤ (dig n).length ∧ (dig n).length ≤ 2 := by unfold dig; split <;> simp
def digs1 : List UInt8 := [48, 49, 50, 51, 52, 53, 54, 55, 56, 57, 97, 98, 99, 100, 101, 102, 103, 104, 105, 106, 107, 108, 109, 110, 111, 112, 113, 114, 115, 116, 117, 118, 119, 120, 121, 122]
theorem digs1_at : ∀ n < 10, (digs1.drop n).take 1 = dig n := by decide +kernel
theorem sSs {s : List UInt8} {a b : Nat} {K : AV → OP} (hab : a ≤ b) (hb : b ≤ s.length) : bL (.str s) (some (I (a : Int))) (some (I (b : Int))) K = K (.str ((s.drop a).take (b - a))) := by
 show (match bnd (some (I (b : Int))) s.length s.length with
   | none => Out.no 18
   | some h => match bnd (some (I (a : Int))) h 0 with
    | none => .no 18
    | some l => K (.str ((s.drop l).take (h - l)))) = _
 rw [pU hb]
 dsimp only
 rw [pU hab]
def allOk (s : List UInt8) : Bool := Nat.beq s.length 200 && (List.range 100).all fun n => decide (n < 10) || ((s.drop (n * 2)).take 2 == dig n)
theorem sSs2 {s : List UInt8} (hs : allOk s = true) {n : Nat} (h : n < 100) (c : ¬ n < 10) {K : AV → OP} : bL (.str s) (some (I ((n * 2 : Nat) : Int))) (some (I ((n * 2 + 2 : Nat) : Int))) K = K (.str (dig n)) := by
 simp only [allOk, Bool.and_eq_true, List.all_eq_true, List.mem_range, Bool.or_eq_true, decide_eq_true_eq, beq_iff_eq] at hs
 obtain ⟨h1, h2⟩ := hs
 have h1 := yK h1
 rw [sSs (by omega) (by omega), show n * 2 + 2 - n * 2 = 2 by omega, (h2 n h).resolve_left c]
theorem small219 {n : Nat} (h : n < 100) : Pure Tryz.prog B 219 [I (n : Int)] (· = .str (dig n)) := by
 intro p h' nx K hK
 refine zP zT dreg 10 fun hf => ?_
 rw [F219.go]
 simp only [sLss]
 by_cases c : n < 10
 ·simp only [show (n : Int) < 10 by omega, decide_true, zC]
  rw [sAdd (by omega), show (n : Int) + 1 = ((n + 1 : Nat) : Int) by omega, sSs (by omega) (by simp only [List.length_cons, List.length_nil]; omega)]
  refine hK _ ?_ hf
  rw [show n + 1 - n = 1 by omega]
  exact congrArg AV.str (digs1_at n c)
 ·simp only [show ¬ (n : Int) < 10 by omega, decide_false, zA]
  rw [sMul (by omega), show (n : Int) * 2 = ((n * 2 : Nat) : Int) by omega, sMul (by omega), show (n : Int) * 2 = ((n * 2 : Nat) : Int) by omega, sAdd (by omega), show ((n * 2 : Nat) : Int) + 2 = ((n * 2 + 2 : Nat) : Int) by omega]
  refine Eq.trans (sSs2 ?_ h c) ?_
  ·decide +kernel
  ·exact hK _ rfl hf
theorem itoa188 {n : Nat} (h : n < 100) : Pure Tryz.prog B 188 [I (n : Int)] (· = .str (dig n)) := by
 intro p h' nx K hK
 refine zP zT dreg 10 fun hf => ?_
 rw [F188.go]
 refine yS (p := .of 206) (K := fun v1 h2 n3 => K v1 h2 n3) (zP zT dreg 10 fun hf => ?_) fun _ _ _ _ q => q
 rw [F206.go]
 refine yS (p := .of 214) (K := fun v1 h2 n3 => K v1 h2 n3) (zP zT dreg 10 fun hf => ?_) fun _ _ _ _ q => q
 rw [F214.go]
 simp only [sEql, decide_true, zC, sLeq, sLss, show (0 : Int) ≤ (n : Int) by omega, yJ, show (n : Int) < 100 by omega, zI]
 refine small219 h _ _ _ _ ?_
 rintro _ rfl _
 exact hK _ rfl hf
def txt (l : List Int) : List UInt8 := Lib.join (l.map fun x => dig x.toNat) [32]
theorem txt_len (l : List Int) : (txt l).length ≤ 3 * l.length := by
 cases l with
 | nil => simp [txt, Lib.join_nil]
 | cons x l =>
  rw [txt, List.map_cons, Lib.join_length, ← List.map_cons (f := fun x : Int => dig x.toNat)]
  have : ∀ l : List Int, Lib.lens (l.map fun x => dig x.toNat) ≤ 2 * l.length := by
   intro l
   induction l with
   | nil => simp [Lib.lens]
   | cons y l ih =>
    have := (dig_len y.toNat).2
    simp only [Lib.lens, List.map_cons, List.sum_cons, List.length_cons] at ih ⊢
    omega
  have := this (x :: l)
  simp only [List.length_map, List.length_cons, List.length_nil] at this ⊢
  omega
theorem dI {t t' : List UInt8} (ht : t = [] ∨ ∃ u, t = 32 :: u) (ht' : t' = [] ∨ ∃ u, t' = 32 :: u) : ∀ {x x' : List UInt8}, 32 ∉ x → 32 ∉ x' → x ++ t = x' ++ t' → x = x' ∧ t = t'
 | [], [], _, _, h => ⟨rfl, h⟩
 | [], b :: x', _, h2, h => by
  rcases ht with rfl | ⟨u, rfl⟩
  ·simp at h
  ·simp only [List.nil_append, List.cons_append, List.cons.injEq] at h
   exact absurd (List.mem_cons.2 (.inl h.1)) h2
 | a :: x, [], h1, _, h => by
  rcases ht' with rfl | ⟨u, rfl⟩
  ·simp at h
  ·simp only [List.nil_append, List.cons_append, List.cons.injEq] at h
   exact absurd (List.mem_cons.2 (.inl h.1.symm)) h1
 | a :: x, b :: x', h1, h2, h => by
  simp only [List.cons_append, List.cons.injEq] at h
  obtain ⟨rfl, h⟩ := h
  obtain ⟨e1, e2⟩ := dI ht ht' (fun q => h1 (List.mem_cons_of_mem _ q)) (fun q => h2 (List.mem_cons_of_mem _ q)) h
  exact ⟨by rw [e1], e2⟩
theorem xZ (r : List (List UInt8)) : Lib.joinTail [32] r = [] ∨ ∃ u, Lib.joinTail [32] r = 32 :: u := by
 cases r with
 | nil => exact .inl rfl
 | cons y r => exact .inr ⟨_, rfl⟩
theorem tail_inj : ∀ {r r' : List (List UInt8)}, (∀ x ∈ r, 32 ∉ x) → (∀ x ∈ r', 32 ∉ x) → Lib.joinTail [32] r = Lib.joinTail [32] r' → r = r'
 | [], [], _, _, _ => rfl
 | [], y :: r', _, _, h => by cases h
 | y :: r, [], _, _, h => by cases h
 | y :: r, z :: r', h1, h2, h => by
  have e : ∀ (y : List UInt8) r, Lib.joinTail [32] (y :: r) = 32 :: (y ++ Lib.joinTail [32] r) := fun y r => rfl
  rw [e, e, List.cons.injEq] at h
  obtain ⟨e1, e2⟩ := dI (xZ r) (xZ r') (h1 y (by simp)) (h2 z (by simp)) h.2
  rw [e1, tail_inj (fun x hx => h1 x (by simp [hx])) (fun x hx => h2 x (by simp [hx])) e2]
def Sml (l : List Int) : Prop := ∀ x ∈ l, 0 ≤ x ∧ x < 100
theorem txt_inj {l l' : List Int} (h : Sml l) (h' : Sml l') (hn : l ≠ []) (hn' : l' ≠ []) (e : txt l = txt l') : l = l' := by
 have key : ∀ {l l' : List Int}, Sml l → Sml l' → l.map (fun x => dig x.toNat) = l'.map (fun x => dig x.toNat) → l = l' := by
  intro l
  induction l with
  | nil => intro l' _ _ e; cases l' with
   | nil => rfl
   | cons _ _ => cases e
  | cons a l ih =>
   intro l' h h' e
   cases l' with
   | nil => cases e
   | cons b l' =>
    simp only [List.map_cons, List.cons.injEq] at e
    have ha := h a (by simp)
    have hb := h' b (by simp)
    have := und_dig a.toNat (by omega)
    rw [e.1, und_dig b.toNat (by omega)] at this
    obtain rfl : a = b := by omega
    rw [ih (fun x hx => h x (by simp [hx])) (fun x hx => h' x (by simp [hx])) e.2]
 have fr : ∀ {l : List Int}, Sml l → ∀ w ∈ l.map (fun x => dig x.toNat), (32 : UInt8) ∉ w := fun h w hw => by
  obtain ⟨x, hx, rfl⟩ := List.mem_map.1 hw
  have := h x hx
  exact dig_free _ (by omega)
 refine key h h' ?_
 cases l with
 | nil => exact absurd rfl hn
 | cons a l =>
  cases l' with
  | nil => exact absurd rfl hn'
  | cons b l' =>
   have f1 := fr h
   have f2 := fr h'
   simp only [txt, List.map_cons, Lib.join_cons] at e
   rw [List.map_cons] at f1 f2 ⊢
   rw [List.map_cons]
   obtain ⟨e1, e2⟩ := dI (xZ _) (xZ _) (f1 _ (by simp)) (f2 _ (by simp)) e
   rw [e1, tail_inj (fun x hx => f1 x (by simp [hx])) (fun x hx => f2 x (by simp [hx])) e2]
theorem strsA_map (xs : List (List UInt8)) : vY (xs.map .str) = some xs := by
 induction xs with
 | nil => rfl
 | cons x xs ih => simp only [List.map_cons, vY, ih]
theorem text171 {l : List Int} (hl : l.length ≤ 1000) (hs : Sml l) : Pure Tryz.prog B 171 [encI l] (· = .str (txt l)) := by
 refine yX fun h nx K H0 hK => zP zT dreg 10000 fun hf => ?_
 rw [F171.go]
 simp only [zF]
 refine F171.L1 (fun m x2 x6 h' nx' => ∃ (i : Nat) (o : Option Pa), x6 = I i ∧ x2 = rowV o 1 i ∧ l.length - i = m ∧ i ≤ l.length ∧ Hp h h' nx' [.gro o 1 i ((l.take i).map fun x => AV.str (dig x.toNat))]) (m := l.length) (by omega) ⟨0, none, rfl, rfl, rfl, by omega, H0.addGro 1⟩ ?_
 rintro m z2 z3 z6 z7 h1 nx1 R ⟨i, o, rfl, rfl, rfl, hi, H1⟩ hR
 simp only [sLss]
 by_cases hlt : i < l.length
 ·simp only [show (i : Int) < (l.length : Int) by omega, decide_true, zC]
  have hx : l[i]? = some l[i] := List.getElem?_eq_getElem hlt
  have hb := hs _ (List.getElem_mem hlt)
  rw [sIxL rfl hlt, ldL (getI hx), show l[i] = ((l[i].toNat : Nat) : Int) by omega]
  refine itoa188 (by omega) _ _ _ _ ?_
  rintro _ rfl _
  refine H1.bslice (l := [.str (dig l[i].toNat)]) rfl fun tb h2 nx2 H2 => ?_
  refine H2.appN (k := 1) (o := o) (c := 1) (new := [.str (dig l[i].toNat)]) rfl (HasArr.rd (l := [.str (dig l[i].toNat)]) (n := 1) (H2.own _ (List.mem_cons_self ..)) rfl) rfl rfl (by decide) (by decide) (by omega) fun o' h3 nx3 _ H3 => ?_
  rw [sAdd (by omega)]
  refine hR _ _ _ _ _ _ _ (by omega) ⟨i + 1, o', rfl, rfl, rfl, by omega, ?_⟩
  rw [List.take_add_one, hx, List.map_append]
  exact H3.drop
 ·simp only [show ¬ (i : Int) < (l.length : Int) by omega, decide_false, zA]
  obtain rfl : i = l.length := by omega
  rw [List.take_of_length_le (by omega)] at H1
  rw [F171.k8]
  have own := H1.own _ (List.mem_cons_self ..)
  have hj : hookJ 189 [rowV o 1 l.length, .str [32]] h1 = some (.str (txt l), h1) := by
   have key : joinJ (rowV o 1 l.length) [32] h1 = some (.str (txt l)) := by
    cases o with
    | none =>
     obtain ⟨_, q⟩ := own
     obtain rfl : l = [] := List.eq_nil_of_length_eq_zero q
     rfl
    | some id =>
     obtain ⟨t, g1, g2, g3⟩ := own
     rw [Nat.mul_one] at g1 g3
     show (match T.get .no id h1 with
      | .cells _ m t => bif Nat.beq 1 1 && Nat.ble (0 + l.length) m && Nat.ble l.length 100000 && capLn none l.length then joinK (yM t 0 l.length) [32] else none
      | _ => none) = _
     rw [g1]
     dsimp only
     rw [Nat.ble_eq_true_of_le (by omega), Nat.ble_eq_true_of_le (by omega), g3]
     show joinK _ _ = _
     have e : (l.map fun x => AV.str (dig x.toNat)) = (l.map fun x => dig x.toNat).map .str := by rw [List.map_map]; rfl
     unfold joinK
     rw [e, strsA_map]
     show (bif Nat.ble (txt l).length 100000 then some (AV.str (txt l)) else none) = _
     rw [Nat.ble_eq_true_of_le (by have := txt_len l; omega)]; rfl
   show (match joinJ (rowV o 1 l.length) [32] h1 with
    | some v => some (v, h1)
    | none => none) = _
   rw [key]
  exact CS_hook pJ hj (hK _ _ _ _ _ H1 (zO rfl) rfl)
end Go.Ev
namespace Go.Ev
open Go Go.Proofs
variable {B : Nat}
theorem sort152 {h0 h : T Blk} {nx p : Pa} {L : List Ob} {k n : Nat} {o : Option Pa} {l : List Int} {K : Kw Prop} (hj : ∀ B, JOk Tryz.prog B kE) (H : Hp h0 h nx L) (hk : L[k]? = some (.gro o 1 n (l.map I))) (hn : n ≤ 1000000)
  (hK : ∀ h', Hp h0 h' nx (L.set k (.gro o 1 n ((srt l).map I))) → K (.tup []) h' nx = .ok True) : (CS Tryz.prog B).fn 152 p [rowV o 1 n] h nx K = .ok True := by
 have own := H.own _ (List.mem_of_getElem? hk)
 cases o with
 | none =>
  obtain ⟨q1, rfl⟩ := own
  obtain rfl : l = [] := by simpa using q1
  refine CS_hook (hj B) (v := .tup []) (h2 := h) rfl (hK h (H.cast ?_))
  have e : (srt ([] : List Int)).map I = [] := by simp [srt]
  rw [e, (kF hk).2]; exact (kF hk).1
 | some id =>
  obtain ⟨t, h1, h2, h3⟩ := own
  rw [Nat.mul_one] at h1 h2 h3
  have e1 : sortJ (.sl id 0 n none 1) h = some (T.set Blk.no (Blk.cells true n (jA ((srt l).map I) t 0)) id h) := by
   show (match T.get Blk.no id h with
    | .cells op m t => bif Nat.beq 1 1 && Nat.ble (0 + n) m && Nat.ble n 1000000 then (match wC (yM t 0 n) with
     | some l => some (T.set Blk.no (Blk.cells op m (jA ((srt l).map I) t 0)) id h)
     | none => none) else none
    | _ => none) = _
   rw [h1]
   show (bif Nat.beq 1 1 && Nat.ble (0 + n) n && Nat.ble n 1000000 then (match wC (yM t 0 n) with
     | some l => some (T.set Blk.no (Blk.cells true n (jA ((srt l).map I) t 0)) id h)
     | none => none) else none) = _
   rw [Nat.ble_eq_true_of_le (by omega), Nat.ble_eq_true_of_le hn, h3, intsA_map]; rfl
  have e2 : kE 152 [rowV (some id) 1 n] h = some (.tup [], T.set Blk.no (Blk.cells true n (jA ((srt l).map I) t 0)) id h) := by
   show (match sortJ (.sl id 0 n none 1) h with
    | some h => some ((.tup [] : AV), h)
    | none => none) = _
   rw [e1]
  refine CS_hook (hj B) e2 (hK _ (H.upd hk (by simp [Ob.names]) rfl ⟨_, by rw [T.get_set_same, Nat.mul_one], by simpa using h2, ?_⟩))
  have := wA t [] ((srt l).map I) 0 rfl
  rw [Nat.zero_add, List.nil_append] at this
  have hl : ((srt l).map I).length = n := by simpa using h2
  rw [hl] at this
  rw [Nat.mul_one]; exact this
theorem sorted125 {l : List Int} (hj : ∀ B, JOk Tryz.prog B kE) (hl : l.length ≤ 100000) : Pure Tryz.prog B 125 [.fn 153 (.of 153) [.fp [encI l]]] (· = encI (srt l)) := by
 refine yX fun h nx K H0 hK => zP zT dreg 100 fun hf => ?_
 rw [F125.go]
 refine yS (p := .of 151) (K := fun v1 h2 n3 => (CS Tryz.prog B).fn 152 (.of 152) [v1] h2 n3 fun v4 h5 n6 => K v1 h5 n6) (zP zT dreg 100 fun hf => ?_) fun _ _ _ _ q => q
 rw [F151.go]
 refine append173 hl H0 fun o h1 nx1 H1 => ?_
 refine sort152 hj H1 (k := 0) rfl (by omega) fun h2 H2 => ?_
 refine hK _ _ _ _ _ H2 (H2.frzGro (k := 0) rfl (by intro v hv; obtain ⟨t, _, rfl⟩ := List.mem_map.1 hv; rfl)) ?_
 show _ = AV.lst 1 _ _
 rw [kW]
def loS (d : List Int) : Int := wsum (fun i => (d.length : Int) - i) d d.length
def hiS (d : List Int) : Int := wsum (fun i => (i : Int) + 1) d d.length
def bndV (cells : Nat) (lines : List (List Int)) : AV := .tup [I ((loS (srt (degS cells lines)) + lines.length - 1).tdiv lines.length), I ((hiS (srt (degS cells lines))).tdiv lines.length)]
theorem quo_bd {a : Int} {n : Nat} (h : 0 ≤ a) (hn : 0 < n) : 0 ≤ a.tdiv n ∧ a.tdiv n ≤ a := by
 rw [Int.tdiv_eq_ediv_of_nonneg h]
 exact ⟨Int.ediv_nonneg h (by omega), Int.ediv_le_self _ h⟩
theorem sQuoN {a : Int} {n : Nat} {K : AV → OP} (h : 0 ≤ a) (h2 : a ≤ 9223372036854775807) (hn : 0 < n) : sBin .quo .int (I a) (I (n : Int)) K = K (I (a.tdiv n)) := by
 obtain ⟨q1, q2⟩ := quo_bd h hn
 have e : sBin .quo .int (I a) (I (n : Int)) K = (bif ieq (n : Int) 0 then Out.no 5 else intK (IntKind.wrap .i64 (a.tdiv n)) fun z => K (.int .i64 z)) := rfl
 rw [e, u5]
 have hb : ((n : Int) == 0) = false := by simp; omega
 rw [hb, cond_false, uH, uU (by omega)]
theorem bounds83 {cells : Nat} {lines : List (List Int)} (hj : ∀ B, JOk Tryz.prog B kE) (h0 : 0 < lines.length) (hcl : cells ≤ 256) (hn : lines.length ≤ 128) (hl : ∀ l ∈ lines, l.length ≤ 1000 ∧ ∀ c ∈ l, 0 ≤ c ∧ c < (cells : Int)) : Pure Tryz.prog B 83 [.agg [I cells, encT lines]] (· = bndV cells lines) := by
 refine yX fun h nx K H0 hK => zP zT dreg 10000000 fun hf => ?_
 rw [F83.go]
 refine H0.box (l := [I cells, encT lines]) rfl fun bx h1 nx1 H1 => ?_
 rw [H1.loadN (k := 0) (n := 2) rfl rfl]
 refine deg95 hcl hn hl _ _ _ _ ?_
 rintro _ rfl _
 refine values126 _ _ _ _ ?_
 rintro _ rfl _
 refine sorted125 hj (by rw [j4]; omega) _ _ _ _ ?_
 rintro _ rfl _
 simp only [zF]
 have hM : Bd (srt (degS cells lines)) 128000 := (bN (W := 1000) fun l hm => ⟨(hl l hm).1, fun c hc => by have := (hl l hm).2 c hc; omega⟩).srt.mono (by omega)
 have hlen : (srt (degS cells lines)).length = cells := by rw [kW, j4]
 unfold bndV at hK
 generalize srt (degS cells lines) = d at *
 have hf1 : ∀ j, j < d.length → 0 ≤ (j : Int) + 1 ∧ (j : Int) + 1 ≤ ((256 : Nat) : Int) := fun j hj => by omega
 have hf2 : ∀ j, j < d.length → 0 ≤ (d.length : Int) - j ∧ (d.length : Int) - j ≤ ((256 : Nat) : Int) := fun j hj => by omega
 refine F83.L1 (fun m z5 z6 z12 h' nx' => ∃ i : Nat, z12 = I i ∧ z5 = I (wsum (fun i => (d.length : Int) - i) d i) ∧ z6 = I (wsum (fun i => (i : Int) + 1) d i) ∧ d.length - i = m ∧ i ≤ d.length ∧ h' = h1 ∧ nx' = nx1) (m := d.length) (by omega) ⟨0, rfl, rfl, rfl, by omega, by omega, rfl, rfl⟩ ?_
 rintro m z5 z6 z7 z8 z12 z13 h1 nx1 R ⟨i, rfl, rfl, rfl, rfl, hi, rfl, rfl⟩ hR
 obtain ⟨w1, w2⟩ := wK hM hf1 i hi
 obtain ⟨w3, w4⟩ := wK hM hf2 i hi
 simp (disch := omega) only [sAdd, sSub, sMul, sEql, sNeq, sLss, sLeq, sGtr, sGeq, zI, zK, zC, zA, yJ, yN, yO, yP, zV, yE, yB, yU, yI, yH, yG, zF, zS, zJ, zB, decide_true, decide_false, Bool.not_true, Bool.not_false, yA]
 by_cases hlt : i < d.length
 ·simp only [show (i : Int) < (d.length : Int) by omega, decide_true, zC]
  have hx : d[i]? = some (d.getD i 0) := by rw [List.getD_eq_getElem?_getD, List.getElem?_eq_getElem hlt]; rfl
  obtain ⟨a1, a2⟩ := wsum_step hM hf1 hlt
  obtain ⟨a3, a4⟩ := wsum_step hM hf2 hlt
  rw [sIxL rfl hlt, ldL (getI hx)]
  rw [sMul (by omega), sAdd (by omega), sMul (by omega), sAdd (by omega)]
  try rw [sAdd (by omega)]
  exact hR _ _ _ _ _ _ _ _ _ (by omega) ⟨i + 1, rfl, rfl, rfl, rfl, by omega, rfl, rfl⟩
 ·simp only [show ¬ (i : Int) < (d.length : Int) by omega, decide_false, zA]
  obtain rfl : i = d.length := by omega
  rw [F83.k8, sFx, H1.load (k := 0) (i := 0 + 1) rfl rfl]
  simp only [zF]
  rw [sAdd (by omega), sSub (by omega), sQuoN (by omega) (by omega) h0, sQuoN (by omega) (by omega) h0]
  exact hK _ _ _ _ _ H1 (jG (zO rfl) (zO rfl)) rfl
end Go.Ev
namespace Go.Proofs
open Go.Shelf Go.Lib
def ordL : List Int → List Int → Int
 | [], [] => 0
 | [], _ :: _ => -1
 | _ :: _, [] => 1
 | x :: xs, y :: ys => if x < y then -1 else if y < x then 1 else ordL xs ys
end Go.Proofs
namespace Go.Proofs
open Go.Shelf Go.Lib Go.RowKit
end Go.Proofs
namespace Go.Proofs
theorem vK (x : Int) (xs : List Int) (y : Int) (ys : List Int) : ordL (x :: xs) (y :: ys) = if x < y then -1 else if y < x then 1 else ordL xs ys := by rw [ordL]
theorem pF : ∀ a b : List Int, ordL b a = - ordL a b
 | [], [] => by rw [ordL]; rfl
 | [], _ :: _ => by rw [ordL, ordL]; rfl
 | _ :: _, [] => by rw [ordL, ordL]
 | x :: xs, y :: ys => by
  rw [vK, vK, pF xs ys]
  by_cases h : x < y
  ·simp only [if_pos h, if_neg (show ¬ y < x by omega)]; rfl
  ·rw [if_neg h]
   by_cases g : y < x
   ·simp only [if_pos g, if_neg h]
   ·simp only [if_neg g, if_neg h]
theorem ordL_eq : ∀ {a b : List Int}, ordL a b = 0 → a = b
 | [], [], _ => rfl
 | [], _ :: _, h => by rw [ordL] at h; omega
 | _ :: _, [], h => by rw [ordL] at h; omega
 | x :: xs, y :: ys, h => by
  rw [vK] at h
  by_cases c : x < y
  ·rw [if_pos c] at h; omega
  ·rw [if_neg c] at h
   by_cases g : y < x
   ·rw [if_pos g] at h; omega
   ·rw [if_neg g] at h
    rw [ordL_eq h, show x = y by omega]
theorem ordL_refl (a : List Int) : ordL a a = 0 := by have := pF a a; omega
theorem dB : ∀ {a b c : List Int}, ordL a b ≤ 0 → ordL b c ≤ 0 → ordL a c ≤ 0
 | [], _, [], _, _ => by rw [ordL]; omega
 | [], _, _ :: _, _, _ => by rw [ordL]; omega
 | _ :: _, [], _, h, _ => by rw [ordL] at h; omega
 | x :: xs, y :: ys, [], _, h => by rw [ordL] at h; omega
 | x :: xs, y :: ys, z :: zs, h, g => by
  rw [vK] at h g ⊢
  by_cases c1 : x < y
  ·by_cases c2 : y < z
   ·rw [if_pos (by omega)]; omega
   ·rw [if_neg c2] at g
    by_cases c3 : z < y
    ·rw [if_pos c3] at g; omega
    ·rw [if_pos (by omega)]; omega
  ·rw [if_neg c1] at h
   by_cases c4 : y < x
   ·rw [if_pos c4] at h; omega
   ·rw [if_neg c4] at h
    by_cases c2 : y < z
    ·rw [if_pos (by omega)]; omega
    ·rw [if_neg c2] at g
     by_cases c3 : z < y
     ·rw [if_pos c3] at g; omega
     ·rw [if_neg c3] at g
      rw [if_neg (by omega), if_neg (by omega)]
      exact dB h g
theorem ordL_lt_trans {a b c : List Int} (h : ordL a b < 0) (g : ordL b c < 0) : ordL a c < 0 := by
 have := dB (Int.le_of_lt h) (Int.le_of_lt g)
 by_cases e : ordL a c = 0
 ·have := ordL_eq e
  subst this
  have := pF a b
  omega
 ·omega
end Go.Proofs
namespace Go.Ev
open Go.Proofs
def insT (A : List (List Int × Nat)) (l : List Int) (n : Nat) : List (List Int × Nat) := match A with
 | [] => [(l, n)]
 |(a, c) :: A => if ordL a l < 0 then (a, c) :: insT A l n else if a = l then (a, c + n) :: A else (l, n) :: (a, c) :: A
structure IsTab (A : List (List Int × Nat)) (M : List (List Int)) : Prop where
 srt : A.Pairwise fun a b => ordL a.1 b.1 < 0
 cnt : ∀ p ∈ A, p.2 = M.count p.1 ∧ 0 < p.2
 all : ∀ y ∈ M, ∃ p ∈ A, p.1 = y
theorem IsTab.mem {A : List (List Int × Nat)} {M : List (List Int)} (T : IsTab A M) (p : List Int × Nat) : p ∈ A ↔ p.2 = M.count p.1 ∧ 0 < p.2 := by
 refine ⟨T.cnt p, fun ⟨h1, h2⟩ => ?_⟩
 have hm : p.1 ∈ M := List.count_pos_iff.1 (by omega)
 obtain ⟨q, hq, e⟩ := T.all _ hm
 have := (T.cnt q hq).1
 have : q = p := by
  refine Prod.ext e ?_
  rw [this, e, h1]
 exact this ▸ hq
theorem IsTab.nil : IsTab [] [] := ⟨.nil, by simp, by simp⟩
theorem insT_mem {l : List Int} {n : Nat} : ∀ {A : List (List Int × Nat)} {p : List Int × Nat}, p ∈ insT A l n → p.1 = l ∨ p ∈ A
 | [], p, h => by
  simp only [insT, List.mem_singleton] at h
  exact .inl (by rw [h])
 |(a, c) :: A, p, h => by
  rw [insT] at h
  split at h
  ·rcases List.mem_cons.1 h with e | e
   ·exact .inr (by simp [e])
   ·rcases insT_mem e with q | q
    ·exact .inl q
    ·exact .inr (by simp [q])
  ·split at h
   ·rename_i e
    rcases List.mem_cons.1 h with q | q
    ·exact .inl (by rw [q, ← e])
    ·exact .inr (by simp [q])
   ·rcases List.mem_cons.1 h with q | q
    ·exact .inl (by rw [q])
    ·exact .inr q
theorem insT_srt {l : List Int} {n : Nat} : ∀ {A : List (List Int × Nat)}, A.Pairwise (fun a b => ordL a.1 b.1 < 0) → (insT A l n).Pairwise fun a b => ordL a.1 b.1 < 0
 | [], _ => by simp [insT]
 |(a, c) :: A, h => by
  rw [List.pairwise_cons] at h
  rw [insT]
  split
  ·rename_i c1
   refine List.pairwise_cons.2 ⟨fun p hp => ?_, insT_srt h.2⟩
   rcases insT_mem hp with e | e
   ·rw [e]; exact c1
   ·exact h.1 p e
  ·rename_i c1
   split
   ·exact List.pairwise_cons.2 ⟨fun p hp => h.1 p hp, h.2⟩
   ·rename_i c2
    have hl : ordL l a < 0 := by
     have h1 := pF a l
     by_cases e : ordL a l = 0
     ·exact absurd (ordL_eq e) c2
     ·omega
    refine List.pairwise_cons.2 ⟨fun p hp => ?_, List.pairwise_cons.2 h⟩
    rcases List.mem_cons.1 hp with e | e
    ·rw [e]; exact hl
    ·exact ordL_lt_trans hl (h.1 p e)
def cntT (A : List (List Int × Nat)) (y : List Int) : Nat := (A.map fun p => if p.1 = y then p.2 else 0).sum
theorem cntT_ins {l : List Int} {n : Nat} (y : List Int) : ∀ (A : List (List Int × Nat)), cntT (insT A l n) y = (if l = y then n else 0) + cntT A y
 | [] => by simp [insT, cntT]
 |(a, c) :: A => by
  rw [insT]
  split
  ·have := cntT_ins (l := l) (n := n) y A
   simp only [cntT, List.map_cons, List.sum_cons] at this ⊢
   omega
  ·split
   ·rename_i e
    subst e
    simp only [cntT, List.map_cons, List.sum_cons]
    split <;> omega
   ·simp only [cntT, List.map_cons, List.sum_cons]
theorem mR {y : List Int} : ∀ {A : List (List Int × Nat)}, (∀ q ∈ A, q.1 ≠ y) → cntT A y = 0
 | [], _ => rfl
 | a :: A, h => by
  have := mR (y := y) (A := A) fun q hq => h q (by simp [hq])
  simp only [cntT, List.map_cons, List.sum_cons] at this ⊢
  rw [if_neg (h a (by simp)), this]
theorem cntT_mem : ∀ {A : List (List Int × Nat)}, A.Pairwise (fun a b => ordL a.1 b.1 < 0) → ∀ p ∈ A, cntT A p.1 = p.2
 | [], _, p, h => by cases h
 | a :: A, hA, p, h => by
  rw [List.pairwise_cons] at hA
  simp only [cntT, List.map_cons, List.sum_cons]
  rcases List.mem_cons.1 h with e | e
  ·subst e
   rw [if_pos rfl]
   have : cntT A p.1 = 0 := mR fun q hq e => by
    have := hA.1 q hq
    rw [e, ordL_refl] at this; omega
   rw [cntT] at this; omega
  ·have h1 := hA.1 p e
   rw [if_neg (fun e => by rw [e, ordL_refl] at h1; omega)]
   have := cntT_mem hA.2 p e
   rw [cntT] at this; omega
theorem cntT_pos {A : List (List Int × Nat)} {y : List Int} (h : 0 < cntT A y) : ∃ p ∈ A, p.1 = y := by
 by_cases c : ∃ p ∈ A, p.1 = y
 ·exact c
 ·have := mR (A := A) (y := y) fun q hq e => c ⟨q, hq, e⟩
  omega
structure Tab (A : List (List Int × Nat)) (M : List (List Int)) : Prop where
 srt : A.Pairwise fun a b => ordL a.1 b.1 < 0
 cnt : ∀ y, cntT A y = M.count y
 pos : ∀ p ∈ A, 0 < p.2
theorem Tab.is {A : List (List Int × Nat)} {M : List (List Int)} (T : Tab A M) : IsTab A M := {
 srt := T.srt
 cnt p hp := ⟨by rw [← T.cnt, cntT_mem T.srt p hp], T.pos p hp⟩
 all y hy := cntT_pos (by rw [T.cnt]; exact List.count_pos_iff.2 hy) }
theorem Tab.nil : Tab [] [] := ⟨.nil, fun _ => rfl, by simp⟩
theorem insT_pos {l : List Int} {n : Nat} (hn : 0 < n) : ∀ {A : List (List Int × Nat)}, (∀ p ∈ A, 0 < p.2) → ∀ p ∈ insT A l n, 0 < p.2
 | [], _, p, h => by
  simp only [insT, List.mem_singleton] at h
  rw [h]; exact hn
 |(a, c) :: A, hA, p, h => by
  rw [insT] at h
  split at h
  ·rcases List.mem_cons.1 h with e | e
   ·rw [e]; exact hA _ (by simp)
   ·exact insT_pos hn (fun q hq => hA q (by simp [hq])) p e
  ·split at h
   ·rcases List.mem_cons.1 h with e | e
    ·rw [e]; have := hA (a, c) (by simp); simp only at this ⊢; omega
    ·exact hA p (by simp [e])
   ·rcases List.mem_cons.1 h with e | e
    ·rw [e]; exact hn
    ·exact hA p e
theorem Tab.ins {A : List (List Int × Nat)} {M : List (List Int)} {l : List Int} {n : Nat} (T : Tab A M) (hn : 0 < n) : Tab (insT A l n) (List.replicate n l ++ M) := {
 srt := insT_srt T.srt
 cnt y := by rw [cntT_ins, T.cnt, List.count_append, List.count_replicate]; simp only [beq_iff_eq]
 pos := insT_pos hn T.pos }
theorem Tab.perm {A : List (List Int × Nat)} {M M' : List (List Int)} (T : Tab A M) (h : M.Perm M') : Tab A M' := ⟨T.srt, fun y => (T.cnt y).trans (h.count_eq y), T.pos⟩
theorem Tab.fold {C : List (List Int × Nat)} {N : List (List Int)} : ∀ {A : List (List Int × Nat)} {M : List (List Int)}, Tab A M → Tab C N → Tab (C.foldl (fun A p => insT A p.1 p.2) A) (N ++ M) := by
 intro A M TA TC
 have key : ∀ (C : List (List Int × Nat)) (A : List (List Int × Nat)) (M : List (List Int)), Tab A M → (∀ p ∈ C, 0 < p.2) → Tab (C.foldl (fun A p => insT A p.1 p.2) A) ((C.flatMap fun p => List.replicate p.2 p.1) ++ M) := by
  intro C
  induction C with
  | nil => intro A M T _; exact T
  | cons c C ih =>
   intro A M T h
   rw [List.foldl_cons]
   refine (ih _ _ (T.ins (h c (by simp))) fun p hp => h p (by simp [hp])).perm ?_
   rw [List.flatMap_cons, ← List.append_assoc]
   exact List.perm_append_comm.append_right M
 refine (key C A M TA TC.pos).perm (List.Perm.append_right M ?_)
 rw [List.perm_iff_count]
 intro y
 rw [← TC.cnt]
 have : ∀ C : List (List Int × Nat), (C.flatMap fun p => List.replicate p.2 p.1).count y = cntT C y := by
  intro C
  induction C with
  | nil => rfl
  | cons c C ih =>
   rw [List.flatMap_cons, List.count_append, ih, List.count_replicate]
   simp only [cntT, List.map_cons, List.sum_cons, beq_iff_eq]
 exact this C
end Go.Ev
namespace Go.Ev
def fill (most : Nat) : Nat → List (List Nat)
 | 0 => [[]]
 | n + 1 => (fill most n).flatMap fun x => (List.range (most + 1)).map fun k => x ++ [k]
def gC (fr : Nat) (f : List Nat) (c : Int) : Nat := if (fr : Int) ≤ c then f.getD (c - fr).toNat 0 else 0
def con (fr : Nat) (f : List Nat) (l : List Int) : Nat := (l.map (gC fr f)).sum
end Go.Ev
namespace Go.Ev
open Go.Proofs
def shr (lines : List (List Int)) (f : List Nat) : List Int := lines.map fun l => ((con 0 f l : Nat) : Int)
end Go.Ev
namespace Go.Ev
open Go Go.Proofs
variable {B : Nat}
theorem pL {N : Pa → Prop} {O : AV → Prop} {hh : T Blk} {l : List AV} (h : ∀ v ∈ l, fixd v = true) : Frz True N O hh (.agg l) (.agg l) :=
 .agg _ _ rfl (List.all_eq_true.2 fun v hv => fixd.scal (h v hv)) fun i v v' h1 h2 => by rw [h1] at h2; cases h2; exact zO (h v (List.mem_of_getElem? h1))
theorem fixd_sys {cells : Int} {lines : List (List Int)} : ∀ v ∈ [I cells, encT lines], fixd v = true := fun v hv => by
 simp only [List.mem_cons, List.not_mem_nil, or_false] at hv
 rcases hv with rfl | rfl
 ·rfl
 ·exact vO lines
end Go.Ev
namespace Go.Ev
open Go Go.Proofs
variable {B : Nat}
end Go.Ev
namespace Go.Ev
def Nrm (f : List Int) : Prop := f.Nodup ∧ ∀ x ∈ f, 1 ≤ x ∧ x ≤ (f.length : Int)
theorem xI : ∀ (l r : List Int), l.Nodup → (∀ x ∈ l, x ∈ r) → ∃ s, r.Perm (l ++ s)
 | [], r, _, _ => ⟨r, .refl _⟩
 | a :: l, r, hn, hs => by
  obtain ⟨h1, h2⟩ := List.nodup_cons.1 hn
  have ha := hs a (by simp)
  obtain ⟨s, hp⟩ := xI l (r.erase a) h2 fun x hx => (List.mem_erase_of_ne (by rintro rfl; exact h1 hx)).2 (hs x (by simp [hx]))
  exact ⟨s, (List.perm_cons_erase ha).trans (.cons a hp)⟩
abbrev upTo (n : Nat) : List Int := (List.range n).map fun (i : Nat) => (i : Int) + 1
theorem upTo_sorted (n : Nat) : (upTo n).Pairwise (· ≤ ·) := by
 rw [List.pairwise_map]
 exact List.pairwise_lt_range.imp (by intro a b h; omega)
theorem upTo_nodup (n : Nat) : (upTo n).Nodup := by
 rw [List.Nodup, List.pairwise_map]
 exact List.pairwise_lt_range.imp (by intro a b h; omega)
theorem nrm_iff (f : List Int) : srt f = upTo f.length ↔ Nrm f := by
 constructor
 ·intro h
  have hp : (upTo f.length).Perm f := h ▸ xJ f
  refine ⟨hp.nodup_iff.1 (upTo_nodup _), fun x hx => ?_⟩
  have := hp.mem_iff.2 hx
  obtain ⟨i, hi, rfl⟩ := List.mem_map.1 this
  have := List.mem_range.1 hi
  omega
 ·rintro ⟨h1, h2⟩
  obtain ⟨s, hs⟩ := xI f (upTo f.length) h1 fun x hx => by
   obtain ⟨q1, q2⟩ := h2 x hx
   exact List.mem_map.2 ⟨(x - 1).toNat, List.mem_range.2 (by omega), by omega⟩
  have hl := hs.length_eq
  obtain rfl : s = [] := List.eq_nil_of_length_eq_zero (by rw [List.length_append, List.length_map, List.length_range] at hl; omega)
  rw [List.append_nil] at hs
  exact (wM hs (upTo_sorted _)).symm
def Rv (l cur : List Int) (i : Nat) : Prop := cur.length = l.length ∧ ∀ t, t < l.length → cur[t]? = if t < i ∨ l.length ≤ t + i then l[l.length - 1 - t]? else l[t]?
theorem Rv.done {l cur : List Int} {i : Nat} (h : Rv l cur i) (hi : l.length ≤ 2 * i + 1) : cur = l.reverse := by
 refine List.ext_getElem? fun t => ?_
 by_cases ht : t < l.length
 ·rw [h.2 t ht, List.getElem?_reverse ht]
  by_cases c : t < i ∨ l.length ≤ t + i
  ·rw [if_pos c]
  ·rw [if_neg c, show l.length - 1 - t = t by omega]
 ·rw [List.getElem?_eq_none (by rw [h.1]; omega), List.getElem?_eq_none (by simp; omega)]
theorem Rv.step {l cur : List Int} {i j : Nat} {a b : Int} (h : Rv l cur i) (hij : i < j) (hs : i + j + 1 = l.length) (ha : cur[i]? = some a) (hb : cur[j]? = some b) : Rv l ((cur.set i b).set j a) (i + 1) := by
 obtain ⟨hl, hg⟩ := h
 refine ⟨by simp [hl], fun t ht => ?_⟩
 have e1 := hg i (by omega)
 have e2 := hg j (by omega)
 rw [if_neg (by omega), ha] at e1
 rw [if_neg (by omega), hb] at e2
 rw [List.getElem?_set, List.getElem?_set, List.length_set]
 by_cases c1 : j = t
 ·subst c1
  rw [if_pos rfl, if_pos (by omega), if_pos (by omega), show l.length - 1 - j = i by omega]
  exact e1
 ·rw [if_neg c1]
  by_cases c2 : i = t
  ·subst c2
   rw [if_pos rfl, if_pos (by omega), if_pos (by omega), show l.length - 1 - i = j by omega]
   exact e2
  ·rw [if_neg c2, hg t ht]
   by_cases c3 : t < i ∨ l.length ≤ t + i
   ·rw [if_pos c3, if_pos (by omega)]
   ·rw [if_neg c3, if_neg (by omega)]
end Go.Ev
namespace Go.Ev
open Go.Proofs
end Go.Ev
namespace Go.Ev
open Go.Proofs
end Go.Ev
namespace Go.Ev
open Go Go.Proofs
variable {B : Nat}
theorem Hp.copyArrO {h0 h : T Blk} {nx : Pa} {L : List Ob} {K : AV → T Blk → Pa → OP} {z w : AV} {new : List AV} {c bytes : Nat} (H : Hp h0 h nx L) (hr : ∀ e h1 n1, Hp h0 h1 n1 (.arr e [] :: L) → ∀ (no : OP) (K' : List AV → Nat → OP), gX w h1 no K' = K' new c) (hl : new.length = c) (hs : new.all scal = true) (hb : bytes * 1000000 ≤ 70368744177664) (hc : c ≤ 1000000)
  (hK : ∀ id cap h' nx', bG c cap → Hp h0 h' nx' (.arr id new :: L) → K (.sl id 0 c cap 1) h' nx' = .ok True) :
  (yF 1 0 [z] [] h nx fun v1 h1 n1 => sApp 1 bytes v1 w h1 n1 K) = .ok True := by
 refine H.bslice (l := []) rfl fun e h1 n1 H1 => ?_
 unfold sApp appA
 rw [hr _ _ _ H1]
 have hcc : (Nat.ble (bytes * 1000000) 70368744177664 && Nat.beq new.length (c * 1) && Nat.ble 1 1 && new.all scal) = true := by
  simp only [Bool.and_eq_true, hs, and_true]
  exact ⟨⟨Nat.ble_eq_true_of_le hb, by rw [hl, Nat.mul_one]; exact Nat.beq_refl _⟩, rfl⟩
 rw [hcc, cond_true]
 obtain ⟨op, t, g1, g2⟩ : HasArr h1 e [] := H1.own _ (List.mem_cons_self ..)
 show (bif Nat.beq 1 1 && Nat.ble (0 + c) 1000000 then asCells (T.get .no e h1) _ (.no 35) else .no 36) = _
 rw [g1, Nat.ble_eq_true_of_le (by omega)]
 show (bif Nat.ble (0 + c) 0 then (bif Nat.ble (0 + (0 + c) * 1) 0 then uZ e 0 0 (some 0) 1 op 0 t new c h1 n1 _ else .no 32) else uD 0 0 1 t new c h1 n1 _) = _
 by_cases hc0 : c = 0
 ·subst hc0
  obtain rfl : new = [] := List.eq_nil_of_length_eq_zero hl
  rw [show Nat.ble (0 + 0) 0 = true from rfl, cond_true, cond_true]
  unfold uZ
  rw [jB, T.setK_eq, yD]
  exact hK e (some 0) _ _ (Nat.le_refl _) (H1.upd (k := 0) (x' := .arr e []) rfl (by simp [Ob.names]) rfl ⟨op, _, T.get_set_same _ _ _ _, rfl⟩)
 ·rw [bleF (by omega), cond_false]
  unfold uD
  rw [yC, yD]
  rw [Nat.zero_add]
  have H2 : Hp h0 (T.set .no (.cells true new.length (jA new .e 0)) n1 h1) n1.succ (.arr n1 new :: L) :=
   Hp.new (x := .arr n1 new) H1.drop rfl fun h' q => ⟨_, _, q, j6 new⟩
  exact hK n1 none _ _ trivial H2
end Go.Ev
namespace Go.Ev
open Go Go.Proofs
variable {B : Nat}
end Go.Ev
namespace Go.Ev
open Go Go.Proofs
variable {B : Nat}
end Go.Ev
namespace Go.Ev
open Go Go.Proofs
variable {B : Nat}
end Go.Ev
namespace Go.Ev
open Go.Proofs
end Go.Ev
namespace Go.Ev
open Go Go.Proofs
variable {B : Nat}
theorem frzGroC {h0 h : T Blk} {nx : Pa} {L : List Ob} {o : Option Pa} {n k : Nat} {l l' : List AV} (H : Hp h0 h nx L) (hk : L[k]? = some (.gro o 1 n l)) (hl : l'.length = l.length) (hs : l'.all scal = true) (hf : ∀ (i : Nat) (v v' : AV), l[i]? = some v → l'[i]? = some v' → FrzN h0 h v v') : FrzN h0 h (rowV o 1 n) (.lst 1 n l') := by
 have own := H.own _ (List.mem_of_getElem? hk)
 have hoff := H.off
 cases o with
 | none =>
  obtain ⟨rfl, rfl⟩ := own
  obtain rfl : l' = [] := by simpa using hl
  exact .lnils 1
 | some id =>
  obtain ⟨t, h1, h2, h3⟩ := own
  refine .sl _ _ _ _ _ true _ t _ (hoff id (List.mem_flatMap.2 ⟨_, List.mem_of_getElem? hk, by simp [Ob.names]⟩)) trivial h1 (by omega) (by rw [hl]; exact h2) hs fun i v hi => ?_
  have hil : i < l.length := by rw [← hl]; exact (List.getElem?_eq_some_iff.1 hi).1
  have := yL t 0 (n * 1) i (by rw [← h2]; exact hil)
  rw [h3, List.getElem?_eq_getElem hil] at this
  rw [← Option.some.inj this]
  exact hf i _ _ (List.getElem?_eq_getElem hil) hi
end Go.Ev
namespace Go.Ev
structure PermN (n : Nat) (to : List Int) : Prop where
 len : to.length = n
 nd : to.Nodup
 rg : ∀ x ∈ to, 0 ≤ x ∧ x < (n : Int)
theorem PermN.at {n : Nat} {to : List Int} (h : PermN n to) {i : Nat} (hi : i < n) : to[i]? = some (to.getD i 0) := by
 rw [List.getD_eq_getElem?_getD, List.getElem?_eq_getElem (by rw [h.len]; exact hi)]; rfl
theorem PermN.inj {n : Nat} {to : List Int} (h : PermN n to) {i j : Nat} (hi : i < n) (hj : j < n) (e : to.getD i 0 = to.getD j 0) : i = j := by
 obtain ⟨a1, a2⟩ := List.getElem?_eq_some_iff.1 (h.at hi)
 obtain ⟨b1, b2⟩ := List.getElem?_eq_some_iff.1 (h.at hj)
 have hp := List.pairwise_iff_getElem.1 h.nd
 rcases Nat.lt_trichotomy i j with c | c | c
 ·exact absurd (a2.trans (e.trans b2.symm)) (hp i j a1 b1 c)
 ·exact c
 ·exact absurd (b2.trans (e.symm.trans a2.symm)) (hp j i b1 a1 c)
end Go.Ev
namespace Go.Ev
end Go.Ev
namespace Go.Ev
open Go Go.Proofs
theorem cells_zero {cells : Int} : ∀ {l : List Int} {p : Option Int}, (∀ c ∈ l, 0 ≤ c ∧ c < cells) → l.Pairwise (· < ·) → (∀ q, p = some q → ∀ c ∈ l, q < c) → jQ cells p l = 0
 | [], _, _, _, _ => rfl
 | c :: l, p, h1, h2, h3 => by
  have h0 := h1 c (by simp)
  obtain ⟨h4, h5⟩ := List.pairwise_cons.1 h2
  rw [jQ, if_neg (by omega)]
  have : (p.any fun q => decide (c ≤ q)) = false := by
   cases p with
   | none => rfl
   | some q =>
    have := h3 q rfl c (by simp)
    simp; omega
  rw [this, if_neg (by simp)]
  exact cells_zero (fun x hx => h1 x (by simp [hx])) h5 fun q hq x hx => by
   have := Option.some.inj hq
   have := h4 x hx
   omega
end Go.Ev
namespace Go.Ev
open Go Go.Proofs
variable {B : Nat}
def mkL (n : Nat) (to line : List Int) (k : Nat) : List Bool := (List.range n).map fun c : Nat => (line.take k).any fun x => decide (to.getD x.toNat 0 = (c : Int))
@[simp] theorem mkL_length (n : Nat) (to line : List Int) (k : Nat) : (mkL n to line k).length = n := by simp [mkL]
theorem rowV_scal (o : Option Pa) (e n : Nat) : scal (rowV o e n) = true := by cases o <;> rfl
theorem sBuildS {n : Int} {K : AV → OP} : gB [(I 0), .nils] [(0, 1, I n)] K = K (.agg [I n, .nils]) := nr rfl
end Go.Ev
namespace Go.Ev
open Go Go.Proofs
variable {B : Nat}
noncomputable def killN (ns : List Pa) (h : T Blk) : T Blk := ns.foldl (fun h n => T.set .no .no n h) h
theorem pI : ∀ (ns : List Pa) (h : T Blk) (j : Pa), (j ∈ ns ∨ T.get .no j h = .no) → T.get .no j (killN ns h) = .no
  | [], h, j, q => by rcases q with q | q; · simp at q
                      · exact q
  | n :: ns, h, j, q => by
    show T.get .no j (killN ns (T.set .no .no n h)) = _
    refine pI ns _ j ?_
    by_cases e : j = n
    · subst e; exact .inr (T.get_set_same _ _ _ _)
    · rcases q with q | q
      · rcases List.mem_cons.1 q with q | q
        · exact absurd q e
        · exact .inl q
      · exact .inr (by rw [T.get_set_ne _ _ _ _ _ e]; exact q)
theorem vL : ∀ (ns : List Pa) (h : T Blk) (j : Pa), j ∉ ns → T.get .no j (killN ns h) = T.get .no j h
 | [], _, _, _ => rfl
 | n :: ns, h, j, q => by
  show T.get .no j (killN ns (T.set .no .no n h)) = _
  rw [vL ns _ j fun r => q (List.mem_cons_of_mem _ r), T.get_set_ne _ _ _ _ _ fun e => q (by rw [e]; exact List.mem_cons_self ..)]
theorem Hp.letAll {h0 h : T Blk} {nx : Pa} {A L : List Ob} (H : Hp h0 h nx (A ++ L)) : ∃ h', kI h' h ∧ Hp h0 h' nx L ∧ Hp h' h nx A := by
 have hnd := H.nd
 rw [List.flatMap_append] at hnd
 obtain ⟨n1, n2, n3⟩ := List.nodup_append.1 hnd
 have hoff : ∀ j, T.get .no j h0 ≠ .no → j ∉ A.flatMap Ob.names := fun j hj q => hj (H.off j (by rw [List.flatMap_append]; exact List.mem_append_left _ q))
 have hkp : kI (killN (A.flatMap Ob.names) h) h := fun j hj => by
  by_cases q : j ∈ A.flatMap Ob.names
  ·exact absurd (pI _ h j (.inl q)) hj
  ·exact (vL _ h j q).symm
 refine ⟨killN (A.flatMap Ob.names) h, hkp, ⟨fun j hj => ?_, fun y hy => ?_, fun n hn => ?_, n2, fun j hj => ?_⟩, ⟨hkp, fun y hy => H.own y (List.mem_append_left _ hy), fun n hn => pI _ h n (.inl hn), n1, H.fr⟩⟩
 ·rw [vL _ h j (hoff j hj)]; exact H.keep j hj
 ·refine (H.own y (List.mem_append_right _ hy)).congr fun m hm => vL _ h m fun q => ?_
  exact n3 m q m (List.mem_flatMap.2 ⟨y, hy, hm⟩) rfl
 ·exact H.off n (by rw [List.flatMap_append]; exact List.mem_append_right _ hn)
 ·exact pI _ h j (.inr (H.fr j hj))
theorem Hp.base {h0 h : T Blk} {nx : Pa} {L : List Ob} (H : Hp h0 h nx L) : Hp .e h nx L :=
 ⟨fun j hj => absurd (T.get_e _ j) hj, H.own, fun n _ => T.get_e _ n, H.nd, H.fr⟩
abbrev TRow := AV × Ob × List Int
def RowOk (t : TRow) : Prop := (∃ p cap, bG t.2.2.length cap ∧ t.2.1 = .arr p (t.2.2.map I) ∧ t.1 = .sl p 0 t.2.2.length cap 1) ∨ ∃ o, t.2.1 = .gro o 1 t.2.2.length (t.2.2.map I) ∧ t.1 = rowV o 1 t.2.2.length
theorem RowOk.scal {t : TRow} (h : RowOk t) : scal t.1 = true := by
 rcases h with ⟨p, cap, _, _, e⟩ | ⟨o, _, e⟩
 ·rw [e]; rfl
 ·rw [e]; exact rowV_scal _ _ _
theorem RowOk.cells {t : TRow} (h : RowOk t) : t.1.cells = some [t.1] := by
 rcases h with ⟨p, cap, _, _, e⟩ | ⟨o, _, e⟩
 ·rw [e]; rfl
 ·rw [e]; exact gV _ _ _
theorem fixd_Is (l : List Int) : ∀ v ∈ l.map I, fixd v = true := fun v hv => by obtain ⟨x, _, rfl⟩ := List.mem_map.1 hv; rfl
theorem RowOk.frz {h0 h : T Blk} {nx : Pa} {L : List Ob} {t : TRow} (hr : RowOk t) (H : Hp h0 h nx L) (hm : t.2.1 ∈ L) : FrzN h0 h t.1 (encI t.2.2) := by
 obtain ⟨k, hk⟩ := List.mem_iff_getElem?.1 hm
 rcases hr with ⟨p, cap, hc, e1, e2⟩ | ⟨o, e1, e2⟩
 ·rw [e1] at hk; rw [e2]
  exact H.frzArr hk hc (by simp) (fixd_Is _)
 ·rw [e1] at hk; rw [e2]
  exact H.frzGro hk (fixd_Is _)
theorem RowOk.len {h0 h : T Blk} {nx : Pa} {L : List Ob} {t : TRow} (hr : RowOk t) (H : Hp h0 h nx L) (hm : t.2.1 ∈ L) (op : AV → OP) : sLen t.1 op = op (I t.2.2.length) := by
 obtain ⟨k, hk⟩ := List.mem_iff_getElem?.1 hm
 rcases hr with ⟨p, cap, hc, e1, e2⟩ | ⟨o, e1, e2⟩
 ·rw [e2]; rfl
 ·rw [e1] at hk; rw [e2]; exact H.groLen hk
theorem RowOk.rd {h0 h : T Blk} {nx : Pa} {L : List Ob} {t : TRow} (hr : RowOk t) (H : Hp h0 h nx L) (hm : t.2.1 ∈ L) (no : OP) (K' : List AV → Nat → OP) : gX t.1 h no K' = K' (t.2.2.map I) t.2.2.length := by
 obtain ⟨k, hk⟩ := List.mem_iff_getElem?.1 hm
 rcases hr with ⟨p, cap, hc, e1, e2⟩ | ⟨o, e1, e2⟩
 ·rw [e1] at hk hm; rw [e2]
  exact HasArr.rd (H.own _ hm) (by simp) no K'
 ·rw [e1] at hk; rw [e2]
  rw [H.groRdHi hk (Nat.le_refl _), List.take_of_length_le (by simp)]
theorem tabFrz {h0 h : T Blk} {nx : Pa} {L : List Ob} {k : Nat} {o : Option Pa} {T : List TRow} (H : Hp h0 h nx L) (hk : L[k]? = some (.gro o 1 T.length (T.map (·.1)))) (hT : ∀ t ∈ T, RowOk t ∧ t.2.1 ∈ L) : FrzN h0 h (rowV o 1 T.length) (encT (T.map (·.2.2))) := by
 have e : encT (T.map (·.2.2)) = .lst 1 T.length (T.map fun t => encI t.2.2) := by simp [encT, List.map_map, Function.comp_def]
 rw [e]
 refine frzGroC H hk (by simp) (List.all_eq_true.2 fun v hv => ?_) fun i v v' h1 h2 => ?_
 ·obtain ⟨t, _, rfl⟩ := List.mem_map.1 hv; rfl
 ·rw [List.getElem?_map] at h1 h2
  cases ht : T[i]? with
  | none => rw [ht] at h1; cases h1
  | some t =>
   rw [ht] at h1 h2
   cases h1; cases h2
   obtain ⟨r1, r2⟩ := hT t (List.mem_of_getElem? ht)
   exact r1.frz H r2
theorem Hp.appFull {K : AV → T Blk → Pa → OP} {h0 h : T Blk} {nx : Pa} {L : List Ob} {k n bytes : Nat} {id : Pa} {l new : List AV} {x : AV} (H : Hp h0 h nx L) (hk : L[k]? = some (.arr id l)) (hl : l.length = n) (hx : ∀ (no : OP) (K' : List AV → Nat → OP), gX x h no K' = K' new 1) (hne : new.length = 1) (hs : new.all Go.Ev.scal = true) (hb : bytes * 1000000 ≤ 70368744177664) (hn : n + 1 ≤ 1000000)
  (hK : ∀ o' h' nx', Hp h0 h' nx' (.gro (some o') 1 (n + 1) (l ++ new) :: L) → K (rowV (some o') 1 (n + 1)) h' nx' = .ok True) : sApp 1 bytes (.sl id 0 n (some n) 1) x h nx K = .ok True := by
 have hc : (Nat.ble (bytes * 1000000) 70368744177664 && Nat.beq new.length (1 * 1) && Nat.ble 1 1 && new.all Go.Ev.scal) = true := by
  rw [hs, hne, Nat.ble_eq_true_of_le hb]; rfl
 unfold sApp appA
 rw [hx, hc, cond_true]
 obtain ⟨op, t, h1, h2⟩ := H.own _ (List.mem_of_getElem? hk)
 show (bif Nat.beq 1 1 && Nat.ble (n + 1) 1000000 then asCells (T.get .no id h) _ (.no 35) else .no 36) = _
 rw [h1, Nat.ble_eq_true_of_le hn]
 show (bif Nat.ble (0 + n * 1) l.length then (bif Nat.ble (n + 1) n then (bif Nat.ble (0 + (n + 1) * 1) l.length then uZ id 0 n (some n) 1 op l.length t new 1 h nx K else .no 32) else uD 0 n 1 t new 1 h nx K) else .no 34) = _
 rw [Nat.ble_eq_true_of_le (by omega), bleF (by omega), cond_true, cond_false]
 unfold uD
 rw [yC, yD]
 have er : yM t 0 (n * 1) = l := by rw [Nat.mul_one, ← hl]; exact h2
 rw [er]
 exact hK _ _ _ (Hp.new (x := .gro (some nx) 1 (n + 1) (l ++ new)) H rfl fun h' q => ⟨jA (l ++ new) .e 0, by rw [q]; simp [hne, hl], by simp [hne, hl], by have := j6 (l ++ new); rw [List.length_append, hne, hl] at this; rw [Nat.mul_one]; exact this⟩)
theorem mO {y : List UInt8} : ∀ (es : List (AV × AV)) (i : Nat), (∀ e ∈ es, ∃ s, e.1 = .str s ∧ s ≠ y) → kM .str (.str y) es i = some none
 | [], _, _ => rfl
 |(a, v) :: es, i, h => by
  obtain ⟨s, rfl, hs⟩ := h (a, v) (by simp)
  have hb : j9 y s = false := by
   cases q : j9 y s with
   | false => rfl
   | true => exact absurd (bytesEq_iff.1 q).symm hs
  show (match some (j9 y s) with
   | some true => some (some (i, v))
   | some false => kM .str (.str y) es (i + 1)
   | none => none) = _
  rw [hb]
  exact mO es (i + 1) fun e he => h e (by simp [he])
theorem Hp.lookNo {h0 h : T Blk} {nx : Pa} {L : List Ob} {k : Nat} {id : Pa} {es : List (AV × AV)} {y : List UInt8} {z : AV} {op : AV → OP} (H : Hp h0 h nx L) (hk : L[k]? = some (.map id es)) (hn : ∀ e ∈ es, ∃ s, e.1 = .str s ∧ s ≠ y) : xE .str z false (.map id) (.str y) h op = op z := by
 have own : T.get .no id h = .map _ _ := H.own _ (List.mem_of_getElem? hk)
 show asMapB (T.get .no id h) _ _ = _
 rw [own]
 show (match jZ .str (.str y) es with | some (some (_, v)) => op v | some none => op z | none => .no 20) = _
 rw [show jZ .str (.str y) es = kM .str (.str y) es 0 from rfl, mO es 0 hn]
theorem Hp.mapPut {K : AV → T Blk → Pa → OP} {h0 h : T Blk} {nx : Pa} {L : List Ob} {k : Nat} {id : Pa} {es : List (AV × AV)} {y : List UInt8} {x : AV} (H : Hp h0 h nx L) (hk : L[k]? = some (.map id es)) (hn : ∀ e ∈ es, ∃ s, e.1 = .str s ∧ s ≠ y)
  (hK : ∀ h', Hp h0 h' nx (L.set k (.map id (es ++ [(.str y, x)]))) → K .undef h' nx = .ok True) : p8 .str (.map id) (.str y) x h nx K = .ok True := by
 have own : T.get .no id h = .map _ _ := H.own _ (List.mem_of_getElem? hk)
 show asMapB (T.get .no id h) _ _ = _
 rw [own]
 show (match jZ .str (.str y) es with
    | some (some (i, _)) => T.setK (β := OP) Blk.no (Blk.map es.length (es.modify i fun e => (e.1, x))) id h fun h' => K .undef h' nx
    | some none => natK (es.length + 1) fun n => T.setK (β := OP) Blk.no (Blk.map n (es ++ [(AV.str y, x)])) id h fun h' => K .undef h' nx
    | none => Out.no 45) = _
 rw [show jZ .str (.str y) es = kM .str (.str y) es 0 from rfl, mO es 0 hn]
 simp only [yD, T.setK_eq]
 refine hK _ (H.upd hk (by simp [Ob.names]) rfl ?_)
 show T.get Blk.no id _ = Blk.map _ _
 rw [T.get_set_same, List.length_append]; rfl
structure LinesOk (lines : List (List Int)) : Prop where
 asc : ∀ l ∈ lines, l ≠ [] ∧ l.Pairwise (· < ·) ∧ Sml l ∧ l.length ≤ 1000
 nd : lines.Nodup
 len : lines.length ≤ 1000
theorem srt_asc {l : List Int} (h : l.Pairwise (· < ·)) : srt l = l := (wM (.refl l) (h.imp fun h => by omega)).symm
theorem collect146 {cells : Int} {lines : List (List Int)} (hj : ∀ B, JOk Tryz.prog B kE) (hl : LinesOk lines) : Pure Tryz.prog B 146 [I cells, encT lines] (· = .agg [I cells, encT lines]) := by
 refine yX fun h nx K H0 hK => zP zT dreg 10000 fun hf => ?_
 have hlen := hl.len
 rw [F146.go]
 refine H0.alloc fun r h1 nx1 H1 => ?_
 refine H1.mkmap fun mid h2 nx2 H2 => ?_
 rw [sBuildS]
 refine H2.alloc fun ob h3 nx3 H3 => ?_
 refine H3.storeN (l2 := [I cells, .nils]) (k := 0) rfl rfl rfl fun h4 H4 => ?_
 simp only [zF]
 refine F146.L1 (fun m x9 h' nx' => ∃ (i : Nat) (o : Option Pa), x9 = I i ∧ lines.length - i = m ∧ i ≤ lines.length ∧
  Hp h h' nx' [.gro o 1 i ((lines.take i).map encI), .arr ob [I cells, rowV o 1 i], .map mid ((lines.take i).map fun l => (AV.str (txt l), AV.bool true)), .arr r [I 0, .nils]]) (m := lines.length) (by omega) ⟨0, none, rfl, rfl, by omega, H4.addGro 1⟩ ?_
 rintro m z5 z6 z9 z10 z11 h5 nx5 R ⟨i, o, rfl, rfl, hi, H5⟩ hR
 simp only [sLss]
 by_cases hlt : i < lines.length
 case neg =>
  simp only [show ¬ (i : Int) < (lines.length : Int) by omega, decide_false, zA]
  obtain rfl : i = lines.length := by omega
  rw [F146.k8, H5.loadN (k := 1) (n := 2) rfl rfl]
  refine H5.storeN (l2 := [I cells, rowV o 1 lines.length]) (k := 3) rfl rfl rfl fun h6 H6 => ?_
  rw [H6.loadN (k := 3) (n := 2) rfl rfl]
  rw [List.take_of_length_le (by omega)] at H6
  have hF : FrzN h h6 (rowV o 1 lines.length) (encT lines) := H6.frzGro (k := 0) rfl fun v hv => by
   obtain ⟨l, _, rfl⟩ := List.mem_map.1 hv; exact kS l
  refine hK _ _ _ _ (AV.agg [I cells, encT lines]) H6 (Frz.agg _ _ rfl rfl fun j v v' h1 h2 => ?_) rfl
  match j, h1, h2 with
  | 0, h1, h2 => cases h1; cases h2; exact zO rfl
  | 1, h1, h2 => cases h1; cases h2; exact hF
  | j + 2, h1, h2 => simp at h1
 simp only [show (i : Int) < (lines.length : Int) by omega, decide_true, zC]
 obtain ⟨l, hline⟩ : ∃ l, lines[i]? = some l := ⟨_, List.getElem?_eq_getElem hlt⟩
 have hm := List.mem_of_getElem? hline
 obtain ⟨a1, a2, a3, a4⟩ := hl.asc l hm
 rw [sIxL rfl hlt, ldL (getT hline)]
 refine values126 _ _ _ _ ?_
 rintro _ rfl _
 refine sorted125 hj (by omega) _ _ _ _ ?_
 rintro _ rfl _
 rw [srt_asc a2]
 refine text171 a4 a3 _ _ _ _ ?_
 rintro _ rfl _
 have hnew : ∀ e ∈ (lines.take i).map (fun l => (AV.str (txt l), AV.bool true)), ∃ s, e.1 = .str s ∧ s ≠ txt l := fun e he => by
  obtain ⟨q, hq, rfl⟩ := List.mem_map.1 he
  refine ⟨_, rfl, fun e => ?_⟩
  obtain ⟨b1, b2, b3, b4⟩ := hl.asc q (List.mem_of_mem_take hq)
  have := txt_inj b3 a3 b1 a1 e
  subst this
  obtain ⟨j, hj⟩ := List.mem_iff_getElem?.1 hq
  have hjl := (List.getElem?_eq_some_iff.1 hj).1
  rw [List.length_take] at hjl
  rw [List.getElem?_take_of_lt (by omega)] at hj
  have hp := List.pairwise_iff_getElem.1 hl.nd j i (by omega) hlt (by omega)
  obtain ⟨_, c1⟩ := List.getElem?_eq_some_iff.1 hj
  obtain ⟨_, c2⟩ := List.getElem?_eq_some_iff.1 hline
  exact hp (c1.trans c2.symm)
 rw [H5.lookNo (k := 2) rfl hnew]
 simp only [zV, Bool.not_false, zC]
 refine H5.mapPut (k := 2) rfl hnew fun h6 H6 => ?_
 rw [sFx, H6.load (k := 1) (i := 0 + 1) rfl rfl]
 refine H6.bslice (l := [encI l]) rfl fun tb h7 nx7 H7 => ?_
 refine H7.appN (k := 1) (o := o) (c := 1) (new := [encI l]) rfl (HasArr.rd (l := [encI l]) (n := 1) (H7.own _ (List.mem_cons_self ..)) rfl) rfl rfl (by decide) (by decide) (by omega) fun o' h8 nx8 _ H8 => ?_
 rw [sFx]
 refine H8.store (k := 2) rfl (by simp) (gV _ _ _) fun h9 H9 => ?_
 rw [sAdd (by omega)]
 refine hR _ _ _ _ _ _ _ _ (by omega) ⟨i + 1, o', rfl, rfl, by omega, ?_⟩
 rw [List.take_add_one, hline, List.map_append, List.map_append]
 exact H9.drop
end Go.Ev
namespace Go.Ev
open Go Go.Proofs
variable {B : Nat}
def jY (V : Int) (seen : List (Int × Int)) (e : Int × Int) : Int := if ¬ (0 ≤ e.1 ∧ e.1 < V ∧ 0 ≤ e.2 ∧ e.2 < V) then 10 else if e.2 ≤ e.1 then 11 else if e ∈ seen then 9 else 0
def uB (V : Int) : List (Int × Int) → List (Int × Int) → Int
 | _, [] => 0
 | seen, e :: es => if jY V seen e ≠ 0 then jY V seen e else uB V (seen ++ [e]) es
def zY (V : Int) (E : List (Int × Int)) : Int := if V < 1 ∨ 16 < V then 3 else if 32 < E.length then 5 else uB V [] E
theorem edges_step {V : Int} {E : List (Int × Int)} {i : Nat} (h : i < E.length) : uB V (E.take i) (E.drop i) = if jY V (E.take i) E[i] ≠ 0 then jY V (E.take i) E[i] else uB V (E.take (i + 1)) (E.drop (i + 1)) := by
 rw [List.drop_eq_getElem_cons h, uB, List.take_add_one, List.getElem?_eq_getElem h]; rfl
theorem edges_ok {V : Int} : ∀ {es seen : List (Int × Int)}, uB V seen es = 0 → ∀ e ∈ es, (0 ≤ e.1 ∧ e.1 < V ∧ 0 ≤ e.2 ∧ e.2 < V) ∧ e.1 < e.2
 | [], _, _, e, h => by simp at h
 | a :: es, seen, h, e, he => by
  rw [uB] at h
  by_cases c : jY V seen a = 0
  ·rw [if_neg (by simp [c])] at h
   rcases List.mem_cons.1 he with rfl | he
   ·rw [jY] at c
    by_cases c1 : 0 ≤ e.1 ∧ e.1 < V ∧ 0 ≤ e.2 ∧ e.2 < V
    ·rw [if_neg (by simp [c1])] at c
     by_cases c2 : e.2 ≤ e.1
     ·rw [if_pos c2] at c; cases c
     ·exact ⟨c1, by omega⟩
    ·rw [if_pos c1] at c; cases c
   ·exact edges_ok h e he
  ·rw [if_pos c] at h; exact absurd h c
theorem qG {V : Int} {E : List (Int × Int)} (h : zY V E = 0) : (1 ≤ V ∧ V ≤ 16) ∧ E.length ≤ 32 ∧ ∀ e ∈ E, (0 ≤ e.1 ∧ e.1 < V ∧ 0 ≤ e.2 ∧ e.2 < V) ∧ e.1 < e.2 := by
 rw [zY] at h
 by_cases c : V < 1 ∨ 16 < V
 ·rw [if_pos c] at h; cases h
 rw [if_neg c] at h
 by_cases c2 : 32 < E.length
 ·rw [if_pos c2] at h; cases h
 rw [if_neg c2] at h
 exact ⟨by omega, by omega, edges_ok h⟩
theorem dM {V : Int} {E : List (Int × Int)} (hE : E.length ≤ 1000000) : Pure Tryz.prog B 42 [.agg [I V, encP E]] (· = I (zY V E)) := by
 refine yX fun h nx K H0 hK => zP zT dreg 10000000 fun hf => ?_
 rw [F42.go]
 refine H0.box (l := [I V, encP E]) rfl fun bx h1 nx1 H1 => ?_
 have ret : ∀ (v : Int) h' nx' L, v = zY V E → Hp h h' nx' L → K (I v) h' nx' = .ok True := fun v h' nx' L hv H' => by rw [hv]; exact hK _ _ _ _ _ H' (zO rfl) rfl
 rw [sFx, H1.load (k := 0) (i := 0) rfl rfl]
 simp only [sLss]
 by_cases c1 : V < 1
 ·simp only [c1, decide_true, yO, zI, zC]
  exact ret 3 _ _ _ (by rw [zY, if_pos (.inl c1)]) H1
 simp only [c1, decide_false, yN, sFx]
 rw [H1.load (k := 0) (i := 0) rfl rfl]
 simp only [sGtr, zK]
 by_cases c2 : 16 < V
 ·simp only [c2, decide_true, zC]
  exact ret 3 _ _ _ (by rw [zY, if_pos (.inr c2)]) H1
 simp only [c2, decide_false, zA, sFx]
 rw [H1.load (k := 0) (i := 0 + 1) rfl rfl]
 simp only [zF, sGtr]
 by_cases c3 : 32 < E.length
 ·simp only [show (32 : Int) < (E.length : Int) by omega, decide_true, zC]
  exact ret 5 _ _ _ (by rw [zY, if_neg (by omega), if_pos c3]) H1
 simp only [show ¬ (32 : Int) < (E.length : Int) by omega, decide_false, zA]
 have hg : zY V E = uB V (E.take 0) (E.drop 0) := by rw [zY, if_neg (by omega), if_neg c3]; rfl
 refine F42.L3 (fun m x3 h' nx' => ∃ (i : Nat) (X : List Ob), x3 = I i ∧ E.length - i = m ∧ i ≤ E.length ∧ zY V E = uB V (E.take i) (E.drop i) ∧ Hp h h' nx' (.arr bx [I V, encP E] :: X)) (m := E.length) (by omega) ⟨0, _, rfl, rfl, by omega, hg, H1⟩ ?_
 rintro m z2 z3 z4 z5 z8 z9 z10 z11 z12 h2 nx2 R ⟨i, X, rfl, rfl, hi, hg, H2⟩ hR
 rw [sFx, H2.load (k := 0) (i := 0 + 1) rfl rfl]
 simp only [zF, sLss]
 by_cases hlt : i < E.length
 case neg =>
  simp only [show ¬ (i : Int) < (E.length : Int) by omega, decide_false, zA]
  rw [F42.k19]
  exact ret 0 _ _ _ (by rw [hg, List.drop_of_length_le (by omega)]; rfl) H2
 simp only [show (i : Int) < (E.length : Int) by omega, decide_true, zC]
 rw [edges_step hlt] at hg
 rw [sFx, H2.load (k := 0) (i := 0 + 1) rfl rfl, sIxL rfl hlt, jN hlt, vC]
 refine H2.alloc fun b3 h3 nx3 H3 => ?_
 refine H3.storeN (k := 0) (n := 2) rfl rfl rfl fun h4 H4 => ?_
 have bad : ∀ (v : Int), v ≠ 0 → jY V (E.take i) E[i] = v → K (I v) h4 nx3 = .ok True := fun v h0 he => ret v _ _ _ (by rw [hg, he, if_pos h0]) H4
 have out : ¬ (0 ≤ E[i].1 ∧ E[i].1 < V ∧ 0 ≤ E[i].2 ∧ E[i].2 < V) → K (I 10) h4 nx3 = .ok True := fun c => bad 10 (by omega) (by rw [jY, if_pos c])
 rw [sAx0, H4.load (k := 0) (i := 0) rfl rfl]
 simp only [sLss]
 by_cases d1 : E[i].1 < 0
 ·simp only [d1, decide_true, yO, zI, zC]
  exact out (by omega)
 simp only [d1, decide_false, yN]
 rw [sAx0, H4.load (k := 0) (i := 0) rfl rfl, sFx, H4.load (k := 1) (i := 0) rfl rfl]
 simp only [sGeq, zK]
 by_cases d2 : V ≤ E[i].1
 ·simp only [d2, decide_true, yO, zI, zC]
  exact out (by omega)
 simp only [d2, decide_false, yN]
 rw [sAx1, H4.load (k := 0) (i := 0 + 1) rfl rfl]
 simp only [sLss, zK]
 by_cases d3 : E[i].2 < 0
 ·simp only [d3, decide_true, yO, zI, zC]
  exact out (by omega)
 simp only [d3, decide_false, yN]
 rw [sAx1, H4.load (k := 0) (i := 0 + 1) rfl rfl, sFx, H4.load (k := 1) (i := 0) rfl rfl]
 simp only [sGeq, zK]
 by_cases d4 : V ≤ E[i].2
 ·simp only [d4, decide_true, zC]
  exact out (by omega)
 simp only [d4, decide_false, zA]
 rw [F42.k9, sAx0, H4.load (k := 0) (i := 0) rfl rfl, sAx1, H4.load (k := 0) (i := 0 + 1) rfl rfl]
 simp only [sGeq]
 by_cases d5 : E[i].2 ≤ E[i].1
 ·simp only [d5, decide_true, zC]
  exact bad 11 (by omega) (by rw [jY, if_neg (by omega), if_pos d5])
 simp only [d5, decide_false, zA]
 refine F42.L11 (fun m x5 h' nx' => ∃ k : Nat, x5 = I k ∧ i - k = m ∧ k ≤ i ∧ h' = h4 ∧ nx' = nx3 ∧ ∀ j p, j < k → E[j]? = some p → p ≠ E[i]) (m := i) (by omega) ⟨0, rfl, rfl, by omega, rfl, rfl, fun j p hj => by omega⟩ ?_
 rintro m y2 y5 y11 y12 h4 nx3 R2 ⟨k, rfl, rfl, hk, rfl, rfl, hne⟩ hR2
 simp only [sLss]
 by_cases hkt : k < i
 ·simp only [show (k : Int) < (i : Int) by omega, decide_true, zC]
  have hkE : k < E.length := by omega
  rw [sFx, H4.load (k := 1) (i := 0 + 1) rfl rfl, sIxL rfl hkE, jN hkE, vC, H4.loadN (k := 0) (n := 2) rfl rfl, sEqlP]
  by_cases e : E[k] = E[i]
  ·rw [e]
   simp only [decide_true, Bool.and_self, zC]
   refine bad 9 (by omega) ?_
   rw [jY, if_neg (by omega), if_neg d5, if_pos]
   exact List.mem_of_getElem? (i := k) (by rw [List.getElem?_take_of_lt hkt, List.getElem?_eq_getElem hkE, e])
  ·have hb : (decide (E[k].1 = E[i].1) && decide (E[k].2 = E[i].2)) = false := by
    rw [Bool.eq_false_iff]
    intro q
    simp only [Bool.and_eq_true, decide_eq_true_eq] at q
    exact e (Prod.ext q.1 q.2)
   rw [hb, zA, sAdd (by omega)]
   refine hR2 _ _ _ _ _ _ _ (by omega) ⟨k + 1, rfl, rfl, by omega, rfl, rfl, fun j p hj hp => ?_⟩
   by_cases ej : j = k
   ·subst ej
    rw [List.getElem?_eq_getElem hkE] at hp
    exact (Option.some.inj hp) ▸ e
   ·exact hne j p (by omega) hp
 ·simp only [show ¬ (k : Int) < (i : Int) by omega, decide_false, zA]
  obtain rfl : k = i := by omega
  rw [F42.k18, sAdd (by omega)]
  have hz : jY V (E.take k) E[k] = 0 := by
   rw [jY, if_neg (by omega), if_neg d5, if_neg]
   intro q
   obtain ⟨j, hj⟩ := List.mem_iff_getElem?.1 q
   rw [List.getElem?_take] at hj
   split at hj
   ·exact hne j _ (by assumption) hj rfl
   ·cases hj
  rw [hz, if_neg (by simp)] at hg
  exact hR _ _ _ _ _ _ _ _ _ _ _ _ (by omega) ⟨k + 1, X, rfl, rfl, by omega, hg, H4.drop⟩
theorem index180 {q : List (Int × Int)} {e : Int × Int} (hq : q.length ≤ 1000000) : Pure Tryz.prog B 180 [encP q, .agg [I e.1, I e.2]] (fun v => ∃ r : Int, v = I r ∧ (0 ≤ r ↔ e ∈ q)) := by
 refine yX fun h nx K H0 hK => zP zT dreg 10000000 fun hf => ?_
 rw [F180.go]
 refine H0.box (l := [I e.1, I e.2]) rfl fun bx h1 nx1 H1 => ?_
 simp only [zF]
 refine F180.L1 (fun m z6 h' nx' => ∃ i : Nat, z6 = I i ∧ q.length - i = m ∧ i ≤ q.length ∧ h' = h1 ∧ nx' = nx1 ∧ e ∉ q.take i) (m := q.length) (by omega) ⟨0, rfl, rfl, by omega, rfl, rfl, by simp⟩ ?_
 rintro m z3 z4 z6 z7 z8 h1 nx1 R ⟨i, rfl, rfl, hi, rfl, rfl, hn⟩ hR
 simp only [sLss]
 by_cases hlt : i < q.length
 ·simp only [show (i : Int) < (q.length : Int) by omega, decide_true, zC]
  rw [H1.loadN (k := 0) (n := 2) rfl rfl, sIxL rfl hlt, jN hlt, vC, sEqlP]
  by_cases c : e = q[i]
  ·rw [c]
   simp only [decide_true, Bool.and_self, zC]
   refine hK _ _ _ _ _ H1 (zO rfl) ⟨_, rfl, ?_⟩
   exact ⟨fun _ => by rw [c]; exact List.getElem_mem hlt, fun _ => by omega⟩
  ·have hb : (decide (e.1 = q[i].1) && decide (e.2 = q[i].2)) = false := by
    rw [Bool.eq_false_iff]
    intro q
    simp only [Bool.and_eq_true, decide_eq_true_eq] at q
    exact c (Prod.ext q.1 q.2)
   rw [hb, zA, sAdd (by omega)]
   refine hR _ _ _ _ _ _ _ _ (by omega) ⟨i + 1, rfl, rfl, by omega, rfl, rfl, ?_⟩
   rw [List.take_add_one, List.getElem?_eq_getElem hlt, Option.toList_some]
   intro h
   rcases List.mem_append.1 h with q1 | q1
   ·exact hn q1
   ·simp at q1; exact c q1
 ·simp only [show ¬ (i : Int) < (q.length : Int) by omega, decide_false, zA]
  rw [F180.k8]
  rw [List.take_of_length_le (by omega)] at hn
  refine hK _ _ _ _ _ H1 (zO rfl) ⟨_, rfl, ?_⟩
  exact ⟨fun h => by omega, fun h => absurd h hn⟩
theorem contains166 {q : List (Int × Int)} {e : Int × Int} (hq : q.length ≤ 1000000) : Pure Tryz.prog B 166 [encP q, .agg [I e.1, I e.2]] (· = .bool (decide (e ∈ q))) := by
 refine yX fun h nx K H0 hK => zP zT dreg 1000 fun hf => ?_
 rw [F166.go]
 refine H0.box (l := [I e.1, I e.2]) rfl fun bx h1 nx1 H1 => ?_
 rw [H1.loadN (k := 0) (n := 2) rfl rfl]
 refine index180 hq _ _ _ _ ?_
 rintro _ ⟨r, rfl, hr⟩ _
 simp only [sGeq]
 refine hK _ _ _ _ _ H1 (zO rfl) ?_
 exact congrArg AV.bool (decide_eq_decide.2 hr)
theorem dE {V : Int} {E : List (Int × Int)} (hE : E.length ≤ 1000000) : Pure Tryz.prog B 133 [.agg [I V, encP E]] (· = I (zY V E)) := by
 refine yX fun h nx K H0 hK => zP zT dreg 10000000 fun hf => ?_
 rw [F133.go]
 refine H0.box (l := [I V, encP E]) rfl fun bx h1 nx1 H1 => ?_
 rw [sFx, H1.load (k := 0) (i := 0) rfl rfl, sFx, H1.load (k := 0) (i := 0 + 1) rfl rfl]
 simp only [zF, sGtr]
 refine H1.bslice (l := [I V]) rfl fun id h2 nx2 H2 => ?_
 simp only [zB, zF]
 rw [H2.load (k := 1) (i := 0 + 1) rfl rfl]
 simp only [zB, sFx]
 refine xX (args' := [I 1, I 16, encI [V]]) (.cons (.int _ _) (.cons (.int _ _) (.cons (HasArr.frz (H2.own (.arr id [I V]) (by simp)) (T.get_e _ id) (Nat.le_refl _) rfl (fun v hv => by simp at hv; subst hv; rfl)) .nil))) rfl (fun B => from122 (l := [V]) (by simp)) (fun v hv => by rw [hv]; exact .int _ _) ?_
 rintro _ rfl _
 rw [H2.load (k := 1) (i := 0 + 1) rfl rfl]
 simp only [zB, zF]
 refine u7 _ _ _ _ _ _ ?_
 rintro _ rfl _
 refine H2.bslice (l := [I (if [V].any (fun x => decide (x < 1) || decide (16 < x)) then 3 else 0), I (if decide (32 < (E.length : Int)) then 5 else 0)]) rfl fun id3 h3 nx3 H3 => ?_
 refine u4 (l := [if [V].any (fun x => decide (x < 1) || decide (16 < x)) then 3 else 0, if decide (32 < (E.length : Int)) then 5 else 0]) H3 (k := 0) rfl (fun B => xR (by simp)) (fun v hv => by rw [hv]; exact .int _ _) ?_
 rintro _ rfl
 have ret : ∀ (v : Int) h' nx' L, v = zY V E → Hp h h' nx' L → K (I v) h' nx' = .ok True := fun v h' nx' L hv H' => by rw [hv]; exact hK _ _ _ _ _ H' (zO rfl) rfl
 have ef : jC [if [V].any (fun x => decide (x < 1) || decide (16 < x)) then 3 else 0, if decide (32 < (E.length : Int)) then 5 else 0] = if V < 1 ∨ 16 < V then 3 else if 32 < E.length then 5 else 0 := by
  by_cases c : V < 1 ∨ 16 < V
  ·simp [jC, c]
  ·by_cases c2 : 32 < E.length
   ·have : (32 : Int) < (E.length : Int) := by omega
    simp [jC, c, c2, this]
   ·have : ¬ (32 : Int) < (E.length : Int) := by omega
    simp [jC, c, c2, this]
 rw [ef]
 simp only [sNeq]
 by_cases c1 : V < 1 ∨ 16 < V
 ·simp only [c1, if_true, show ¬ (3 : Int) = 0 by omega, decide_false, Bool.not_false, zC]
  exact ret 3 _ _ _ (by rw [zY, if_pos c1]) H3
 simp only [c1, if_false]
 by_cases c3 : 32 < E.length
 ·simp only [c3, if_true, show ¬ (5 : Int) = 0 by omega, decide_false, Bool.not_false, zC]
  exact ret 5 _ _ _ (by rw [zY, if_neg c1, if_pos c3]) H3
 simp only [c3, if_false, decide_true, Bool.not_true, zA, sFx]
 rw [H3.load (k := 2) (i := 0 + 1) rfl rfl]
 simp only [zF]
 have hg : zY V E = uB V (E.take 0) (E.drop 0) := by rw [zY, if_neg c1, if_neg c3]; rfl
 have H3' : Hp h h3 nx3 (.arr bx [I V, encP E] :: []) := H3.drop.drop
 clear H3
 refine F133.L2 (fun m x11 h' nx' => ∃ (i : Nat), x11 = I i ∧ E.length - i = m ∧ i ≤ E.length ∧ zY V E = uB V (E.take i) (E.drop i) ∧ Hp h h' nx' (.arr bx [I V, encP E] :: [])) (m := E.length) (by omega) ⟨0, rfl, rfl, by omega, hg, H3'⟩ ?_
 rintro m z2 z4 z5 z6 z7 z11 z12 z13 h4 nx4 R ⟨i, rfl, rfl, hi, hg, H4⟩ hR
 simp only [sLss]
 by_cases hlt : i < E.length
 case neg =>
  simp only [show ¬ (i : Int) < (E.length : Int) by omega, decide_false, zA]
  rw [F133.k10]
  exact ret 0 _ _ _ (by rw [hg, List.drop_of_length_le (by omega)]; rfl) H4
 simp only [show (i : Int) < (E.length : Int) by omega, decide_true, zC]
 rw [edges_step hlt] at hg
 rw [sIxL rfl hlt, jN hlt, vC]
 refine H4.alloc fun b5 h5 nx5 H5 => ?_
 refine H5.storeN (k := 0) (n := 2) rfl rfl rfl fun h6 H6 => ?_
 have H6 : Hp h h6 nx5 (.arr b5 [I E[i].1, I E[i].2] :: .arr bx [I V, encP E] :: []) := H6
 have tail : ∀ (kn : Bool) (z13 : AV), kn = decide (0 ≤ E[i].1 ∧ E[i].1 < V ∧ 0 ≤ E[i].2 ∧ E[i].2 < V) → IR.run F133.b8 (CS Tryz.prog B) 10000000 (((fnO F133.res K).blk 0 (IR.run F133.b10 (CS Tryz.prog B) 10000000 (fnO F133.res K) (retK F133.res K))).blk 1 (IR.run F133.b9 (CS Tryz.prog B) 10000000 ((fnO F133.res K).blk 0 (IR.run F133.b10 (CS Tryz.prog B) 10000000 (fnO F133.res K) (retK F133.res K))) R)) (IR.run F133.b9 (CS Tryz.prog B) 10000000 ((fnO F133.res K).blk 0 (IR.run F133.b10 (CS Tryz.prog B) 10000000 (fnO F133.res K) (retK F133.res K))) R) (F133.fr (.agg [I V, encP E]) (.ptr bx 0) z2 (I 0) (I i) (.ptr b5 0) (.bool kn) z7 (.bool false) (encP E) (I E.length) (I i) (.bool true) z13) h6 nx5 = .ok True := by
  intro kn z13 hkn
  rw [F133.k8]
  simp only [zV]
  rw [sAx0, H6.load (k := 0) (i := 0) rfl rfl, sAx1, H6.load (k := 0) (i := 0 + 1) rfl rfl]
  simp only [sGeq, sFx]
  rw [H6.load (k := 1) (i := 0 + 1) rfl rfl, sSliceP (by omega) (by omega), mP hi, H6.loadN (k := 0) (n := 2) rfl rfl]
  refine u7 _ _ _ _ _ _ ?_
  rintro _ rfl _
  rw [H6.loadN (k := 0) (n := 2) rfl rfl, zB, sSliceP (by omega) (by omega), mP hi]
  simp only [zB]
  rw [H6.load (k := 1) (i := 0 + 1) rfl rfl]
  simp only [zB, sFx, sGeq]
  rw [H6.load (k := 0) (i := 0 + 1) rfl rfl, zB, sAx1, zB, H6.load (k := 0) (i := 0) rfl rfl, zB, sAx0, zB]
  refine u7 _ _ _ _ _ _ ?_
  rintro _ rfl _
  rw [H6.loadN (k := 0) (n := 2) rfl rfl, zB, sSliceP (by omega) (by omega), mP hi]
  simp only [zB]
  rw [H6.load (k := 1) (i := 0 + 1) rfl rfl]
  simp only [zB, sFx]
  refine contains166 (e := E[i]) (by rw [List.length_take]; omega) _ _ _ _ ?_
  rintro _ rfl _
  refine u7 _ _ _ _ _ _ ?_
  rintro _ rfl _
  refine H6.bslice (l := [I (if (!kn) then 10 else 0), I (if decide (E[i].2 ≤ E[i].1) then 11 else 0), I (if decide (E[i] ∈ E.take i) then 9 else 0)]) rfl fun id7 h7 nx7 H7 => ?_
  refine u4 (l := [if (!kn) then 10 else 0, if decide (E[i].2 ≤ E[i].1) then 11 else 0, if decide (E[i] ∈ E.take i) then 9 else 0]) H7 (k := 0) rfl (fun B => xR (by simp)) (fun v hv => by rw [hv]; exact .int _ _) ?_
  rintro _ rfl
  have ee : jC [if (!kn) then 10 else 0, if decide (E[i].2 ≤ E[i].1) then 11 else 0, if decide (E[i] ∈ E.take i) then 9 else 0] = jY V (E.take i) E[i] := by
   by_cases d1 : 0 ≤ E[i].1 ∧ E[i].1 < V ∧ 0 ≤ E[i].2 ∧ E[i].2 < V
   ·have e0 : jY V (E.take i) E[i] = if E[i].2 ≤ E[i].1 then 11 else if E[i] ∈ E.take i then 9 else 0 := by rw [jY, if_neg (fun q => q d1)]
    rw [hkn, decide_eq_true d1, e0]
    by_cases d2 : E[i].2 ≤ E[i].1
    ·rw [if_pos d2, decide_eq_true d2]; rfl
    ·rw [if_neg d2, decide_eq_false d2]
     by_cases d3 : E[i] ∈ E.take i
     ·rw [if_pos d3, decide_eq_true d3]; rfl
     ·rw [if_neg d3, decide_eq_false d3]; rfl
   ·have e0 : jY V (E.take i) E[i] = 10 := by rw [jY, if_pos d1]
    rw [hkn, decide_eq_false d1, e0]; rfl
  rw [ee]
  simp only [sNeq]
  by_cases c : jY V (E.take i) E[i] = 0
  ·simp only [c, decide_true, Bool.not_true, zA]
   rw [F133.k9, sAdd (by omega)]
   rw [c, if_neg (by simp)] at hg
   exact hR _ _ _ _ _ _ _ _ _ _ _ (by omega) ⟨i + 1, rfl, rfl, by omega, hg, H7.drop.drop⟩
  ·simp only [c, decide_false, Bool.not_false, zC]
   rw [if_pos c] at hg
   exact ret _ _ _ _ hg.symm H7
 rw [sAx0, H6.load (k := 0) (i := 0) rfl rfl]
 simp only [sGeq]
 by_cases d1 : 0 ≤ E[i].1
 case neg =>
  simp only [d1, decide_false, yP, zK]
  exact tail false _ (decide_eq_false (by omega)).symm
 simp only [d1, decide_true, yJ]
 rw [sAx0, H6.load (k := 0) (i := 0) rfl rfl, sFx, H6.load (k := 1) (i := 0) rfl rfl]
 simp only [sLss, zI]
 by_cases d2 : E[i].1 < V
 case neg =>
  simp only [d2, decide_false, yP, zK]
  exact tail false _ (decide_eq_false (by omega)).symm
 simp only [d2, decide_true, yJ]
 rw [sAx1, H6.load (k := 0) (i := 0 + 1) rfl rfl]
 simp only [sGeq, zI]
 by_cases d3 : 0 ≤ E[i].2
 case neg =>
  simp only [d3, decide_false, yP, zK]
  exact tail false _ (decide_eq_false (by omega)).symm
 simp only [d3, decide_true, yJ]
 rw [sAx1, H6.load (k := 0) (i := 0 + 1) rfl rfl, sFx, H6.load (k := 1) (i := 0) rfl rfl]
 simp only [sLss, zI]
 exact tail _ _ (decide_eq_decide.2 (by omega))
end Go.Ev
namespace Go.Ev
open Go Go.Proofs
variable {B : Nat}
abbrev eAt (E : List (Int × Int)) (j : Nat) : Int × Int := E.getD j (0, 0)
def gO (V : Int) (E : List (Int × Int)) (i : Nat) : List (List Int) := (List.range i).map fun j => [(eAt E j).1, (eAt E j).2, V + (j : Int)]
def gU (V : Int) (E : List (Int × Int)) (v : Int) (k : Nat) : List Int := v :: ((List.range k).filter fun j => decide ((eAt E j).1 = v ∨ (eAt E j).2 = v)).map fun j : Nat => V + (j : Int)
def gS (V : Int) (E : List (Int × Int)) (k : Nat) : List (List Int) := (List.range k).map fun v : Nat => gU V E (v : Int) E.length
theorem edgeL_succ (V : Int) (E : List (Int × Int)) (i : Nat) : gO V E (i + 1) = gO V E i ++ [[(eAt E i).1, (eAt E i).2, V + (i : Int)]] := by simp [gO, List.range_succ]
theorem vertL_succ (V : Int) (E : List (Int × Int)) (k : Nat) : gS V E (k + 1) = gS V E k ++ [gU V E (k : Int) E.length] := by simp [gS, List.range_succ]
theorem starL_succ (V : Int) (E : List (Int × Int)) (v : Int) (k : Nat) : gU V E v (k + 1) = if (eAt E k).1 = v ∨ (eAt E k).2 = v then gU V E v k ++ [V + (k : Int)] else gU V E v k := by
 rw [gU, List.range_succ, List.filter_append, List.map_append]
 by_cases c : (eAt E k).1 = v ∨ (eAt E k).2 = v
 ·rw [if_pos c, List.filter_cons, if_pos (decide_eq_true c)]; rfl
 ·rw [if_neg c, List.filter_cons, if_neg (by simpa using c)]
  simp [gU]
theorem vA (V : Int) (E : List (Int × Int)) (v : Int) (k : Nat) : (gU V E v k).length ≤ k + 1 := by
 rw [gU, List.length_cons, List.length_map]
 have := List.length_filter_le (fun j => decide ((eAt E j).1 = v ∨ (eAt E j).2 = v)) (List.range k)
 rw [List.length_range] at this; omega
theorem vT {E : List (Int × Int)} {j : Nat} (h : j < E.length) : eAt E j = E[j] := by
 rw [eAt, List.getD_eq_getElem?_getD, List.getElem?_eq_getElem h]; rfl
theorem wW {V : Int} {E : List (Int × Int)} (h : zY V E = 0) : LinesOk (gO V E E.length) ∧ ∀ l ∈ gO V E E.length, AscL (V.toNat + E.length) l ∧ l.length = 3 := by
 obtain ⟨g1, g2, g3⟩ := qG h
 have key : ∀ l ∈ gO V E E.length, AscL (V.toNat + E.length) l ∧ l.length = 3 ∧ Sml l := by
  intro l hl
  obtain ⟨j, hj, rfl⟩ := List.mem_map.1 hl
  have hj := List.mem_range.1 hj
  have hm : eAt E j ∈ E := by rw [vT hj]; exact List.getElem_mem hj
  obtain ⟨⟨a1, a2, a3, a4⟩, a5⟩ := g3 _ hm
  refine ⟨⟨by simp, ?_, fun c hc => ?_⟩, rfl, fun x hx => ?_⟩
  ·simp only [List.pairwise_cons, List.mem_cons, List.not_mem_nil, or_false, forall_eq_or_imp, forall_eq, List.Pairwise.nil, and_true, false_implies, implies_true]
   omega
  ·simp only [List.mem_cons, List.not_mem_nil, or_false] at hc
   omega
  ·simp only [List.mem_cons, List.not_mem_nil, or_false] at hx
   omega
 refine ⟨⟨fun l hl => ?_, ?_, by simp [gO]; omega⟩, fun l hl => ⟨(key l hl).1, (key l hl).2.1⟩⟩
 ·obtain ⟨k1, k2, k3⟩ := key l hl
  exact ⟨k1.1, k1.2.1, k3, by omega⟩
 ·rw [gO, List.Nodup, List.pairwise_map]
  refine List.pairwise_lt_range.imp fun {a b} hab e => ?_
  simp only [List.cons.injEq, and_true] at e
  omega
theorem wL {V : Int} {E : List (Int × Int)} (h : zY V E = 0) : LinesOk (gS V E V.toNat) ∧ ∀ l ∈ gS V E V.toNat, AscL (V.toNat + E.length) l ∧ l.length ≤ 33 := by
 obtain ⟨g1, g2, g3⟩ := qG h
 have key : ∀ l ∈ gS V E V.toNat, AscL (V.toNat + E.length) l ∧ l.length ≤ 33 ∧ Sml l := by
  intro l hl
  obtain ⟨v, hv, rfl⟩ := List.mem_map.1 hl
  have hv := List.mem_range.1 hv
  have hmem : ∀ x ∈ gU V E (v : Int) E.length, x = (v : Int) ∨ ∃ j : Nat, j < E.length ∧ x = V + (j : Int) := by
   intro x hx
   rcases List.mem_cons.1 hx with q | q
   ·exact .inl q
   ·obtain ⟨j, hj, rfl⟩ := List.mem_map.1 q
    exact .inr ⟨j, List.mem_range.1 (List.mem_filter.1 hj).1, rfl⟩
  have hlen := vA V E (v : Int) E.length
  refine ⟨⟨by simp [gU], ?_, fun c hc => ?_⟩, by omega, fun x hx => ?_⟩
  ·rw [gU, List.pairwise_cons]
   refine ⟨fun x hx => ?_, ?_⟩
   ·obtain ⟨j, hj, rfl⟩ := List.mem_map.1 hx
    omega
   ·rw [List.pairwise_map]
    refine List.Pairwise.filter _ ?_
    exact List.pairwise_lt_range.imp fun h => by omega
  ·rcases hmem c hc with q | ⟨j, hj, q⟩ <;> omega
  ·rcases hmem x hx with q | ⟨j, hj, q⟩ <;> omega
 refine ⟨⟨fun l hl => ?_, ?_, by simp [gS]; omega⟩, fun l hl => ⟨(key l hl).1, (key l hl).2.1⟩⟩
 ·obtain ⟨k1, k2, k3⟩ := key l hl
  exact ⟨k1.1, k1.2.1, k3, by omega⟩
 ·rw [gS, List.Nodup, List.pairwise_map]
  refine List.pairwise_lt_range.imp ?_
  intro a b hab e
  simp only [gU, List.cons.injEq] at e
  omega
theorem sBuild0 {K : AV → OP} : gB [(I 0), .nils] [] K = K (.agg [I 0, .nils]) := nr rfl
abbrev qK (V : Int) (E : List (Int × Int)) : Int := jC [zY V E, if decide (E.length = 0) = true then 12 else 0]
abbrev sysV (V : Int) (E : List (Int × Int)) (ls : List (List Int)) : AV := .agg [I (V + (E.length : Int)), encT ls]
theorem fillCell {x : AV} (h : x.cells = some [x]) : jK (repl 1 [AV.nils]) [(0, 1, x)] = some [x] := by simp only [jK, h]; rfl
theorem collectO {h0 h : T Blk} {nx p : Pa} {o : Option Pa} {T : List TRow} {L : List Ob} {cells : Int} {K : Kw Prop} (hj : ∀ B, JOk Tryz.prog B kE) (hl : LinesOk (T.map (·.2.2))) (hT : ∀ t ∈ T, RowOk t)
  (H : Hp h0 h nx ((.gro o 1 T.length (T.map (·.1)) :: T.map (·.2.1)) ++ L))
  (hK : ∀ h', Hp h0 h' nx L → K (.agg [I cells, encT (T.map (·.2.2))]) h' nx = .ok True) : (CS Tryz.prog B).fn 146 p [I cells, rowV o 1 T.length] h nx K = .ok True := by
 obtain ⟨h', hkeep, H1, HA⟩ := H.letAll
 have hF := tabFrz HA (k := 0) rfl fun t ht => ⟨hT t ht, List.mem_cons_of_mem _ (List.mem_map_of_mem ht)⟩
 refine CS_let hkeep (.cons (.int _ _) (.cons hF .nil)) ?_
 refine collect146 hj hl _ _ _ _ ?_
 rintro _ rfl _
 exact hK h' H1
theorem edgeMagic115 {V : Int} {E : List (Int × Int)} (hj : ∀ B, JOk Tryz.prog B kE) (hE : E.length ≤ 1000000) : Pure Tryz.prog B 115 [.agg [I V, encP E]] (· = if qK V E ≠ 0 then .tup [.agg [I 0, .nils], I (qK V E)] else .tup [sysV V E (gO V E E.length), I 0]) := by
 refine yX fun h nx K H0 hK => zP zT dreg 10000 fun hf => ?_
 rw [F115.go]
 refine H0.box (l := [I V, encP E]) rfl fun bx h1 nx1 H1 => ?_
 refine H1.alloc fun r h2 nx2 H2 => ?_
 rw [H2.loadN (k := 1) (n := 2) rfl rfl]
 simp only [sFx]
 rw [H2.load (k := 1) (i := 0 + 1) rfl rfl]
 simp only [zF, sEql]
 refine dE hE _ _ _ _ ?_
 rintro _ rfl _
 simp only [zB]
 rw [H2.load (k := 1) (i := 0 + 1) rfl rfl]
 simp only [zB]
 refine u7 _ _ _ _ _ _ ?_
 rintro _ rfl _
 refine H2.bslice (l := [I (zY V E), I (if decide ((E.length : Int) = 0) = true then 12 else 0)]) rfl fun tb h3 nx3 H3 => ?_
 refine u4 (l := [zY V E, if decide ((E.length : Int) = 0) = true then 12 else 0]) H3 (k := 0) rfl (fun B => xR (by simp)) (fun v hv => by rw [hv]; exact .int _ _) ?_
 rintro _ rfl
 have e : jC [zY V E, if decide ((E.length : Int) = 0) = true then 12 else 0] = qK V E := by
  have : decide ((E.length : Int) = 0) = decide (E.length = 0) := decide_eq_decide.2 (by omega)
  rw [this]
 rw [e]
 simp only [sNeq]
 have H3 := H3.drop
 by_cases c : qK V E = 0
 case neg =>
  rw [if_pos c] at hK
  simp only [c, decide_false, Bool.not_false, zC]
  rw [sBuild0]
  refine H3.storeN (l2 := [I 0, .nils]) (k := 0) rfl rfl rfl fun h4 H4 => ?_
  rw [H4.loadN (k := 0) (n := 2) rfl rfl]
  exact hK _ _ _ _ _ H4 (jG (pL (by simp [fixd])) (zO rfl)) rfl
 have hg : zY V E = 0 := by
  by_cases q : zY V E = 0
  ·exact q
  ·rw [qK, jC, if_pos q] at c; exact absurd c q
 obtain ⟨g1, g2, g3⟩ := qG hg
 rw [if_neg (by simp [c])] at hK
 rw [c]
 simp only [decide_true, Bool.not_true, zA]
 rw [H3.load (k := 1) (i := 0 + 1) rfl rfl]
 simp only [zF]
 refine F115.L2 (fun m x5 x11 h' nx' => ∃ (i : Nat) (T : List TRow) (o : Option Pa), x11 = I i ∧ x5 = rowV o 1 T.length ∧ E.length - i = m ∧ i ≤ E.length ∧ T.map (·.2.2) = gO V E i ∧ (∀ t ∈ T, RowOk t) ∧
  Hp h h' nx' (.gro o 1 T.length (T.map (·.1)) :: .arr r [I 0, .nils] :: .arr bx [I V, encP E] :: T.map (·.2.1))) (m := E.length) (by omega) ⟨0, [], none, rfl, rfl, rfl, by omega, rfl, by simp, H3.addGro 1⟩ ?_
 rintro m z5 z6 z7 z11 z12 h4 nx4 R ⟨i, T, o, rfl, rfl, rfl, hi, hTl, hT, H4⟩ hR
 have hTn : T.length = i := by have := congrArg List.length hTl; simpa [gO] using this
 simp only [sLss]
 by_cases hlt : i < E.length
 case neg =>
  simp only [show ¬ (i : Int) < (E.length : Int) by omega, decide_false, zA]
  obtain rfl : i = E.length := by omega
  rw [F115.k9, sFx, H4.load (k := 2) (i := 0) rfl rfl, sFx, H4.load (k := 2) (i := 0 + 1) rfl rfl]
  simp only [zF]
  rw [sAdd (by omega)]
  have H5 : Hp h h4 nx4 ((.gro o 1 T.length (T.map (·.1)) :: T.map (·.2.1)) ++ [.arr r [I 0, .nils], .arr bx [I V, encP E]]) := H4.perm ((List.perm_append_comm (l₁ := [_, _])).cons _)
  refine collectO hj (by rw [hTl]; exact (wW hg).1) hT H5 fun h5 H6 => ?_
  rw [hTl]
  refine H6.storeN (l2 := [I (V + (E.length : Int)), encT (gO V E E.length)]) (k := 0) rfl rfl rfl fun h6 H7 => ?_
  rw [H7.loadN (k := 0) (n := 2) rfl rfl]
  exact hK _ _ _ _ _ H7 (jG (pL fixd_sys) (zO rfl)) rfl
 simp only [show (i : Int) < (E.length : Int) by omega, decide_true, zC]
 obtain ⟨⟨a1, a2, a3, a4⟩, a5⟩ := g3 _ (List.getElem_mem hlt)
 rw [sIxL rfl hlt, jN hlt, vC]
 refine H4.alloc fun b h5 nx5 H5 => ?_
 refine H5.storeN (k := 0) (n := 2) rfl rfl rfl fun h6 H6 => ?_
 rw [sAx0, H6.load (k := 0) (i := 0) rfl rfl, sAx1, H6.load (k := 0) (i := 0 + 1) rfl rfl, sFx, H6.load (k := 3) (i := 0) rfl rfl, sAdd (by omega)]
 refine H6.bslice (l := [I E[i].1, I E[i].2, I (V + (i : Int))]) rfl fun p h7 nx7 H7 => ?_
 refine H7.bslice (l := [.sl p 0 3 (some 3) 1]) rfl fun tb h8 nx8 H8 => ?_
 refine H8.appN (k := 3) (o := o) (c := 1) (new := [.sl p 0 3 (some 3) 1]) rfl (HasArr.rd (l := [.sl p 0 3 (some 3) 1]) (n := 1) (H8.own _ (List.mem_cons_self ..)) rfl) rfl rfl (by decide) (by decide) (by omega) fun o' h9 nx9 _ H9 => ?_
 rw [sAdd (by omega)]
 refine hR _ _ _ _ _ _ _ _ (by omega) ⟨i + 1, T ++ [(.sl p 0 3 (some 3) 1, .arr p [I E[i].1, I E[i].2, I (V + (i : Int))], [E[i].1, E[i].2, V + (i : Int)])], o', rfl, by rw [List.length_append]; rfl, rfl, by omega, ?_, ?_, ?_⟩
 ·rw [List.map_append, hTl, edgeL_succ, vT hlt]; rfl
 ·intro t ht
  rcases List.mem_append.1 ht with q | q
  ·exact hT t q
  ·rw [List.mem_singleton.1 q]
   exact .inl ⟨p, some 3, Nat.le_refl _, rfl, rfl⟩
 ·rw [List.length_append, List.map_append, List.map_append]
  have H10 : Hp h h9 nx9 (.arr p [I E[i].1, I E[i].2, I (V + (i : Int))] :: (.arr b [I E[i].1, I E[i].2] :: .gro o' 1 (T.length + 1) (T.map (·.1) ++ [.sl p 0 3 (some 3) 1]) :: .arr r [I 0, .nils] :: .arr bx [I V, encP E] :: T.map (·.2.1))) := H9.drop
  exact (H10.perm (List.perm_append_singleton _ _).symm).drop
end Go.Ev
