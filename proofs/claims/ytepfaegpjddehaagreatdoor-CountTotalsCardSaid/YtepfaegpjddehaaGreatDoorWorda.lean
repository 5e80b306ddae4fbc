import Derived.Test.YtepfaegpjddehaaGreatDoorWords
import Derived.Test.YtepfaegpjddehaaGreatDoorCode
import Derived.KernelRfl
import Derived.IntWalk
import Derived.Test.YtepfaegpjddehaaGreatDoorLaws
import Derived.Test.YtepfaegpjddehaaGreatDoorEvD
set_option linter.unusedSimpArgs false
set_option linter.unusedVariables false
namespace Go.Ev
open Go Go.Proofs
variable {B : Nat}
def smErr (cells : Int) (lines : List (List Int)) : Int := firstE [sysErr cells lines, if 9 < cells then 20 else 0]
theorem small106 {cells : Int} {lines : List (List Int)} (hw : ∀ q ∈ lines, q.length ≤ 1000000) : Pure Tryz.prog B 106 [.agg [I cells, encT lines]] (· = I (smErr cells lines)) := by
 refine pure_hp fun h nx K H0 hK => by_body tbl_ok dreg 1000 fun hf => ?_
 rw [F106.go]
 refine H0.box (l := [I cells, encT lines]) rfl fun bx h1 nx1 H1 => ?_
 rw [H1.loadN (k := 0) (n := 2) rfl rfl, sFx, H1.load (k := 0) (i := 0) rfl rfl]
 simp only [sGtr]
 refine sys81 hw _ _ _ _ ?_
 rintro _ rfl _
 simp only [sSame_refl, sFx]
 rw [H1.load (k := 0) (i := 0) rfl rfl]
 simp only [sSame_refl]
 refine whenB82 _ _ _ _ _ _ ?_
 rintro _ rfl _
 refine H1.bslice (l := [I (sysErr cells lines), I (if decide (9 < cells) then 20 else 0)]) rfl fun id h4 nx4 H4 => ?_
 refine own_plain (l := [sysErr cells lines, if decide (9 < cells) then 20 else 0]) H4 (k := 0) rfl (fun B => first80 (by simp)) (fun v hv => by rw [hv]; exact .int _ _) ?_
 rintro _ rfl
 refine hK _ _ _ _ _ H4 (frz_fixd rfl) ?_
 simp only [smErr, decide_eq_true_eq]
theorem smErr_eq (cells : Int) (lines : List (List Int)) : smErr cells lines = if sysErr cells lines ≠ 0 then sysErr cells lines else if 9 < cells then 20 else 0 := by
 by_cases c : sysErr cells lines = 0
 ·by_cases c2 : 9 < cells <;> simp [smErr, firstE, c, c2]
 ·simp [smErr, firstE, c]
end Go.Ev
namespace Go.Ev
def agrZ (lines : List (List Int)) (s : Int) (f : List Int) : Bool := lines.all fun l => decide ((f.length : Int) ≤ l.getLastD 0) || decide (lsumZ l f = s)
def enumR (lines : List (List Int)) (s : Int) (n : Nat) : Nat → List Int → List (List Int)
 | 0, pre => if agrZ lines s pre then [pre] else []
 | r + 1, pre => if agrZ lines s pre then (upTo n).flatMap fun x => if x ∈ pre then [] else enumR lines s n r (pre ++ [x]) else []
theorem agr_snoc {n : Nat} {lines : List (List Int)} {s : Int} {pre : List Int} {x : Int} (hl : ∀ l ∈ lines, AscL n l) : agrZ lines s (pre ++ [x]) = (agrZ lines s pre && okAt lines s pre.length (pre ++ [x])) := by
 rw [Bool.eq_iff_iff]
 simp only [agrZ, okAt, Bool.and_eq_true, List.all_eq_true, Bool.or_eq_true, decide_eq_true_eq, List.mem_filter]
 have key : ∀ l ∈ lines, l.getLastD 0 < (pre.length : Int) → lsumZ l (pre ++ [x]) = lsumZ l pre := fun l hm hlt => by
  have : (pre ++ [x]).take pre.length = pre := by simp
  rw [← lsum_take (f := pre ++ [x]) (m := pre.length), this]
  intro c hc
  have := le_lastZ (hl l hm).2.1 c hc
  have := ((hl l hm).2.2 c hc).1
  omega
 constructor
 ·intro h
  refine ⟨fun l hm => ?_, fun l ⟨hm, he⟩ => ?_⟩
  ·by_cases c : (pre.length : Int) ≤ l.getLastD 0
   ·exact .inl c
   ·refine .inr ?_
    rw [← key l hm (by omega)]
    rcases h l hm with q | q
    ·simp only [List.length_append, List.length_cons, List.length_nil] at q; omega
    ·exact q
  ·rcases h l hm with q | q
   ·simp only [List.length_append, List.length_cons, List.length_nil] at q; omega
   ·exact q
 ·rintro ⟨h1, h2⟩ l hm
  by_cases c : ((pre ++ [x]).length : Int) ≤ l.getLastD 0
  ·exact .inl c
  ·refine .inr ?_
   simp only [List.length_append, List.length_cons, List.length_nil] at c
   by_cases e : l.getLastD 0 = (pre.length : Int)
   ·exact h2 l ⟨hm, e⟩
   ·rw [key l hm (by omega)]
    rcases h1 l hm with q | q
    ·omega
    ·exact q
theorem flatMap_cong {α β : Type} {f g : α → List β} : ∀ {l : List α}, (∀ x ∈ l, f x = g x) → l.flatMap f = l.flatMap g
 | [], _ => rfl
 | a :: l, h => by rw [List.flatMap_cons, List.flatMap_cons, h a (by simp), flatMap_cong fun x hx => h x (by simp [hx])]
theorem enum_eq {n : Nat} {lines : List (List Int)} {s : Int} (hl : ∀ l ∈ lines, AscL n l) : ∀ (r : Nat) (pre : List Int), enumR lines s n r pre = if agrZ lines s pre then enumN lines s n r pre else []
 | 0, pre => rfl
 | r + 1, pre => by
  rw [enumR]
  cases c : agrZ lines s pre with
  | false => rfl
  | true =>
   rw [if_pos rfl, if_pos rfl, enumN]
   refine flatMap_cong fun x _ => ?_
   by_cases h : x ∈ pre
   ·rw [if_pos h, if_pos h]
   ·rw [if_neg h, if_neg h, enum_eq hl r (pre ++ [x]), agr_snoc hl, c, Bool.true_and]
theorem agr_nil {n : Nat} {lines : List (List Int)} {s : Int} (hl : ∀ l ∈ lines, AscL n l) : agrZ lines s [] = true := by
 simp only [agrZ, List.all_eq_true, Bool.or_eq_true, decide_eq_true_eq]
 intro l hm
 refine .inl ?_
 obtain ⟨h1, h2, h3⟩ := hl l hm
 obtain ⟨a, q⟩ := List.exists_mem_of_ne_nil l h1
 have := le_lastZ h2 a q
 have := (h3 a q).1
 simp only [List.length_nil]; omega
theorem enum_len {lines : List (List Int)} {s : Int} {n : Nat} : ∀ (r : Nat) (pre : List Int), (enumN lines s n r pre).length ≤ n ^ r
 | 0, pre => by simp [enumN]
 | r + 1, pre => by
  rw [enumN, List.length_flatMap]
  have : ∀ l : List Int, (l.map fun x => (if x ∈ pre then [] else if okAt lines s pre.length (pre ++ [x]) then enumN lines s n r (pre ++ [x]) else []).length).sum ≤ l.length * n ^ r := by
   intro l
   induction l with
   | nil => simp
   | cons a l ih =>
    rw [List.map_cons, List.sum_cons, List.length_cons, Nat.add_mul]
    have h1 : (if a ∈ pre then [] else if okAt lines s pre.length (pre ++ [a]) then enumN lines s n r (pre ++ [a]) else []).length ≤ n ^ r := by
     split
     ·simp
     ·split
      ·exact enum_len r _
      ·simp
    omega
  have h2 := this (upTo n)
  rw [List.length_map, List.length_range] at h2
  rw [Nat.pow_succ, Nat.mul_comm]; exact h2
def usedL (n : Nat) (pre : List Int) : List Bool := (List.range (n + 1)).map fun (k : Nat) => decide ((k : Int) ∈ pre)
theorem usedL_get {n k : Nat} {pre : List Int} (h : k ≤ n) : (usedL n pre)[k]? = some (decide ((k : Int) ∈ pre)) := by
 rw [usedL, List.getElem?_map, List.getElem?_range (by omega)]; rfl
theorem usedL_length (n : Nat) (pre : List Int) : (usedL n pre).length = n + 1 := by simp [usedL]
theorem usedL_on {n x : Nat} {pre : List Int} (h : x ≤ n) : (usedL n pre).set x true = usedL n (pre ++ [(x : Int)]) := by
 refine List.ext_getElem? fun k => ?_
 rw [List.getElem?_set]
 by_cases hk : k ≤ n
 ·rw [usedL_get hk, usedL_get hk, usedL_length]
  by_cases e : x = k
  ·subst e; rw [if_pos rfl, if_pos (by omega)]; simp
  ·have : ¬ (k : Int) = (x : Int) := by omega
   rw [if_neg e]; simp [this]
 ·rw [List.getElem?_eq_none (by rw [usedL_length]; omega), List.getElem?_eq_none (by rw [usedL_length]; omega), if_neg (by omega)]
theorem usedL_off {n x : Nat} {pre : List Int} (h : x ≤ n) (hx : (x : Int) ∉ pre) : (usedL n (pre ++ [(x : Int)])).set x false = usedL n pre := by
 refine List.ext_getElem? fun k => ?_
 rw [List.getElem?_set]
 by_cases hk : k ≤ n
 ·rw [usedL_get hk, usedL_get hk, usedL_length]
  by_cases e : x = k
  ·subst e; rw [if_pos rfl, if_pos (by omega)]; simp [hx]
  ·have : ¬ (k : Int) = (x : Int) := by omega
   rw [if_neg e]; simp [this]
 ·rw [List.getElem?_eq_none (by rw [usedL_length]; omega), List.getElem?_eq_none (by rw [usedL_length]; omega), if_neg (by omega)]
end Go.Ev
namespace Go.Ev
def agF (f : List Int) : List (List Int) → Option Int → Bool
 | [], _ => true
 | l :: ls, o => if (f.length : Int) ≤ l.getLastD 0 then agF f ls o else match o with
  | none => agF f ls (some (lsumZ l f))
  | some s => if lsumZ l f = s then agF f ls (some (lsumZ l f)) else false
def insS (x : Int) : List (Int × Int) → List (Int × Int)
 | [] => [(x, 1)]
 |(y, c) :: q => if y < x then (y, c) :: insS x q else if y = x then (y, IntKind.wrap .i64 (c + 1)) :: q else (x, 1) :: (y, c) :: q
theorem insS_hit {x c : Int} : ∀ {q : List (Int × Int)} {i : Nat}, (∀ j p, j < i → q[j]? = some p → p.1 < x) → q[i]? = some (x, c) → insS x q = q.set i (x, IntKind.wrap .i64 (c + 1))
 | [], i, _, h => by simp at h
 |(y, d) :: q, 0, _, h => by
  simp only [List.getElem?_cons_zero, Option.some.injEq, Prod.mk.injEq] at h
  obtain ⟨rfl, rfl⟩ := h
  rw [insS, if_neg (by omega), if_pos rfl]; rfl
 |(y, d) :: q, i + 1, h1, h => by
  have := h1 0 (y, d) (by omega) rfl
  rw [insS, if_pos this, insS_hit (i := i) (fun j p hj hp => h1 (j + 1) p (by omega) (by simpa using hp)) (by simpa using h)]; rfl
theorem insS_new {x : Int} : ∀ {q : List (Int × Int)} {i : Nat}, i ≤ q.length → (∀ j p, j < i → q[j]? = some p → p.1 < x) → (∀ p, q[i]? = some p → x < p.1) → insS x q = q.take i ++ [(x, 1)] ++ q.drop i
 | [], i, h, _, _ => by
  obtain rfl : i = 0 := by simpa using h
  rfl
 |(y, d) :: q, 0, _, _, h2 => by
  have := h2 (y, d) rfl
  rw [insS, if_neg (by simp at this; omega), if_neg (by simp at this; omega)]; rfl
 |(y, d) :: q, i + 1, h, h1, h2 => by
  have := h1 0 (y, d) (by omega) rfl
  rw [insS, if_pos this, insS_new (i := i) (by simpa using h) (fun j p hj hp => h1 (j + 1) p (by omega) (by simpa using hp)) (fun p hp => h2 p (by simpa using hp))]; rfl
def specF (lines : List (List Int)) (D : List (List Int)) : List (Int × Int) := match lines with
 | [] => []
 | l :: _ => D.foldl (fun q f => insS (lsumZ l f) q) []
theorem specF_snoc (lines : List (List Int)) (D : List (List Int)) (f : List Int) : specF lines (D ++ [f]) = match lines with | [] => [] | l :: _ => insS (lsumZ l f) (specF lines D) := by
 cases lines with
 | nil => rfl
 | cons l ls => simp [specF]
def enumG (ag : List Int → Bool) (n : Nat) : Nat → List Int → List (List Int)
 | 0, pre => if ag pre then [pre] else []
 | r + 1, pre => if ag pre then (upTo n).flatMap fun x => if x ∈ pre then [] else enumG ag n r (pre ++ [x]) else []
theorem enumG_mem {ag : List Int → Bool} {n : Nat} : ∀ {r : Nat} {pre f : List Int}, f ∈ enumG ag n r pre → (∀ x ∈ pre, 1 ≤ x ∧ x ≤ (n : Int)) → f.length = pre.length + r ∧ ∀ x ∈ f, 1 ≤ x ∧ x ≤ (n : Int)
 | 0, pre, f, h, hp => by
  rw [enumG] at h
  split at h
  ·simp at h; subst h; exact ⟨rfl, hp⟩
  ·simp at h
 | r + 1, pre, f, h, hp => by
  rw [enumG] at h
  split at h
  ·obtain ⟨x, hx, hx2⟩ := List.mem_flatMap.1 h
   split at hx2
   ·simp at hx2
   ·obtain ⟨i, hi, rfl⟩ := List.mem_map.1 hx
    have := List.mem_range.1 hi
    have := enumG_mem hx2 fun y hy => by
     rcases List.mem_append.1 hy with q | q
     ·exact hp y q
     ·simp at q; omega
    refine ⟨by have := this.1; simp at this; omega, this.2⟩
  ·simp at h
def SpOK (M : Int) (q : List (Int × Int)) : Prop := q.Pairwise (fun a b => a.1 < b.1) ∧ ∀ p ∈ q, 0 ≤ p.1 ∧ p.1 ≤ M
theorem insS_keys {x : Int} : ∀ {q : List (Int × Int)} {p : Int × Int}, p ∈ insS x q → p.1 = x ∨ ∃ p' ∈ q, p'.1 = p.1
 | [], p, h => by simp [insS] at h; subst h; exact .inl rfl
 |(y, c) :: q, p, h => by
  rw [insS] at h
  split at h
  ·rcases List.mem_cons.1 h with rfl | h
   ·exact .inr ⟨_, List.mem_cons_self .., rfl⟩
   ·rcases insS_keys h with q1 | ⟨p', q1, q2⟩
    ·exact .inl q1
    ·exact .inr ⟨p', List.mem_cons_of_mem _ q1, q2⟩
  ·split at h
   ·rcases List.mem_cons.1 h with rfl | h
    ·exact .inr ⟨_, List.mem_cons_self .., rfl⟩
    ·exact .inr ⟨p, List.mem_cons_of_mem _ h, rfl⟩
   ·rcases List.mem_cons.1 h with rfl | h
    ·exact .inl rfl
    ·exact .inr ⟨p, h, rfl⟩
theorem insS_asc {x : Int} : ∀ {q : List (Int × Int)}, q.Pairwise (fun a b => a.1 < b.1) → (insS x q).Pairwise (fun a b => a.1 < b.1)
 | [], _ => by simp [insS]
 |(y, c) :: q, h => by
  obtain ⟨h1, h2⟩ := List.pairwise_cons.1 h
  rw [insS]
  split
  ·rename_i hlt
   refine List.pairwise_cons.2 ⟨fun p hp => ?_, insS_asc h2⟩
   rcases insS_keys hp with q1 | ⟨p', q1, q2⟩
   ·show y < p.1; omega
   ·have := h1 p' q1; show y < p.1; simp at this; omega
  ·split
   ·exact List.pairwise_cons.2 ⟨fun p hp => h1 p hp, h2⟩
   ·refine List.pairwise_cons.2 ⟨fun p hp => ?_, h⟩
    rcases List.mem_cons.1 hp with rfl | hp
    ·show x < y; omega
    ·have := h1 p hp; show x < p.1; simp at this; omega
theorem specF_ok {n : Nat} {lines D : List (List Int)} (hl : ∀ l ∈ lines, l.length ≤ 1000) (hD : ∀ f ∈ D, ∀ x ∈ f, 1 ≤ x ∧ x ≤ (n : Int)) (hn : n ≤ 9) : SpOK 9000 (specF lines D) := by
 cases lines with
 | nil => exact ⟨List.Pairwise.nil, by simp [specF]⟩
 | cons l ls =>
  have : ∀ (D : List (List Int)) (q : List (Int × Int)), (∀ f ∈ D, ∀ x ∈ f, 1 ≤ x ∧ x ≤ (n : Int)) → SpOK 9000 q → SpOK 9000 (D.foldl (fun q f => insS (lsumZ l f) q) q) := by
   intro D
   induction D with
   | nil => intro q _ h; exact h
   | cons f D ih =>
    intro q hD h
    rw [List.foldl_cons]
    refine ih _ (fun f hf => hD f (List.mem_cons_of_mem _ hf)) ⟨insS_asc h.1, fun p hp => ?_⟩
    have hb := lsum_bd (M := 9) (f := f) (fun v hv => by have := hD f (List.mem_cons_self ..) v hv; omega) l
    have hll := hl l (List.mem_cons_self ..)
    rcases insS_keys hp with q1 | ⟨p', q1, q2⟩
    ·omega
    ·have := h.2 p' q1; omega
  exact this D [] hD ⟨List.Pairwise.nil, by simp⟩
theorem SpOK.len {q : List (Int × Int)} (h : SpOK 9000 q) : q.length ≤ 9001 := by
 obtain ⟨t, ht⟩ := sub_perm (q.map (·.1)) ((List.range 9001).map fun (i : Nat) => (i : Int)) (by
  rw [List.nodup_iff_pairwise_ne, List.pairwise_map]
  exact h.1.imp fun {a b} q e => by omega) fun x hx => by
  obtain ⟨p, hp, rfl⟩ := List.mem_map.1 hx
  have := h.2 p hp
  exact List.mem_map.2 ⟨p.1.toNat, List.mem_range.2 (by omega), by omega⟩
 have := ht.length_eq
 rw [List.length_map, List.length_range, List.length_append, List.length_map] at this
 omega
abbrev cntS (lines : List (List Int)) (n : Nat) (s : Int) : Nat := (enumN lines s n n []).length
def spF (lines : List (List Int)) (n : Nat) (s : Int) : Option (Int × Int) := if 0 < cntS lines n s then some (s, (cntS lines n s : Int)) else none
def spV (lines : List (List Int)) (n : Nat) (lo : Int) (m : Nat) : List (Int × Int) := ((List.range m).map fun (i : Nat) => lo + (i : Int)).filterMap (spF lines n)
theorem spV_succ (lines : List (List Int)) (n : Nat) (lo : Int) (m : Nat) : spV lines n lo (m + 1) = spV lines n lo m ++ (spF lines n (lo + (m : Int))).toList := by
 rw [spV, List.range_succ, List.map_append, List.filterMap_append]
 congr 1
theorem spV_len (lines : List (List Int)) (n : Nat) (lo : Int) (m : Nat) : (spV lines n lo m).length ≤ m := by
 refine Nat.le_trans (List.length_filterMap_le _ _) (by simp)
def factF : Nat → Nat
 | 0 => 1
 | n + 1 => (n + 1) * factF n
theorem agF_some (f : List Int) (s : Int) : ∀ lines : List (List Int), agF f lines (some s) = agrZ lines s f
 | [] => rfl
 | l :: ls => by
  have ih := agF_some f s ls
  rw [agF, agrZ, List.all_cons]
  by_cases c : (f.length : Int) ≤ l.getLastD 0
  ·simp only [c, if_true, decide_true, Bool.true_or, Bool.true_and]; rw [ih]; rfl
  ·simp only [c, if_false, decide_false, Bool.false_or]
   by_cases c2 : lsumZ l f = s
   ·simp only [c2, if_true, decide_true, Bool.true_and]; rw [ih]; rfl
   ·simp only [c2, if_false, decide_false, Bool.false_and]
theorem agF_none (f : List Int) : ∀ lines : List (List Int), agF f lines none = true ↔ ∃ s, agrZ lines s f = true
 | [] => by simp [agF, agrZ]
 | l :: ls => by
  have ih := agF_none f ls
  rw [agF]
  by_cases c : (f.length : Int) ≤ l.getLastD 0
  ·rw [if_pos c, ih]
   have e : ∀ s, agrZ (l :: ls) s f = agrZ ls s f := fun s => by rw [agrZ, List.all_cons, decide_eq_true c, Bool.true_or, Bool.true_and]; rfl
   simp only [e]
  ·rw [if_neg c, agF_some]
   have e : ∀ s, agrZ (l :: ls) s f = (decide (lsumZ l f = s) && agrZ ls s f) := fun s => by rw [agrZ, List.all_cons, decide_eq_false c, Bool.false_or]; rfl
   simp only [e, Bool.and_eq_true, decide_eq_true_eq]
   constructor
   ·intro h; exact ⟨_, rfl, h⟩
   ·rintro ⟨s, rfl, h⟩; exact h
def Here (ag : List Int → Bool) : Prop := ∀ pre x, ag (pre ++ [x]) = true → ag pre = true
theorem Here.down {ag q : List Int → Bool} {n : Nat} (hh : Here ag) : ∀ {r : Nat} {pre f : List Int}, f ∈ enumG q n r pre → ag f = true → ag pre = true
 | 0, pre, f, h, ha => by
  rw [enumG] at h
  split at h
  ·simp at h; subst h; exact ha
  ·simp at h
 | r + 1, pre, f, h, ha => by
  rw [enumG] at h
  split at h
  ·obtain ⟨x, _, hx⟩ := List.mem_flatMap.1 h
   split at hx
   ·simp at hx
   ·exact hh _ _ (Here.down hh hx ha)
  ·simp at h
abbrev perms (n r : Nat) (pre : List Int) : List (List Int) := enumG (fun _ => true) n r pre
theorem perms_succ (n r : Nat) (pre : List Int) : perms n (r + 1) pre = (upTo n).flatMap fun x => if x ∈ pre then [] else perms n r (pre ++ [x]) := by rw [perms, enumG, if_pos rfl]
theorem enumG_filter {ag : List Int → Bool} {n : Nat} (hh : Here ag) : ∀ (r : Nat) (pre : List Int), enumG ag n r pre = (perms n r pre).filter ag
 | 0, pre => by
  cases c : ag pre <;> simp [enumG, c]
 | r + 1, pre => by
  cases c : ag pre with
  | false =>
   rw [enumG, c]
   refine (List.filter_eq_nil_iff.2 fun f hf ha => ?_).symm
   rw [hh.down hf ha] at c; cases c
  | true =>
   rw [enumG, c, if_pos rfl]
   rw [perms_succ, List.filter_flatMap]
   refine flatMap_cong fun x _ => ?_
   by_cases h : x ∈ pre
   ·simp [h]
   ·simp only [h, if_false]
    exact enumG_filter hh r _
theorem enumR_G {lines : List (List Int)} {s : Int} {n : Nat} : ∀ (r : Nat) (pre : List Int), enumR lines s n r pre = enumG (agrZ lines s) n r pre
 | 0, _ => rfl
 | r + 1, pre => by
  rw [enumR, enumG]
  cases agrZ lines s pre with
  | false => rfl
  | true =>
   rw [if_pos rfl, if_pos rfl]
   refine flatMap_cong fun x _ => ?_
   rw [enumR_G r]
theorem agr_here {n : Nat} {lines : List (List Int)} {s : Int} (hl : ∀ l ∈ lines, AscL n l) : Here (agrZ lines s) := fun pre x h => by
 rw [agr_snoc hl, Bool.and_eq_true] at h; exact h.1
theorem agF_here {n : Nat} {lines : List (List Int)} (hl : ∀ l ∈ lines, AscL n l) : Here fun f => agF f lines none := fun pre x h => by
 obtain ⟨s, hs⟩ := (agF_none _ _).1 h
 exact (agF_none _ _).2 ⟨s, agr_here hl _ _ hs⟩
theorem enumN_perms {n : Nat} {lines : List (List Int)} {s : Int} (hl : ∀ l ∈ lines, AscL n l) : enumN lines s n n [] = (perms n n []).filter (agrZ lines s) := by
 have := enum_eq (s := s) hl n []
 rw [agr_nil hl, if_pos rfl, enumR_G, enumG_filter (agr_here hl)] at this
 exact this.symm
abbrev enumF (lines : List (List Int)) (n : Nat) : List (List Int) := enumG (fun f => agF f lines none) n n []
theorem enumF_perms {n : Nat} {lines : List (List Int)} (hl : ∀ l ∈ lines, AscL n l) : enumF lines n = (perms n n []).filter fun f => agF f lines none := enumG_filter (agF_here hl) _ _
theorem perms_mem {n : Nat} : ∀ {r : Nat} {pre f : List Int}, f ∈ perms n r pre → pre.Nodup → (∀ x ∈ pre, 1 ≤ x ∧ x ≤ (n : Int)) → f.length = pre.length + r ∧ f.Nodup ∧ ∀ x ∈ f, 1 ≤ x ∧ x ≤ (n : Int)
 | 0, pre, f, h, h1, h2 => by
  simp [enumG] at h; subst h; exact ⟨rfl, h1, h2⟩
 | r + 1, pre, f, h, h1, h2 => by
  rw [perms_succ] at h
  obtain ⟨x, hx, hx2⟩ := List.mem_flatMap.1 h
  by_cases c : x ∈ pre
  ·simp [c] at hx2
  ·rw [if_neg c] at hx2
   obtain ⟨i, hi, rfl⟩ := List.mem_map.1 hx
   have := List.mem_range.1 hi
   obtain ⟨q1, q2⟩ := perms_mem hx2 (List.nodup_append.2 ⟨h1, by simp, fun a ha b hb e => by simp at hb; subst hb; subst e; exact c ha⟩) fun y hy => by
    rcases List.mem_append.1 hy with q | q
    ·exact h2 y q
    ·simp at q; omega
   exact ⟨by simp at q1; omega, q2⟩
theorem perms_nrm {n : Nat} {f : List Int} (h : f ∈ perms n n []) : f.length = n ∧ Nrm f := by
 obtain ⟨h1, h2, h3⟩ := perms_mem h (by simp) (by simp)
 simp at h1
 exact ⟨h1, h2, fun x hx => by rw [h1]; exact h3 x hx⟩
theorem last_memZ {l : List Int} (h : l ≠ []) : l.getLastD 0 ∈ l := by
 obtain ⟨a, q, rfl⟩ : ∃ a q, l = q ++ [a] := ⟨l.getLast h, l.dropLast, (List.dropLast_concat_getLast h).symm⟩
 rw [List.getLastD_eq_getLast?, List.getLast?_concat]; simp
theorem agr_full {n : Nat} {l : List Int} {ls : List (List Int)} {s : Int} {f : List Int} (hl : ∀ q ∈ l :: ls, AscL n q) (hf : f.length = n) : agrZ (l :: ls) s f = (agF f (l :: ls) none && decide (lsumZ l f = s)) := by
 have ha := hl l (by simp)
 have hlast := ha.2.2 _ (last_memZ ha.1)
 have c : ¬ (f.length : Int) ≤ l.getLastD 0 := by omega
 rw [agF, if_neg c, agF_some]
 have e : agrZ (l :: ls) s f = (decide (lsumZ l f = s) && agrZ ls s f) := by rw [agrZ, List.all_cons, decide_eq_false c, Bool.false_or]; rfl
 rw [e]
 by_cases c2 : lsumZ l f = s
 ·subst c2; simp
 ·simp [c2]
theorem enumF_filter {n : Nat} {l : List Int} {ls : List (List Int)} (s : Int) (hl : ∀ q ∈ l :: ls, AscL n q) : (enumF (l :: ls) n).filter (fun f => decide (lsumZ l f = s)) = enumN (l :: ls) s n n [] := by
 rw [enumF_perms hl, enumN_perms hl, List.filter_filter]
 refine List.filter_congr fun f hf => ?_
 rw [agr_full hl (perms_nrm hf).1, Bool.and_comm]
theorem perms_len {n : Nat} : ∀ {r : Nat} {pre : List Int}, pre.Nodup → (∀ x ∈ pre, 1 ≤ x ∧ x ≤ (n : Int)) → pre.length + r = n → (perms n r pre).length = factF r
 | 0, pre, _, _, _ => by simp [enumG, factF]
 | r + 1, pre, h1, h2, h3 => by
  rw [perms_succ, List.length_flatMap]
  have key : ∀ l : List Int, (∀ x ∈ l, 1 ≤ x ∧ x ≤ (n : Int)) → (l.map fun x => (if x ∈ pre then [] else perms n r (pre ++ [x])).length).sum = (l.filter fun x => decide (x ∉ pre)).length * factF r := by
   intro l
   induction l with
   | nil => intro _; simp
   | cons a l ih =>
    intro hl
    rw [List.map_cons, List.sum_cons, ih fun x hx => hl x (by simp [hx])]
    by_cases c : a ∈ pre
    ·simp [c]
    ·rw [if_neg c, perms_len (List.nodup_append.2 ⟨h1, by simp, fun x hx b hb e => by simp at hb; subst hb; subst e; exact c hx⟩) (fun y hy => by
      rcases List.mem_append.1 hy with q | q
      ·exact h2 y q
      ·simp at q; subst q; exact hl y (by simp)) (by simp; omega)]
     simp only [List.filter_cons, c, not_false_eq_true, decide_true, if_true, List.length_cons, Nat.add_mul]
     omega
  rw [key _ fun x hx => by
   obtain ⟨i, hi, rfl⟩ := List.mem_map.1 hx
   have := List.mem_range.1 hi; omega]
  have hc : ((upTo n).filter fun x => decide (x ∉ pre)).length = r + 1 := by
   obtain ⟨t, ht⟩ := sub_perm pre (upTo n) h1 fun x hx => by
    have := h2 x hx
    exact List.mem_map.2 ⟨(x - 1).toNat, List.mem_range.2 (by omega), by omega⟩
   have hn := ht.nodup_iff.1 (upTo_nodup n)
   have hp := ht.filter fun x => decide (x ∉ pre)
   rw [hp.length_eq, List.filter_append]
   have e1 : pre.filter (fun x => decide (x ∉ pre)) = [] := List.filter_eq_nil_iff.2 fun x hx => by simp [hx]
   have e2 : t.filter (fun x => decide (x ∉ pre)) = t := List.filter_eq_self.2 fun x hx => by
    simp only [decide_eq_true_eq]
    intro q
    exact (List.nodup_append.1 hn).2.2 x q x hx rfl
   rw [e1, e2, List.nil_append]
   have := ht.length_eq
   simp at this; omega
  rw [hc, factF]
def lkS : List (Int × Int) → Int → Int
 | [], _ => 0
 |(y, c) :: q, s => if y = s then c else lkS q s
abbrev AscP (q : List (Int × Int)) : Prop := q.Pairwise (fun a b => a.1 < b.1)
theorem lkS_not : ∀ {q : List (Int × Int)} {s : Int}, (∀ p ∈ q, p.1 ≠ s) → lkS q s = 0
 | [], _, _ => rfl
 |(y, c) :: q, s, h => by
  rw [lkS, if_neg (h (y, c) (by simp)), lkS_not fun p hp => h p (by simp [hp])]
theorem lkS_mem : ∀ {q : List (Int × Int)} {p : Int × Int}, AscP q → p ∈ q → lkS q p.1 = p.2
 | [], _, _, h => by simp at h
 |(y, c) :: q, p, ha, h => by
  obtain ⟨h1, h2⟩ := List.pairwise_cons.1 ha
  rw [lkS]
  rcases List.mem_cons.1 h with rfl | h
  ·simp
  ·have := h1 p h
   rw [if_neg (by simp at this; omega), lkS_mem h2 h]
theorem lkS_uniq : ∀ {q r : List (Int × Int)}, AscP q → AscP r → (∀ p ∈ q, 0 < p.2) → (∀ p ∈ r, 0 < p.2) → (∀ s, lkS q s = lkS r s) → q = r
 | [], [], _, _, _, _, _ => rfl
 | [], (y, c) :: r, _, _, _, hp, h => by
  have := h y
  rw [lkS, lkS, if_pos rfl] at this
  have := hp (y, c) (by simp)
  simp at this; omega
 |(y, c) :: q, [], _, _, hp, _, h => by
  have := h y
  rw [lkS, lkS, if_pos rfl] at this
  have := hp (y, c) (by simp)
  simp at this; omega
 |(y, c) :: q, (z, d) :: r, hq, hr, hp, hp', h => by
  obtain ⟨q1, q2⟩ := List.pairwise_cons.1 hq
  obtain ⟨r1, r2⟩ := List.pairwise_cons.1 hr
  have c1 := hp (y, c) (by simp)
  have d1 := hp' (z, d) (by simp)
  simp only at c1 d1
  have hy := h y
  have hz := h z
  have a1 : y < z → False := fun hlt => by
   rw [lkS, if_pos rfl, lkS_not] at hy
   ·omega
   ·intro p hp
    rcases List.mem_cons.1 hp with rfl | hp
    ·simp; omega
    ·have := r1 p hp; simp at this; omega
  have a2 : z < y → False := fun hlt => by
   rw [lkS_not, lkS, if_pos rfl] at hz
   ·omega
   ·intro p hp
    rcases List.mem_cons.1 hp with rfl | hp
    ·simp; omega
    ·have := q1 p hp; simp at this; omega
  obtain rfl : y = z := by
   rcases Int.lt_trichotomy y z with q | q | q
   ·exact (a1 q).elim
   ·exact q
   ·exact (a2 q).elim
  rw [lkS, lkS, if_pos rfl, if_pos rfl] at hy
  subst hy
  congr 1
  refine lkS_uniq q2 r2 (fun p hq => hp p (by simp [hq])) (fun p hq => hp' p (by simp [hq])) fun s => ?_
  by_cases e : y = s
  ·subst e
   rw [lkS_not fun p hp => by have := q1 p hp; simp at this; omega, lkS_not fun p hp => by have := r1 p hp; simp at this; omega]
  ·have := h s
   rw [lkS, lkS, if_neg e, if_neg e] at this
   exact this
theorem wrapZs {k : Int} (h : 0 ≤ k) (h2 : k ≤ 2000000000) : IntKind.wrap .i64 k = k := Go.IntWalk.i64_in _ (by omega)
theorem lkS_ins {x s : Int} : ∀ {q : List (Int × Int)}, AscP q → lkS (insS x q) s = if x = s then IntKind.wrap .i64 (lkS q x + 1) else lkS q s
 | [], _ => by
  rw [insS, lkS]
  by_cases c : x = s
  ·subst c; simp only [lkS, if_true]; exact (wrapZs (k := 0 + 1) (by omega) (by omega)).symm
  ·simp [c, lkS]
 |(y, c) :: q, h => by
  obtain ⟨h1, h2⟩ := List.pairwise_cons.1 h
  have ih := lkS_ins (x := x) (s := s) h2
  rw [insS]
  by_cases c1 : y < x
  ·rw [if_pos c1, lkS, ih]
   by_cases e : x = s
   ·subst e
    rw [if_pos rfl, if_pos rfl, if_neg (by omega)]
    show _ = IntKind.wrap .i64 ((if y = x then c else lkS q x) + 1)
    rw [if_neg (by omega)]
   ·rw [if_neg e, if_neg e]; rfl
  ·rw [if_neg c1]
   by_cases c2 : y = x
   ·subst c2
    rw [if_pos rfl, lkS]
    by_cases e : y = s
    ·subst e
     rw [if_pos rfl, if_pos rfl]
     show _ = IntKind.wrap .i64 ((if y = y then c else lkS q y) + 1)
     rw [if_pos rfl]
    ·rw [if_neg e, if_neg e]; show _ = if y = s then c else lkS q s; rw [if_neg e]
   ·rw [if_neg c2, lkS]
    by_cases e : x = s
    ·subst e
     rw [if_pos rfl, if_pos rfl, lkS_not fun p hp => by
      rcases List.mem_cons.1 hp with rfl | hp
      ·exact c2
      ·have := h1 p hp; simp at this; omega]
     exact (wrapZs (k := 0 + 1) (by omega) (by omega)).symm
    ·rw [if_neg e, if_neg e]
theorem insS_pos {x : Int} : ∀ {q : List (Int × Int)}, (∀ p ∈ q, 0 < p.2 ∧ p.2 ≤ 1000000000) → ∀ p ∈ insS x q, 0 < p.2
 | [], _, p, h => by simp [insS] at h; subst h; simp
 |(y, c) :: q, hq, p, h => by
  have hc := hq (y, c) (by simp)
  simp only at hc
  rw [insS] at h
  split at h
  ·rcases List.mem_cons.1 h with rfl | h
   ·exact hc.1
   ·exact insS_pos (fun p hp => hq p (by simp [hp])) p h
  ·split at h
   ·rcases List.mem_cons.1 h with rfl | h
    ·show 0 < IntKind.wrap .i64 (c + 1)
     rw [wrapZs (by omega) (by omega)]; omega
    ·exact (hq p (by simp [h])).1
   ·rcases List.mem_cons.1 h with rfl | h
    ·simp
    ·exact (hq p h).1
theorem specF_fold (g : List Int → Int) : ∀ (D : List (List Int)) (q : List (Int × Int)) (N : Nat), AscP q → (∀ p ∈ q, 0 < p.2) → (∀ s, 0 ≤ lkS q s ∧ lkS q s ≤ N) → N + D.length ≤ 1000000000 →
  AscP (D.foldl (fun q f => insS (g f) q) q) ∧ (∀ p ∈ D.foldl (fun q f => insS (g f) q) q, 0 < p.2) ∧ ∀ s, lkS (D.foldl (fun q f => insS (g f) q) q) s = lkS q s + ((D.filter fun f => decide (g f = s)).length : Int)
 | [], q, N, h1, h2, _, _ => ⟨h1, h2, fun s => by simp⟩
 | f :: D, q, N, h1, h2, h3, h4 => by
  rw [List.length_cons] at h4
  have hs : ∀ s, lkS (insS (g f) q) s = if g f = s then lkS q (g f) + 1 else lkS q s := fun s => by
   rw [lkS_ins h1]
   have := h3 (g f)
   rw [wrapZs (by omega) (by omega)]
  obtain ⟨r1, r2, r3⟩ := specF_fold g D (insS (g f) q) (N + 1) (insS_asc h1) (insS_pos fun p hp => by
   have := lkS_mem h1 hp
   have := h3 p.1
   have := h2 p hp
   omega) (fun s => by
   rw [hs]
   have := h3 s
   have := h3 (g f)
   split <;> omega) (by omega)
  refine ⟨r1, r2, fun s => ?_⟩
  rw [List.foldl_cons, r3, hs, List.filter_cons]
  by_cases c : g f = s
  ·subst c; simp; omega
  ·simp [c]
theorem specF_lk {l : List Int} {ls : List (List Int)} {D : List (List Int)} (hD : D.length ≤ 1000000000) : AscP (specF (l :: ls) D) ∧ (∀ p ∈ specF (l :: ls) D, 0 < p.2) ∧ ∀ s, lkS (specF (l :: ls) D) s = ((D.filter fun f => decide (lsumZ l f = s)).length : Int) := by
 obtain ⟨h1, h2, h3⟩ := specF_fold (fun f => lsumZ l f) D [] 0 .nil (by simp) (by simp [lkS]) (by omega)
 exact ⟨h1, h2, fun s => by rw [specF, h3]; simp [lkS]⟩
theorem spV_mem {lines : List (List Int)} {n : Nat} {lo : Int} {m : Nat} {p : Int × Int} : p ∈ spV lines n lo m ↔ (lo ≤ p.1 ∧ p.1 < lo + m) ∧ 0 < cntS lines n p.1 ∧ p.2 = (cntS lines n p.1 : Int) := by
 rw [spV, List.mem_filterMap]
 constructor
 ·rintro ⟨a, ha, h⟩
  obtain ⟨i, hi, rfl⟩ := List.mem_map.1 ha
  have := List.mem_range.1 hi
  rw [spF] at h
  split at h
  ·rename_i c
   have := Option.some.inj h
   subst this
   exact ⟨by simp; omega, c, rfl⟩
  ·cases h
 ·rintro ⟨h1, h2, h3⟩
  refine ⟨p.1, List.mem_map.2 ⟨(p.1 - lo).toNat, List.mem_range.2 (by omega), by omega⟩, ?_⟩
  rw [spF, if_pos h2, ← h3]
theorem spV_asc (lines : List (List Int)) (n : Nat) (lo : Int) : ∀ m, AscP (spV lines n lo m)
 | 0 => .nil
 | m + 1 => by
  rw [spV_succ]
  refine List.pairwise_append.2 ⟨spV_asc lines n lo m, ?_, fun a ha b hb => ?_⟩
  ·unfold spF; split <;> simp
  ·have h1 := (spV_mem.1 ha).1
   have h2 : b.1 = lo + m := by
    unfold spF at hb
    split at hb
    ·simp at hb; subst hb; rfl
    ·simp at hb
   omega
theorem spec_eq {n : Nat} {l : List Int} {ls : List (List Int)} {lo : Int} {m : Nat} (hl : ∀ q ∈ l :: ls, AscL n q) (hE : (enumF (l :: ls) n).length ≤ 1000000000) (hb : ∀ s, 0 < cntS (l :: ls) n s → lo ≤ s ∧ s < lo + m) : specF (l :: ls) (enumF (l :: ls) n) = spV (l :: ls) n lo m := by
 obtain ⟨h1, h2, h3⟩ := specF_lk (l := l) (ls := ls) hE
 refine lkS_uniq h1 (spV_asc _ _ _ _) h2 (fun p hp => by have := spV_mem.1 hp; omega) fun s => ?_
 rw [h3, enumF_filter s hl]
 by_cases c : 0 < cntS (l :: ls) n s
 ·have : (s, (cntS (l :: ls) n s : Int)) ∈ spV (l :: ls) n lo m := spV_mem.2 ⟨hb s c, c, rfl⟩
  exact (lkS_mem (spV_asc _ _ _ _) this).symm
 ·rw [lkS_not fun p hp q => by
   have := (spV_mem.1 hp).2.1
   rw [q] at this; exact c this]
  have : cntS (l :: ls) n s = 0 := by omega
  unfold cntS at this
  rw [this]; rfl
def sumP (q : List (Int × Int)) : Int := (q.map (·.2)).sum
theorem sumP_ins {x : Int} : ∀ {q : List (Int × Int)}, (∀ p ∈ q, 0 < p.2 ∧ p.2 ≤ 1000000000) → sumP (insS x q) = sumP q + 1
 | [], _ => rfl
 |(y, c) :: q, h => by
  have hc := h (y, c) (by simp)
  simp only at hc
  have ih := sumP_ins (x := x) (q := q) fun p hp => h p (by simp [hp])
  unfold sumP at ih ⊢
  rw [insS]
  split
  ·rw [List.map_cons, List.sum_cons, ih, List.map_cons, List.sum_cons]; omega
  ·split
   ·rw [List.map_cons, List.sum_cons, List.map_cons, List.sum_cons]
    show IntKind.wrap .i64 (c + 1) + _ = _
    rw [wrapZs (by omega) (by omega)]; omega
   ·rw [List.map_cons, List.sum_cons]; omega
theorem sumP_fold (g : List Int → Int) : ∀ (D : List (List Int)) (q : List (Int × Int)) (N : Nat), AscP q → (∀ p ∈ q, 0 < p.2) → (∀ s, 0 ≤ lkS q s ∧ lkS q s ≤ N) → N + D.length ≤ 1000000000 →
  sumP (D.foldl (fun q f => insS (g f) q) q) = sumP q + D.length
 | [], q, N, h1, h2, _, _ => by simp
 | f :: D, q, N, h1, h2, h3, h4 => by
  rw [List.length_cons] at h4
  have hs : ∀ s, lkS (insS (g f) q) s = if g f = s then lkS q (g f) + 1 else lkS q s := fun s => by
   rw [lkS_ins h1]
   have := h3 (g f)
   rw [wrapZs (by omega) (by omega)]
  have hb : ∀ p ∈ q, 0 < p.2 ∧ p.2 ≤ 1000000000 := fun p hp => by
   have := lkS_mem h1 hp
   have := h3 p.1
   have := h2 p hp
   omega
  have := sumP_fold g D (insS (g f) q) (N + 1) (insS_asc h1) (insS_pos hb) (fun s => by
   rw [hs]
   have := h3 s
   have := h3 (g f)
   split <;> omega) (by omega)
  rw [List.foldl_cons, this, sumP_ins hb, List.length_cons]; omega
theorem sumP_spec {l : List Int} {ls : List (List Int)} {D : List (List Int)} (hD : D.length ≤ 1000000000) : sumP (specF (l :: ls) D) = D.length := by
 have := sumP_fold (fun f => lsumZ l f) D [] 0 .nil (by simp) (by simp [lkS]) (by omega)
 rw [specF, this]; simp [sumP]
end Go.Ev
namespace Go.Ev
theorem perms_full {n : Nat} : ∀ {t pre : List Int}, (pre ++ t).Nodup → (∀ x ∈ t, 1 ≤ x ∧ x ≤ (n : Int)) → pre ++ t ∈ perms n t.length pre
 | [], pre, _, _ => by simp [enumG]
 | x :: t, pre, h, hb => by
  rw [List.length_cons, perms_succ]
  have hx := hb x (by simp)
  refine List.mem_flatMap.2 ⟨x, List.mem_map.2 ⟨(x - 1).toNat, List.mem_range.2 (by omega), by omega⟩, ?_⟩
  have hx2 : x ∉ pre := fun q => (List.nodup_append.1 h).2.2 x q x (by simp) rfl
  rw [if_neg hx2]
  have e : pre ++ x :: t = (pre ++ [x]) ++ t := by simp
  rw [e] at h ⊢
  exact perms_full h fun y hy => hb y (by simp [hy])
theorem perms_iff {n : Nat} {f : List Int} : f ∈ perms n n [] ↔ f.length = n ∧ Nrm f := by
 constructor
 ·exact perms_nrm
 ·rintro ⟨rfl, h1, h2⟩
  have := perms_full (n := f.length) (t := f) (pre := []) (by simpa using h1) h2
  simpa using this
theorem agrZ_full {n : Nat} {lines : List (List Int)} {s : Int} {f : List Int} (hl : ∀ l ∈ lines, AscL n l) (hf : f.length = n) : agrZ lines s f = true ↔ ∀ l ∈ lines, lsumZ l f = s := by
 simp only [agrZ, List.all_eq_true, Bool.or_eq_true, decide_eq_true_eq]
 constructor
 ·intro h l hm
  rcases h l hm with q | q
  ·have := (hl l hm).2.2 _ (last_memZ (hl l hm).1)
   omega
  ·exact q
 ·intro h l hm; exact .inr (h l hm)
theorem enumN_iff {n : Nat} {lines : List (List Int)} {s : Int} {f : List Int} (hl : ∀ l ∈ lines, AscL n l) : f ∈ enumN lines s n n [] ↔ (f.length = n ∧ Nrm f) ∧ ∀ l ∈ lines, lsumZ l f = s := by
 rw [enumN_perms hl, List.mem_filter, perms_iff]
 constructor
 ·rintro ⟨h1, h2⟩; exact ⟨h1, (agrZ_full hl h1.1).1 h2⟩
 ·rintro ⟨h1, h2⟩; exact ⟨h1, (agrZ_full hl h1.1).2 h2⟩
end Go.Ev
namespace Go.Ev
def incZ (v : Int) : Int := IntKind.wrap .i64 (v + 1)
def incT (A : List (List Int)) (c : Nat) (x : Int) : List (List Int) := A.set c ((A.getD c []).set (x - 1).toNat (incZ ((A.getD c []).getD (x - 1).toNat 0)))
def addFi (A : List (List Int)) (fl : List Int) : Nat → List (List Int)
 | 0 => A
 | i + 1 => incT (addFi A fl i) i (fl.getD i 0)
def addF (A : List (List Int)) (fl : List Int) : List (List Int) := addFi A fl fl.length
def zeroT (n : Nat) : List (List Int) := List.replicate n (List.replicate n 0)
def distS (n : Nat) (fs : List (List Int)) : List (List Int) := fs.foldl addF (zeroT n)
def Sq (n : Nat) (A : List (List Int)) : Prop := A.length = n ∧ ∀ r ∈ A, r.length = n
theorem Sq.get {n c : Nat} {A : List (List Int)} (h : Sq n A) (hc : c < n) : A[c]? = some (A.getD c []) ∧ (A.getD c []).length = n := by
 have h1 := h.1
 rw [List.getD_eq_getElem?_getD, List.getElem?_eq_getElem (by omega)]
 exact ⟨rfl, h.2 _ (List.getElem_mem _)⟩
theorem Sq.inc {n c : Nat} {A : List (List Int)} {x : Int} (h : Sq n A) (hc : c < n) : Sq n (incT A c x) := by
 refine ⟨by simp [incT, h.1], fun r hr => ?_⟩
 rcases List.mem_or_eq_of_mem_set hr with q | rfl
 ·exact h.2 r q
 ·rw [List.length_set]; exact (h.get hc).2
theorem Sq.fi {n : Nat} {A : List (List Int)} {fl : List Int} (h : Sq n A) : ∀ i, i ≤ n → Sq n (addFi A fl i)
 | 0, _ => h
 | i + 1, hi => (Sq.fi h i (by omega)).inc (by omega)
theorem Sq.zero (n : Nat) : Sq n (zeroT n) := ⟨by simp [zeroT], fun r hr => by simp [zeroT] at hr; rw [hr.2]; simp⟩
end Go.Ev
namespace Go.Ev
open Go Go.Proofs
variable {B : Nat}
abbrev tI (A : List (List Int)) : List (List AV) := A.map fun r => r.map I
end Go.Ev
namespace Go.Ev
open Go Go.Proofs
variable {B : Nat}
def wrapN (k : Nat) : Int := IntKind.wrap .i64 (k : Int)
theorem wrapN_succ (k : Nat) : IntKind.wrap .i64 (wrapN k + 1) = wrapN (k + 1) := by
 have := wrap_sub (k : Int) (-1)
 rw [show (IntKind.wrap .i64 (k : Int) - -1) = wrapN k + 1 by rw [wrapN]; omega, show ((k : Int) - -1) = ((k + 1 : Nat) : Int) by omega] at this
 exact this
abbrev rowsV (n : Nat) (rows : List (Pa × Option Nat)) : List AV := rows.map fun r => .sl r.1 0 n r.2 1
abbrev rowsO (rows : List (Pa × Option Nat)) (D : List (List Int)) : List Ob := List.zipWith (fun r fl => Ob.arr r.1 (fl.map I)) rows D
structure TL (n : Nat) (lines : List (List Int)) (s : Int) (most : Nat) (tb : Pa) (D : List (List Int)) (t : AV) (L : List Ob) : Prop where
 ex : ∃ (o : Option Pa) (rs : List (Option Pa)) (rows : List (Pa × Option Nat)) (sv : AV) (S : List Ob), t = .agg [I s, .bool false, I most, I (wrapN D.length), sv, rowV o 1 rows.length, .sl tb 0 n (some n) 1] ∧
  L = .gro o 1 rows.length (rowsV n rows) :: .tab tb rs (tI (distS n D)) :: (S ++ rowsO rows (D.take most)) ∧ rows.length = (D.take most).length ∧ (∀ r ∈ rows, capLe n r.2) ∧ (∀ c, c < n → ∃ r, rs[c]? = some (some r)) ∧
  ((sv = .nils ∧ S = [] ∧ (lines = [] ∨ D = [])) ∨ ∃ id c, sv = .sl id 0 1 none 2 ∧ S = [.arr id [I s, I c]] ∧ lines ≠ [])
theorem Sq.fold {n : Nat} : ∀ (l A : List (List Int)), Sq n A → (∀ f ∈ l, f.length = n) → Sq n (l.foldl addF A)
 | [], A, h, _ => h
 | f :: l, A, h, hl => by
  rw [List.foldl_cons]
  refine Sq.fold l _ ?_ fun x hx => hl x (by simp [hx])
  rw [addF, hl f (by simp)]
  exact h.fi n (Nat.le_refl _)
theorem Sq.dist {n : Nat} {D : List (List Int)} (h : ∀ f ∈ D, f.length = n) : Sq n (distS n D) := Sq.fold D _ (.zero n) h
end Go.Ev
namespace Go.Ev
open Go Go.Proofs
variable {B : Nat}
theorem lineSumZ127 {l f : List Int} (hl : l.length ≤ 1000000) (hc : ∀ c ∈ l, 0 ≤ c ∧ c < (f.length : Int)) (hf9 : ∀ v ∈ f, 0 ≤ v ∧ v ≤ 9) : Pure Tryz.prog B 127 [encI l, encI f] (· = I (lsumZ l f)) := by
 intro p h nx K hK
 refine by_body tbl_ok dreg 10000000 fun hf => ?_
 rw [F127.go]
 refine F127.L1 (fun m z3 z4 h' nx' => ∃ i : Nat, z4 = I i ∧ z3 = I (lsumZ (l.take i) f) ∧ l.length - i = m ∧ i ≤ l.length ∧ h' = h ∧ nx' = nx) (m := l.length) (by omega) ⟨0, rfl, rfl, rfl, by omega, rfl, rfl⟩ ?_
 rintro m z3 z4 z5 _ _ R ⟨i, rfl, rfl, rfl, hi, rfl, rfl⟩ hR
 simp (disch := omega) only [sAdd, sSub, sMul, sEql, sNeq, sLss, sLeq, sGtr, sGeq, sPick_t, sPick_f, sCond_t, sCond_f, sG_tt, sG_ff, sG_tf, sG_ft, sNot_b, sExt0, sExt1, sExt2, sPart0, sPart1, sPart2, sLen_lst, sLen_sl, sLen_nils, sSame_refl, decide_true, decide_false, Bool.not_true, Bool.not_false, sChk_t]
 by_cases hlt : i < l.length
 ·simp only [show (i : Int) < (l.length : Int) by omega, decide_true, sCond_t]
  have hx : l[i]? = some l[i] := List.getElem?_eq_getElem hlt
  obtain ⟨c0, c1⟩ := hc _ (List.getElem_mem hlt)
  have hv : f[(l[i]).toNat]? = some (f.getD (l[i]).toNat 0) := by rw [List.getD_eq_getElem?_getD, List.getElem?_eq_getElem (by omega)]; rfl
  rw [sIxL rfl hlt, ldL (getI hx), sIxL (i := (l[i]).toNat) (by omega) (by omega), ldL (getI hv)]
  have hs : lsumZ (l.take (i + 1)) f = lsumZ (l.take i) f + f.getD (l[i]).toNat 0 := by
   rw [List.take_add_one, hx, Option.toList_some, lsum_snoc]
  have hb := lsum_bd (M := 9) (fun v hv => by have := hf9 v hv; omega) (l.take (i + 1))
  rw [List.length_take] at hb
  rw [sAdd (by omega)]
  try rw [sAdd (by omega)]
  exact hR _ _ _ _ _ _ (by omega) ⟨i + 1, rfl, by rw [hs], rfl, by omega, rfl, rfl⟩
 ·simp only [show ¬ (i : Int) < (l.length : Int) by omega, decide_false, sCond_f]
  rw [F127.k8]
  refine hK _ ?_ hf
  rw [List.take_of_length_le (by omega)]
end Go.Ev
namespace Go.Ev
open Go Go.Proofs
variable {B : Nat}
theorem frz_aggS {N : Pa → Prop} {O : AV → Prop} {hh : T Blk} {l : List AV} (hs : l.all scal = true) (h : ∀ v ∈ l, Frz True N O hh v v) : Frz True N O hh (.agg l) (.agg l) :=
 .agg _ _ rfl hs fun i v v' h1 h2 => by rw [h1] at h2; cases h2; exact h v (List.mem_of_getElem? h1)
theorem fixd_sys' {cells : Int} {lines : List (List Int)} : ∀ v ∈ [I cells, encT lines], fixd v = true := fun v hv => by
 simp only [List.mem_cons, List.not_mem_nil, or_false] at hv
 rcases hv with rfl | rfl
 ·rfl
 ·exact fixd_encT lines
theorem frz_own {h' h : T Blk} {id : Pa} {off ln esz : Nat} {cap : Option Nat} (hl : T.get .no id h' ≠ .no) : FrzN h' h (.sl id off ln cap esz) (.sl id off ln cap esz) := .old _ (.inr (.inr (.inr ⟨id, off, ln, cap, esz, rfl, hl⟩)))
variable {n most : Nat} {lines : List (List Int)} {s : Int} {tb us : Pa} {h0 : T Blk} {M : List Ob}
theorem TL.cells {D : List (List Int)} {t : AV} {L : List Ob} (h : TL n lines s most tb D t L) : ∃ a b c d e, t = .agg [I s, .bool false, a, b, c, d, e] ∧ t.cells = some [I s, .bool false, a, b, c, d, e] := by
 obtain ⟨o, rs, rows, sv, S, rfl, rfl, hrl, hcap, hrs, hsp⟩ := h.ex
 refine ⟨_, _, _, _, _, rfl, ?_⟩
 rcases hsp with ⟨rfl, _⟩ | ⟨id, c, rfl, _⟩ <;> cases o <;> rfl
theorem TL.frz {D : List (List Int)} {t : AV} {L A C : List Ob} {h' h : T Blk} {nx : Pa} (hT : TL n lines s most tb D t L) (H : Hp h0 h' nx (A ++ (L ++ C))) : FrzN h' h t t := by
 obtain ⟨o, rs, rows, sv, S, rfl, rfl, hrl, hcap, hrs, hsp⟩ := hT.ex
 have live : ∀ x : Ob, x ∈ (A ++ ((.gro o 1 rows.length (rowsV n rows) :: .tab tb rs (tI (distS n D)) :: (S ++ rowsO rows (D.take most))) ++ C)) → ∀ id ∈ x.names, T.get .no id h' ≠ .no := fun x hx id hid => (H.own x hx).live id hid
 have hrow : FrzN h' h (rowV o 1 rows.length) (rowV o 1 rows.length) := by
  cases o with
  | none => exact .nils
  | some id => exact frz_own (live (.gro (some id) 1 rows.length (rowsV n rows)) (by simp) id (by simp [Ob.names]))
 have htb : FrzN h' h (.sl tb 0 n (some n) 1) (.sl tb 0 n (some n) 1) := frz_own (live (.tab tb rs (tI (distS n D))) (by simp) tb (by simp [Ob.names]))
 have hsv : FrzN h' h sv sv ∧ scal sv = true := by
  rcases hsp with ⟨rfl, _⟩ | ⟨id, c, rfl, rfl, _⟩
  ·exact ⟨.nils, rfl⟩
  ·exact ⟨frz_own (live (.arr id [I s, I c]) (by simp) id (by simp [Ob.names])), rfl⟩
 have hrs' : scal (rowV o 1 rows.length) = true := by cases o <;> rfl
 refine frz_aggS (by simp only [List.all_cons, List.all_nil, hsv.2, hrs', Bool.and_true]; rfl) fun v hv => ?_
 simp only [List.mem_cons, List.not_mem_nil, or_false] at hv
 rcases hv with rfl | rfl | rfl | rfl | rfl | rfl | rfl
 ·exact .int _ _
 ·exact .bool _
 ·exact .int _ _
 ·exact .int _ _
 ·exact hsv.1
 ·exact hrow
 ·exact htb
abbrev usO (n : Nat) (us : Pa) (pre : List Int) : Ob := .arr us ((usedL n pre).map AV.bool)
end Go.Ev
namespace Go.Ev
open Go Go.Proofs
variable {B : Nat}
theorem fixdI2 {l : List Int} : ∀ v ∈ l.map I, fixd v = true := fun v hv => by obtain ⟨x, _, rfl⟩ := List.mem_map.1 hv; rfl
theorem TL.fix {n most : Nat} {lines : List (List Int)} {s : Int} {tb : Pa} {D : List (List Int)} {t : AV} {L A C : List Ob} {h0 h : T Blk} {nx : Pa} (hT : TL n lines s most tb D t L) (hD : ∀ f ∈ D, f.length = n) (H : Hp h0 h nx (A ++ (L ++ C))) :
  ∃ sv, FrzN h0 h t (.agg [I s, .bool false, I most, I (wrapN D.length), sv, encT (D.take most), encT (distS n D)]) ∧ (sv = .nils ∨ ∃ c, sv = .lst 2 1 [I s, I c]) := by
 obtain ⟨o, rs, rows, sv, S, rfl, rfl, hrl, hcap, hrs, hsp⟩ := hT.ex
 have idx : ∀ x : Ob, x ∈ (A ++ ((.gro o 1 rows.length (rowsV n rows) :: .tab tb rs (tI (distS n D)) :: (S ++ rowsO rows (D.take most))) ++ C)) → ∃ k : Nat, (A ++ ((.gro o 1 rows.length (rowsV n rows) :: .tab tb rs (tI (distS n D)) :: (S ++ rowsO rows (D.take most))) ++ C))[k]? = some x := fun x hx => List.mem_iff_getElem?.1 hx
 have hSq := Sq.dist (n := n) hD
 have hrow : ∀ (i : Nat) v v', (rowsV n rows)[i]? = some v → ((D.take most).map encI)[i]? = some v' → FrzN h0 h v v' := by
  intro i v v' q1 q2
  rw [List.getElem?_map] at q1 q2
  cases e1 : rows[i]? with
  | none => rw [e1] at q1; cases q1
  | some r =>
   cases e2 : (D.take most)[i]? with
   | none => rw [e2] at q2; cases q2
   | some fl =>
    rw [e1] at q1; rw [e2] at q2
    have q1 := Option.some.inj q1
    have q2 := Option.some.inj q2
    subst q1 q2
    have hfl : fl.length = n := hD fl (List.mem_of_mem_take (List.mem_of_getElem? e2))
    have hm : Ob.arr r.1 (fl.map I) ∈ rowsO rows (D.take most) := List.mem_iff_getElem?.2 ⟨i, by rw [rowsO, List.getElem?_zipWith, e1, e2]⟩
    obtain ⟨k, hk⟩ := idx (.arr r.1 (fl.map I)) (by simp only [List.mem_append, List.mem_cons]; exact .inr (.inl (.inr (.inr (.inr hm)))))
    have := H.frzArr hk (hcap r (List.mem_of_getElem? e1)) (e := 1) (by simp [hfl]) fixdI2
    have e3 : AV.lst 1 n (fl.map I) = encI fl := by rw [← hfl]
    rw [e3] at this; exact this
 have hlist : FrzN h0 h (rowV o 1 rows.length) (encT (D.take most)) := by
  obtain ⟨k, hk⟩ := idx (.gro o 1 rows.length (rowsV n rows)) (by simp)
  have own := H.own _ (List.mem_of_getElem? hk)
  cases o with
  | none =>
   obtain ⟨_, q⟩ := own
   have : D.take most = [] := List.eq_nil_of_length_eq_zero (by omega)
   rw [this]; exact .lnils 1
  | some id =>
   obtain ⟨t, g1, g2, g3⟩ := own
   have harr : HasArr h id (rowsV n rows) := ⟨true, t, by rw [g1, g2], by rw [g2]; exact g3⟩
   have hoff := H.off id (List.mem_flatMap.2 ⟨_, List.mem_of_getElem? hk, by simp [Ob.names]⟩)
   have := HasArr.frzE (N := fun id => T.get Blk.no id h0 = .no) (O := fun v => (∃ id off, v = .ptr id off ∧ T.get Blk.no id h0 ≠ .no) ∨ (∃ id, v = .yld id ∧ T.get Blk.no id h0 ≠ .no) ∨ (∃ id, v = .map id ∧ T.get Blk.no id h0 ≠ .no) ∨ (∃ id off ln cap esz, v = .sl id off ln cap esz ∧ T.get Blk.no id h0 ≠ .no)) (cap := none) (e := 1) (n := rows.length) (l' := (D.take most).map encI) harr hoff trivial (by simp) (by rw [List.length_map, List.length_map, hrl]) (List.all_eq_true.2 fun v hv => by obtain ⟨x, _, rfl⟩ := List.mem_map.1 hv; rfl) hrow
   rw [hrl] at this ⊢
   exact this
 have htab : FrzN h0 h (.sl tb 0 n (some n) 1) (encT (distS n D)) := by
  obtain ⟨k, hk⟩ := idx (.tab tb rs (tI (distS n D))) (by simp)
  have := H.frzTab hk (cap := some n) (n := n) (Nat.le_refl _) (by simp [hSq.1]) (fun l hl v hv => by
   obtain ⟨r, _, rfl⟩ := List.mem_map.1 hl
   obtain ⟨x, _, rfl⟩ := List.mem_map.1 hv
   rfl)
  have e : AV.lst 1 n ((tI (distS n D)).map fun l => AV.lst 1 l.length l) = encT (distS n D) := by
   show _ = AV.lst 1 _ _
   rw [hSq.1]
   simp [tI, Function.comp_def]
  rw [e] at this; exact this
 have hsv : ∃ sv', FrzN h0 h sv sv' ∧ (sv' = .nils ∨ ∃ c, sv' = .lst 2 1 [I s, I c]) := by
  rcases hsp with ⟨rfl, _⟩ | ⟨id, c, rfl, rfl, _⟩
  ·exact ⟨.nils, .nils, .inl rfl⟩
  ·obtain ⟨k, hk⟩ := idx (.arr id [I s, I c]) (by simp)
   exact ⟨_, H.frzArr hk (cap := none) (n := 1) (e := 2) trivial rfl (fun v hv => by simp only [List.mem_cons, List.not_mem_nil, or_false] at hv; rcases hv with rfl | rfl <;> rfl), .inr ⟨c, rfl⟩⟩
 obtain ⟨sv', hs1, hs2⟩ := hsv
 refine ⟨sv', .agg _ _ rfl (by rcases hs2 with rfl | ⟨c, rfl⟩ <;> rfl) fun i v v' q1 q2 => ?_, hs2⟩
 match i with
 | 0 => simp only [List.getElem?_cons_zero, Option.some.injEq] at q1 q2; subst q1 q2; exact .int _ _
 | 1 => simp only [List.getElem?_cons_succ, List.getElem?_cons_zero, Option.some.injEq] at q1 q2; subst q1 q2; exact .bool _
 | 2 => simp only [List.getElem?_cons_succ, List.getElem?_cons_zero, Option.some.injEq] at q1 q2; subst q1 q2; exact .int _ _
 | 3 => simp only [List.getElem?_cons_succ, List.getElem?_cons_zero, Option.some.injEq] at q1 q2; subst q1 q2; exact .int _ _
 | 4 => simp only [List.getElem?_cons_succ, List.getElem?_cons_zero, Option.some.injEq] at q1 q2; subst q1 q2; exact hs1
 | 5 => simp only [List.getElem?_cons_succ, List.getElem?_cons_zero, Option.some.injEq] at q1 q2; subst q1 q2; exact hlist
 | 6 => simp only [List.getElem?_cons_succ, List.getElem?_cons_zero, Option.some.injEq] at q1 q2; subst q1 q2; exact htab
 | i + 7 => simp at q1
end Go.Ev
namespace Go.Ev
open Go Go.Proofs
variable {B : Nat}
theorem sGW_tf2 (op : KW3 → OP) (h : T Blk) (nx : Pa) (k : KW3) : sGW (.bool true) false op h nx k = k .undef h nx := nr rfl
theorem sGW_ff2 (op : KW3 → OP) (h : T Blk) (nx : Pa) (k : KW3) : sGW (.bool false) false op h nx k = op k := nr rfl
theorem light62 {n : Nat} {lines : List (List Int)} (hm : lines.length ≤ 1000) (hl : ∀ l ∈ lines, AscL n l ∧ l.length ≤ 1000) : Pure Tryz.prog B 62 [.agg [I n, encT lines]] (fun v => ∃ b, v = .bool b) := by
 refine pure_hp fun h nx K H0 hK => by_body tbl_ok dreg 100000 fun hf => ?_
 rw [F62.go]
 refine H0.box (l := [I n, encT lines]) rfl fun bx h1 nx1 H1 => ?_
 have ret : ∀ b, K (.bool b) h1 nx1 = .ok True := fun b => hK _ _ _ _ _ H1 (frz_fixd rfl) ⟨b, rfl⟩
 rw [sFx, H1.load (k := 0) (i := 0) rfl rfl]
 simp only [sLeq]
 have go : ∀ z6, IR.run F62.b2 (CS Tryz.prog B) 100000 (fnO F62.res K) (IR.run F62.b9 (CS Tryz.prog B) 100000 (fnO F62.res K) (retK F62.res K)) (F62.fr (.agg [I n, encT lines]) (.ptr bx 0) (.bool false) (I 0) (I 0) .undef z6 .undef .undef) h1 nx1 = .ok True := by
  intro z6
  refine F62.L2 (fun m x3 x4 h' nx' => ∃ i c : Nat, x3 = I c ∧ x4 = I i ∧ m = lines.length - i ∧ i ≤ lines.length ∧ c ≤ i ∧ h' = h1 ∧ nx' = nx1) (m := lines.length) (by omega) ⟨0, 0, rfl, rfl, by omega, by omega, by omega, rfl, rfl⟩ ?_
  rintro m x3 x4 x5 x7 x8 _ _ R ⟨i, c, rfl, rfl, rfl, hi, hc, rfl, rfl⟩ hR
  rw [sFx, H1.load (k := 0) (i := 0 + 1) rfl rfl]
  simp only [sLen_lst, sLss]
  by_cases hlt : i < lines.length
  ·simp only [show (i : Int) < (lines.length : Int) by omega, decide_true, sCond_t]
   have hx : lines[i]? = some lines[i] := List.getElem?_eq_getElem hlt
   obtain ⟨ha, hlw⟩ := hl _ (List.getElem_mem hlt)
   have hpos : 0 < lines[i].length := List.length_pos_iff.2 ha.1
   have hg : lines[i][lines[i].length - 1]? = some (lines[i][lines[i].length - 1]'(by omega)) := List.getElem?_eq_getElem (by omega)
   rw [sFx, H1.load (k := 0) (i := 0 + 1) rfl rfl, sIxL rfl hlt, ldL (getT hx)]
   simp only [sLen_lst]
   rw [sSub (by omega), sIxL (i := lines[i].length - 1) (by omega) (by omega), ldL (getI hg)]
   simp only [sLeq]
   by_cases c5 : lines[i][lines[i].length - 1]'(by omega) ≤ 5
   ·simp only [c5, decide_true, sCond_t]
    rw [sAdd (by omega), sAdd (by omega)]
    exact hR _ _ _ _ _ _ _ _ (by omega) ⟨i + 1, c + 1, rfl, rfl, rfl, by omega, by omega, rfl, rfl⟩
   ·simp only [c5, decide_false, sCond_f]
    rw [sAdd (by omega)]
    exact hR _ _ _ _ _ _ _ _ (by omega) ⟨i + 1, c, rfl, rfl, rfl, by omega, by omega, rfl, rfl⟩
  ·simp only [show ¬ (i : Int) < (lines.length : Int) by omega, decide_false, sCond_f]
   rw [F62.k9]
   simp only [sGeq]
   exact ret _
 by_cases c6 : (n : Int) ≤ 6
 ·simp only [c6, decide_true, sG_tf, sPick_t, sCond_t]
  exact ret _
 ·simp only [c6, decide_false, sG_ff, sFx]
  rw [H1.load (k := 0) (i := 0) rfl rfl]
  simp only [sGtr, sPick_f]
  by_cases c9 : (9 : Int) < (n : Int)
  ·simp only [c9, decide_true, sCond_t]
   exact ret _
  ·simp only [c9, decide_false, sCond_f]
   exact go _
theorem great51 {cells : Int} {lines : List (List Int)} : Pure Tryz.prog B 51 [.agg [I cells, encT lines]] (fun v => ∃ b, v = .bool b ∧ (b = false → (lines.length : Int) ≤ 130 ∧ ∀ l ∈ lines, (l.length : Int) ≤ 20)) := by
 refine pure_hp fun h nx K H0 hK => by_body tbl_ok dreg 1000 fun hf => ?_
 rw [F51.go]
 refine H0.box (l := [I cells, encT lines]) rfl fun bx h1 nx1 H1 => ?_
 rw [H1.loadN (k := 0) (n := 2) rfl rfl]
 refine short25 (by omega) _ _ _ _ ?_
 rintro _ rfl _
 by_cases hsh : (lines.length : Int) ≤ 130 ∧ ∀ l ∈ lines, (l.length : Int) ≤ 20
 case neg =>
  rw [decide_eq_false hsh]
  simp only [sNot_b, Bool.not_false, sG_tf, sGW_tf2, sPick_t]
  exact hK _ _ _ _ _ H1 (frz_fixd rfl) ⟨true, rfl, by simp⟩
 rw [decide_eq_true hsh]
 have hw20 : ∀ q ∈ lines, q.length ≤ 20 := fun q hq => by have := hsh.2 q hq; omega
 have hw : ∀ q ∈ lines, q.length ≤ 1000000 := fun q hq => by have := hw20 q hq; omega
 simp only [sNot_b, Bool.not_true, sG_ff, sGW_ff2]
 rw [H1.loadN (k := 0) (n := 2) rfl rfl]
 refine sysErr27 hw _ _ _ _ ?_
 rintro _ rfl _
 simp only [sEql]
 by_cases hs : sysErr cells lines = 0
 ·obtain ⟨n, rfl, g1, g2, g3, g4⟩ := sys_ok hs
  simp only [hs, decide_true, sG_tt, sGW_tt]
  rw [H1.loadN (k := 0) (n := 2) rfl rfl]
  refine light62 (by omega) (fun l hm => ⟨g4 l hm, by have := hw20 l hm; omega⟩) _ _ _ _ ?_
  rintro _ ⟨b, rfl⟩ _
  simp only [sNot_b, sPick_t, sPick_f]
  exact hK _ _ _ _ _ H1 (frz_fixd rfl) ⟨_, rfl, fun _ => hsh⟩
 ·simp only [hs, decide_false, sG_ft, sGW_ft, sPick_f]
  exact hK _ _ _ _ _ H1 (frz_fixd rfl) ⟨_, rfl, fun _ => hsh⟩
theorem wrapN_id {k : Nat} (h : k ≤ 1000000000) : wrapN k = k := wrap64_in (by omega)
end Go.Ev
namespace Go.Ev
open Go Go.Proofs
variable {B : Nat}
theorem sort152 {h0 h : T Blk} {nx p : Pa} {L : List Ob} {k n : Nat} {o : Option Pa} {l : List Int} {K : Kw Prop} (hj : ∀ B, JOk Tryz.prog B hookS) (H : Hp h0 h nx L) (hk : L[k]? = some (.gro o 1 n (l.map I))) (hn : n ≤ 1000000)
  (hK : ∀ h', Hp h0 h' nx (L.set k (.gro o 1 n ((srt l).map I))) → K (.tup []) h' nx = .ok True) : (CS Tryz.prog B).fn 152 p [rowV o 1 n] h nx K = .ok True := by
 have own := H.own _ (List.mem_of_getElem? hk)
 cases o with
 | none =>
  obtain ⟨q1, rfl⟩ := own
  obtain rfl : l = [] := by simpa using q1
  refine CS_hook (hj B) (v := .tup []) (h2 := h) rfl (hK h (H.cast ?_))
  have e : (srt ([] : List Int)).map I = [] := by simp [srt]
  rw [e, (getSplit hk).2]; exact (getSplit hk).1
 | some id =>
  obtain ⟨t, h1, h2, h3⟩ := own
  rw [Nat.mul_one] at h1 h2 h3
  have e1 : sortJ (.sl id 0 n none 1) h = some (T.set Blk.no (Blk.cells true n (wrList ((srt l).map I) t 0)) id h) := by
   show (match T.get Blk.no id h with
    | .cells op m t => bif Nat.beq 1 1 && Nat.ble (0 + n) m && Nat.ble n 1000000 then (match intsA (rdList t 0 n) with
     | some l => some (T.set Blk.no (Blk.cells op m (wrList ((srt l).map I) t 0)) id h)
     | none => none) else none
    | _ => none) = _
   rw [h1]
   show (bif Nat.beq 1 1 && Nat.ble (0 + n) n && Nat.ble n 1000000 then (match intsA (rdList t 0 n) with
     | some l => some (T.set Blk.no (Blk.cells true n (wrList ((srt l).map I) t 0)) id h)
     | none => none) else none) = _
   rw [Nat.ble_eq_true_of_le (by omega), Nat.ble_eq_true_of_le hn, h3, intsA_map]; rfl
  have e2 : hookS 152 [rowV (some id) 1 n] h = some (.tup [], T.set Blk.no (Blk.cells true n (wrList ((srt l).map I) t 0)) id h) := by
   show (match sortJ (.sl id 0 n none 1) h with
    | some h => some ((.tup [] : AV), h)
    | none => none) = _
   rw [e1]
  refine CS_hook (hj B) e2 (hK _ (H.upd hk (by simp [Ob.names]) rfl ⟨_, by rw [T.get_set_same, Nat.mul_one], by simpa using h2, ?_⟩))
  have := rdList_wr t [] ((srt l).map I) 0 rfl
  rw [Nat.zero_add, List.nil_append] at this
  have hl : ((srt l).map I).length = n := by simpa using h2
  rw [hl] at this
  rw [Nat.mul_one]; exact this
theorem sorted125 {l : List Int} (hj : ∀ B, JOk Tryz.prog B hookS) (hl : l.length ≤ 100000) : Pure Tryz.prog B 125 [.fn 153 (.of 153) [.fp [encI l]]] (· = encI (srt l)) := by
 refine pure_hp fun h nx K H0 hK => by_body tbl_ok dreg 100 fun hf => ?_
 rw [F125.go]
 refine CS_fn_mono (p := .of 151) (K := fun v1 h2 n3 => (CS Tryz.prog B).fn 152 (.of 152) [v1] h2 n3 fun v4 h5 n6 => K v1 h5 n6) (by_body tbl_ok dreg 100 fun hf => ?_) fun _ _ _ _ q => q
 rw [F151.go]
 refine append173 hl H0 fun o h1 nx1 H1 => ?_
 refine sort152 hj H1 (k := 0) rfl (by omega) fun h2 H2 => ?_
 refine hK _ _ _ _ _ H2 (H2.frzGro (k := 0) rfl (by intro v hv; obtain ⟨t, _, rfl⟩ := List.mem_map.1 hv; rfl)) ?_
 show _ = AV.lst 1 _ _
 rw [srt_length]
def loS (d : List Int) : Int := wsum (fun i => (d.length : Int) - i) d d.length
def hiS (d : List Int) : Int := wsum (fun i => (i : Int) + 1) d d.length
def bndV (cells : Nat) (lines : List (List Int)) : AV := .tup [I ((loS (srt (degS cells lines)) + lines.length - 1).tdiv lines.length), I ((hiS (srt (degS cells lines))).tdiv lines.length)]
theorem quo_bd {a : Int} {n : Nat} (h : 0 ≤ a) (hn : 0 < n) : 0 ≤ a.tdiv n ∧ a.tdiv n ≤ a := by
 rw [Int.tdiv_eq_ediv_of_nonneg h]
 exact ⟨Int.ediv_nonneg h (by omega), Int.ediv_le_self _ h⟩
theorem sQuoN {a : Int} {n : Nat} {K : AV → OP} (h : 0 ≤ a) (h2 : a ≤ 9223372036854775807) (hn : 0 < n) : sBin .quo .int (I a) (I (n : Int)) K = K (I (a.tdiv n)) := by
 obtain ⟨q1, q2⟩ := quo_bd h hn
 have e : sBin .quo .int (I a) (I (n : Int)) K = (bif ieq (n : Int) 0 then Out.no 5 else intK (IntKind.wrap .i64 (a.tdiv n)) fun z => K (.int .i64 z)) := rfl
 rw [e, ieq_eq]
 have hb : ((n : Int) == 0) = false := by simp; omega
 rw [hb, cond_false, intK_eq, wrap64_in (by omega)]
theorem bounds83 {cells : Nat} {lines : List (List Int)} (hj : ∀ B, JOk Tryz.prog B hookS) (h0 : 0 < lines.length) (hcl : cells ≤ 256) (hn : lines.length ≤ 128) (hl : ∀ l ∈ lines, l.length ≤ 1000 ∧ ∀ c ∈ l, 0 ≤ c ∧ c < (cells : Int)) : Pure Tryz.prog B 83 [.agg [I cells, encT lines]] (· = bndV cells lines) := by
 refine pure_hp fun h nx K H0 hK => by_body tbl_ok dreg 10000000 fun hf => ?_
 rw [F83.go]
 refine H0.box (l := [I cells, encT lines]) rfl fun bx h1 nx1 H1 => ?_
 rw [H1.loadN (k := 0) (n := 2) rfl rfl]
 refine deg95 hcl hn hl _ _ _ _ ?_
 rintro _ rfl _
 refine values126 _ _ _ _ ?_
 rintro _ rfl _
 refine sorted125 hj (by rw [degS_length]; omega) _ _ _ _ ?_
 rintro _ rfl _
 simp only [sLen_lst]
 have hM : Bd (srt (degS cells lines)) 128000 := (degS_bd (W := 1000) fun l hm => ⟨(hl l hm).1, fun c hc => by have := (hl l hm).2 c hc; omega⟩).srt.mono (by omega)
 have hlen : (srt (degS cells lines)).length = cells := by rw [srt_length, degS_length]
 unfold bndV at hK
 generalize srt (degS cells lines) = d at *
 have hf1 : ∀ j, j < d.length → 0 ≤ (j : Int) + 1 ∧ (j : Int) + 1 ≤ ((256 : Nat) : Int) := fun j hj => by omega
 have hf2 : ∀ j, j < d.length → 0 ≤ (d.length : Int) - j ∧ (d.length : Int) - j ≤ ((256 : Nat) : Int) := fun j hj => by omega
 refine F83.L1 (fun m z5 z6 z12 h' nx' => ∃ i : Nat, z12 = I i ∧ z5 = I (wsum (fun i => (d.length : Int) - i) d i) ∧ z6 = I (wsum (fun i => (i : Int) + 1) d i) ∧ d.length - i = m ∧ i ≤ d.length ∧ h' = h1 ∧ nx' = nx1) (m := d.length) (by omega) ⟨0, rfl, rfl, rfl, by omega, by omega, rfl, rfl⟩ ?_
 rintro m z5 z6 z7 z8 z12 z13 h1 nx1 R ⟨i, rfl, rfl, rfl, rfl, hi, rfl, rfl⟩ hR
 obtain ⟨w1, w2⟩ := wsum_bd hM hf1 i hi
 obtain ⟨w3, w4⟩ := wsum_bd hM hf2 i hi
 simp (disch := omega) only [sAdd, sSub, sMul, sEql, sNeq, sLss, sLeq, sGtr, sGeq, sPick_t, sPick_f, sCond_t, sCond_f, sG_tt, sG_ff, sG_tf, sG_ft, sNot_b, sExt0, sExt1, sExt2, sPart0, sPart1, sPart2, sLen_lst, sLen_sl, sLen_nils, sSame_refl, decide_true, decide_false, Bool.not_true, Bool.not_false, sChk_t]
 by_cases hlt : i < d.length
 ·simp only [show (i : Int) < (d.length : Int) by omega, decide_true, sCond_t]
  have hx : d[i]? = some (d.getD i 0) := by rw [List.getD_eq_getElem?_getD, List.getElem?_eq_getElem hlt]; rfl
  obtain ⟨a1, a2⟩ := wsum_step hM hf1 hlt
  obtain ⟨a3, a4⟩ := wsum_step hM hf2 hlt
  rw [sIxL rfl hlt, ldL (getI hx)]
  rw [sMul (by omega), sAdd (by omega), sMul (by omega), sAdd (by omega)]
  try rw [sAdd (by omega)]
  exact hR _ _ _ _ _ _ _ _ _ (by omega) ⟨i + 1, rfl, rfl, rfl, rfl, by omega, rfl, rfl⟩
 ·simp only [show ¬ (i : Int) < (d.length : Int) by omega, decide_false, sCond_f]
  obtain rfl : i = d.length := by omega
  rw [F83.k8, sFx, H1.load (k := 0) (i := 0 + 1) rfl rfl]
  simp only [sLen_lst]
  rw [sAdd (by omega), sSub (by omega), sQuoN (by omega) (by omega) h0, sQuoN (by omega) (by omega) h0]
  exact hK _ _ _ _ _ H1 (frz_tup2 (frz_fixd rfl) (frz_fixd rfl)) rfl
end Go.Ev
namespace Go.Ev
open Go Go.Proofs
variable {B : Nat}
def flat2 (q : List (Int × Int)) : List AV := q.flatMap fun p => [I p.1, I p.2]
abbrev encP (q : List (Int × Int)) : AV := .lst 2 q.length (flat2 q)
theorem flat2_len (q : List (Int × Int)) : (flat2 q).length = q.length * 2 := by
 induction q with
 | nil => rfl
 | cons p q ih => rw [flat2, List.flatMap_cons, List.length_append, ← flat2, ih]; simp; omega
theorem flat2_app (a b : List (Int × Int)) : flat2 (a ++ b) = flat2 a ++ flat2 b := by simp [flat2]
theorem flat2_drop : ∀ (q : List (Int × Int)) (i : Nat), (flat2 q).drop (i * 2) = flat2 (q.drop i)
 | q, 0 => by simp
 | [], i + 1 => by simp [flat2]
 | p :: q, i + 1 => by
  rw [List.drop_succ_cons, ← flat2_drop q i, show (i + 1) * 2 = i * 2 + 1 + 1 by omega]
  rfl
theorem flat2_take : ∀ (q : List (Int × Int)) (i : Nat), (flat2 q).take (i * 2) = flat2 (q.take i)
 | q, 0 => by simp [flat2]
 | [], i + 1 => by simp [flat2]
 | p :: q, i + 1 => by
  rw [List.take_succ_cons, show (i + 1) * 2 = i * 2 + 1 + 1 by omega]
  show I p.1 :: I p.2 :: (flat2 q).take (i * 2) = _
  rw [flat2_take q i]
  rfl
theorem flat2_mem {q : List (Int × Int)} : ∀ v ∈ flat2 q, ∃ x, v = I x := fun v hv => by
 obtain ⟨p, _, h⟩ := List.mem_flatMap.1 hv
 simp only [List.mem_cons, List.not_mem_nil, or_false] at h
 rcases h with rfl | rfl
 ·exact ⟨_, rfl⟩
 ·exact ⟨_, rfl⟩
theorem fixd_flat2 {q : List (Int × Int)} : ∀ v ∈ flat2 q, fixd v = true := fun v hv => by obtain ⟨x, rfl⟩ := flat2_mem v hv; rfl
theorem scal_flat2 {q : List (Int × Int)} : (flat2 q).all scal = true := List.all_eq_true.2 fun v hv => by obtain ⟨x, rfl⟩ := flat2_mem v hv; rfl
theorem fixd_encP (q : List (Int × Int)) : fixd (encP q) = true := fixd_all fixd_flat2
theorem flat2_cons {q : List (Int × Int)} {i : Nat} (h : i < q.length) : (flat2 q).drop (i * 2) = I q[i].1 :: I q[i].2 :: (flat2 q).drop ((i + 1) * 2) := by
 rw [flat2_drop, flat2_drop, List.drop_eq_getElem_cons h]; rfl
theorem sNeqP {a b c d : Int} {K : AV → OP} : sBin .neq (.agg 2) (.agg [I a, I b]) (.agg [I c, I d]) K = K (.bool (!(decide (a = c) && decide (b = d)))) := by
 have e : sBin .neq (.agg 2) (.agg [I a, I b]) (.agg [I c, I d]) K = K (.bool (!(ieq a c && ieq b d))) := by
  have e1 : aggEq [I a, I b] [I c, I d] = some (ieq a c && ieq b d) := by
   show (bif ieq a c then (bif ieq b d then some true else some false) else some false) = _
   cases ieq a c <;> cases ieq b d <;> rfl
  show (match aggEq [I a, I b] [I c, I d] with | some r => eqOut .neq r K | none => Out.no 5) = _
  rw [e1]
  rfl
 rw [e, ieq_eq, ieq_eq]
 congr 3
theorem samePairs66 {a b : List (Int × Int)} (ha : a.length ≤ 1000000) : Pure Tryz.prog B 66 [encP a, encP b] (· = .bool (decide (a = b))) := by
 intro p h nx K hK
 refine by_body tbl_ok dreg 10000000 fun hf => ?_
 rw [F66.go]
 simp only [sLen_lst, sNeq]
 by_cases hl : a.length = b.length
 case neg =>
  have h1 : ¬ (a.length : Int) = (b.length : Int) := by omega
  simp only [h1, decide_false, Bool.not_false, sCond_t]
  refine hK _ ?_ hf
  rw [decide_eq_false fun q => hl (by rw [q])]
 simp only [show (a.length : Int) = (b.length : Int) by omega, decide_true, Bool.not_true, sCond_f]
 refine F66.L2 (fun m z3 h' nx' => ∃ i : Nat, z3 = I i ∧ m = a.length - i ∧ i ≤ a.length ∧ h' = h ∧ nx' = nx ∧ a.take i = b.take i) (m := a.length) (by omega) ⟨0, rfl, by simp, by omega, rfl, rfl, by simp⟩ ?_
 rintro m z2 z3 z5 z6 h nx R ⟨i, rfl, rfl, hi, rfl, rfl, htk⟩ hR
 simp only [sLen_lst, sLss]
 by_cases hlt : i < a.length
 case neg =>
  simp only [show ¬ (i : Int) < (a.length : Int) by omega, decide_false, sCond_f]
  rw [F66.k9]
  refine hK _ ?_ hf
  rw [List.take_of_length_le (by omega), List.take_of_length_le (by omega)] at htk
  rw [decide_eq_true htk]
 simp only [show (i : Int) < (a.length : Int) by omega, decide_true, sCond_t]
 have hx : a[i]? = some a[i] := List.getElem?_eq_getElem hlt
 have hy : b[i]? = some b[i] := List.getElem?_eq_getElem (by omega)
 rw [sIxL rfl hlt, flat2_cons hlt, sLoadN_fp2, sIxL rfl (by omega), flat2_cons (by omega), sLoadN_fp2, sNeqP]
 by_cases c : a[i] = b[i]
 ·rw [c]
  simp only [decide_true, Bool.and_self, Bool.not_true, sCond_f]
  rw [sAdd (by omega)]
  exact hR _ _ _ _ _ _ _ (by omega) ⟨i + 1, rfl, rfl, by omega, rfl, rfl, by rw [List.take_add_one, List.take_add_one, htk, hx, hy, c]⟩
 ·have hne : (decide (a[i].1 = b[i].1) && decide (a[i].2 = b[i].2)) = false := by
   rw [Bool.eq_false_iff]
   intro q
   simp only [Bool.and_eq_true, decide_eq_true_eq] at q
   exact c (Prod.ext q.1 q.2)
  rw [hne]
  simp only [Bool.not_false, sCond_t]
  refine hK _ ?_ hf
  rw [decide_eq_false]
  intro q
  subst q
  exact c rfl
def loB (n : Nat) (lines : List (List Int)) : Int := (loS (srt (degS n lines)) + lines.length - 1).tdiv lines.length
def hiB (n : Nat) (lines : List (List Int)) : Int := (hiS (srt (degS n lines))).tdiv lines.length
theorem AscL.len {n : Nat} {l : List Int} (h : AscL n l) : l.length ≤ n := by
 obtain ⟨t, ht⟩ := sub_perm l ((List.range n).map fun (i : Nat) => (i : Int)) (h.2.1.imp fun {x y} q e => by omega) fun x hx => by
  have := h.2.2 x hx
  exact List.mem_map.2 ⟨x.toNat, List.mem_range.2 (by omega), by omega⟩
 have := ht.length_eq
 simp at this
 omega
theorem bnd_bd {n : Nat} {lines : List (List Int)} (h0 : 0 < lines.length) (hn : n ≤ 9) (hm : lines.length ≤ 128) (hl : ∀ l ∈ lines, AscL n l) : 0 ≤ loB n lines ∧ loB n lines ≤ 200000 ∧ 0 ≤ hiB n lines ∧ hiB n lines ≤ 200000 := by
 have hM : Bd (srt (degS n lines)) 1152 := (degS_bd (W := 9) fun l hm => ⟨Nat.le_trans (hl l hm).len hn, fun c hc => by have := (hl l hm).2.2 c hc; omega⟩).srt.mono (by omega)
 have hlen : (srt (degS n lines)).length = n := by rw [srt_length, degS_length]
 unfold loB hiB loS hiS
 generalize srt (degS n lines) = d at *
 have hf1 : ∀ j, j < d.length → 0 ≤ (j : Int) + 1 ∧ (j : Int) + 1 ≤ ((9 : Nat) : Int) := fun j hj => by omega
 have hf2 : ∀ j, j < d.length → 0 ≤ (d.length : Int) - j ∧ (d.length : Int) - j ≤ ((9 : Nat) : Int) := fun j hj => by omega
 obtain ⟨w1, w2⟩ := wsum_bd hM hf1 d.length (Nat.le_refl _)
 obtain ⟨w3, w4⟩ := wsum_bd hM hf2 d.length (Nat.le_refl _)
 obtain ⟨q1, q2⟩ := quo_bd (a := wsum (fun i => (d.length : Int) - i) d d.length + lines.length - 1) (by omega) h0
 obtain ⟨q3, q4⟩ := quo_bd (a := wsum (fun i => (i : Int) + 1) d d.length) (by omega) h0
 refine ⟨q1, ?_, q3, ?_⟩ <;> (have : d.length ≤ 9 := by omega) <;> omega
def stpC (k : Nat) (_ : List Int) : Nat × Bool := (k + 1, true)
theorem foldC : ∀ (l : List (List Int)) (k : Nat), foldE stpC k l = (k + l.length, true)
 | [], k => rfl
 | x :: l, k => by
  show foldE stpC (k + 1) l = _
  rw [foldC l, List.length_cons]
  congr 1; omega
def F113.LC (tm : T AV) (b7 id : Pa) (X : List Ob) (_ : Bool) (k : Nat) (L : List Ob) : Prop := L = .raw id (.loop .ready .none tm [.of 10] F113.b9 F113.b10) :: .arr b7 [I (wrapN k)] :: X
theorem F113.yc {h0 : T Blk} {n : Nat} {lines : List (List Int)} {s : Int} {b7 id : Pa} {X : List Ob} {x0 x1 x2 x3 x4 x5 x6 x8 x9 x10 x11 : AV} (f bu bf be bp bg : Pa) : YC B h0 n lines s f bu bf be bp bg id (F113.LC (F113.fr x0 x1 x2 x3 x4 x5 x6 (.ptr b7 0) x8 x9 x10 x11) b7 id X) stpC := by
 rintro k fl m h nx K L hfl hrg rfl H hK
 refine by_round (fns := tbl) dreg 100 fun hf => ?_
 rw [F113.y10 (getLoop H (k := 6) rfl) rfl]
 have H1 := H.setRaw (k := 6) rfl (b' := .loop .busy .none (F113.fr x0 x1 x2 x3 x4 x5 x6 (.ptr b7 0) x8 x9 x10 x11) [.of 10] F113.b9 F113.b10) (by intro e; cases e)
 rw [H1.load (k := 7) (i := 0) rfl rfl, sAddW, wrapN_succ]
 refine H1.store (k := 7) rfl (by simp) rfl fun h2 H2 => ?_
 refine H2.rend (k := 6) rfl fun h3 H3 => ?_
 exact hK _ _ _ rfl H3
theorem spectrum113 {n : Nat} {lines : List (List Int)} (hj : ∀ B, JOk Tryz.prog B hookS) (h0 : 0 < lines.length) (hn9 : n ≤ 9) (hm : lines.length ≤ 128) (hl : ∀ l ∈ lines, AscL n l ∧ l.length ≤ 1000) : Pure Tryz.prog B 113 [.agg [I n, encT lines]] (· = encP (spV lines n (loB n lines) (hiB n lines + 1 - loB n lines).toNat)) := by
 refine pure_hp fun h nx K H0 hK => by_body tbl_ok dreg 100000000 fun hf => ?_
 obtain ⟨d1, d2, d3, d4⟩ := bnd_bd h0 hn9 hm fun l h => (hl l h).1
 rw [F113.go]
 refine H0.box (l := [I n, encT lines]) rfl fun bx h1 nx1 H1 => ?_
 rw [H1.loadN (k := 0) (n := 2) rfl rfl]
 refine bounds83 hj h0 (by omega) hm (fun l h => ⟨(hl l h).2, (hl l h).1.2.2⟩) _ _ _ _ ?_
 rintro _ rfl _
 unfold bndV
 simp only [sExt0, sExt1]
 rw [show (loS (srt (degS n lines)) + lines.length - 1).tdiv lines.length = loB n lines from rfl, show (hiS (srt (degS n lines))).tdiv lines.length = hiB n lines from rfl]
 generalize loB n lines = lo at *
 generalize hiB n lines = hi at *
 have hcnt : ∀ s, cntS lines n s ≤ 1000000000 := fun s => Nat.le_trans (enum_len n []) (Nat.le_trans (Nat.pow_le_pow_left hn9 n) (Nat.le_trans (Nat.pow_le_pow_right (by omega) hn9) (by decide)))
 refine F113.L1 (fun m x3 x6 x10 x11 h' nx' => ∃ (i : Nat) (o : Option Pa) (X : List Ob), x6 = I (lo + i) ∧ m = (hi + 1 - lo).toNat - i ∧ i ≤ (hi + 1 - lo).toNat ∧ x3 = rowV o 2 (spV lines n lo i).length ∧ Hp h h' nx' (.gro o 2 (spV lines n lo i).length (flat2 (spV lines n lo i)) :: .arr bx [I n, encT lines] :: X)) (m := (hi + 1 - lo).toNat) (by omega)
  ⟨0, none, [], by simp, by omega, by omega, rfl, H1.addGro 2⟩ ?_
 rintro m x3 x6 x7 x8 x9 x10 x11 h2 nx2 R ⟨i, o, X, rfl, rfl, hi', rfl, H2⟩ hR
 simp only [sLeq]
 have hsl := spV_len lines n lo i
 by_cases hlt : lo + i ≤ hi
 case neg =>
  simp only [hlt, decide_false, sCond_f]
  rw [F113.k14]
  obtain rfl : i = (hi + 1 - lo).toNat := by omega
  exact hK _ _ _ _ _ H2 (H2.frzGro (k := 0) rfl fixd_flat2) rfl
 simp only [hlt, decide_true, sCond_t]
 refine H2.alloc fun b7 h3 nx3 H3 => ?_
 refine H3.store (k := 0) rfl (by simp) rfl fun h4 H4 => ?_
 rw [H4.loadN (k := 2) (n := 2) rfl rfl]
 refine normal107 _ _ _ _ ?_
 rintro _ rfl _
 have H4' : Hp h h4 nx3 (.arr b7 [I (wrapN 0)] :: .gro o 2 (spV lines n lo i).length (flat2 (spV lines n lo i)) :: .arr bx [I n, encT lines] :: X) := H4
 refine H4'.rf (g := 136) (p := .of 136) (cap := [.fp [I n, encT lines], .fp [I (lo + i)]]) rfl fun id h5 nx5 H5 => ?_
 refine normal136 (LC := F113.LC _ b7 id (.gro o 2 (spV lines n lo i).length (flat2 (spV lines n lo i)) :: .arr bx [I n, encT lines] :: X)) (stp := stpC) (st := 0) hn9 (by omega) hl (by omega) (fun f bu bf be bp bg => F113.yc f bu bf be bp bg) rfl H5 fun h6 nx6 L' hL' H6 => ?_
 rw [foldC] at hL'
 simp only [Nat.zero_add] at hL'
 unfold F113.LC at hL'
 subst hL'
 refine H6.rfEnd fun h7 H7 => ?_
 show Ev.rfEnd _ _ .ready .none _ h7 nx6 = _
 rw [rfEnd_on, F113.k12, H7.load (k := 0) (i := 0) rfl rfl]
 have hwc : wrapN (enumN lines (lo + (i : Int)) n n []).length = ((cntS lines n (lo + i) : Nat) : Int) := wrap64_in (by have : (enumN lines (lo + (i : Int)) n n []).length ≤ 1000000000 := hcnt (lo + i); omega)
 rw [hwc]
 have hC := hcnt (lo + i)
 simp only [sGtr]
 have e1 : lo + (i : Int) + 1 = lo + ((i + 1 : Nat) : Int) := by omega
 by_cases c : 0 < cntS lines n (lo + i)
 ·simp only [show (0 : Int) < ((cntS lines n (lo + i) : Nat) : Int) by omega, decide_true, sCond_t]
  rw [H7.load (k := 0) (i := 0) rfl rfl, hwc]
  have eb : ∀ (x y : Int) (K' : AV → OP), sBuild [(I 0), (I 0)] [(0, 1, I x), (1, 1, I y)] K' = K' (.agg [I x, I y]) := fun x y K' => nr rfl
  rw [eb]
  refine H7.bslice (l := [I (lo + i), I (cntS lines n (lo + i))]) rfl fun b8 h8 nx8 H8 => ?_
  refine H8.appN (k := 2) (o := o) (c := 1) (new := [I (lo + i), I (cntS lines n (lo + i))]) rfl (HasArr.rd (l := [I (lo + i), I (cntS lines n (lo + i))]) (n := 1) (e := 2) (H8.own _ (List.mem_cons_self ..)) rfl) rfl rfl (by decide) (by decide) (by omega) fun o' h9 nx9 _ H9 => ?_
  rw [F113.k13, sAdd (by omega), e1]
  have es : spV lines n lo (i + 1) = spV lines n lo i ++ [(lo + (i : Int), ((cntS lines n (lo + i) : Nat) : Int))] := by
   rw [spV_succ, spF, if_pos c]; rfl
  have H10 := H9.drop.drop
  refine hR _ _ _ _ _ _ _ _ _ _ (by omega) ⟨i + 1, o', X, rfl, rfl, by omega, by rw [es]; simp, H10.cast ?_⟩
  rw [es, flat2_app]
  simp [flat2]
 ·simp only [show ¬ (0 : Int) < ((cntS lines n (lo + i) : Nat) : Int) by omega, decide_false, sCond_f]
  rw [F113.k13, sAdd (by omega), e1]
  have es : spV lines n lo (i + 1) = spV lines n lo i := by
   rw [spV_succ, spF, if_neg c]; simp
  refine hR _ _ _ _ _ _ _ _ _ _ (by omega) ⟨i + 1, o, X, rfl, rfl, by omega, by rw [es], ?_⟩
  rw [es]
  exact H7.drop
end Go.Ev
namespace Go.Ev
open Go Go.Proofs
variable {B : Nat}
theorem agreesF90 {n : Nat} {lines : List (List Int)} {b : AV} {f : List Int} {rest : List AV} {p : Pa} {h0 h : T Blk} {nx : Pa} {L : List Ob} {K : Kw Prop} (hn : lines.length ≤ 1000000) (hl : ∀ l ∈ lines, AscL n l ∧ l.length ≤ 1000000) (hb : LI b f) (hf9 : ∀ v ∈ f, 0 ≤ v ∧ v ≤ 9)
  (hcells : (AV.agg (I 0 :: .bool true :: rest)).cells = some (I 0 :: .bool true :: rest)) (H : Hp h0 h nx L) (hK : ∀ h' nx', Hp h0 h' nx' L → K (.bool (agF f lines none)) h' nx' = .ok True) :
  (CS Tryz.prog B).fn 90 p [.agg [I n, encT lines], b, .agg (I 0 :: .bool true :: rest)] h nx K = .ok True := by
 refine CS_fn_mono (p := .of 90) (K := K) (by_body tbl_ok dreg 10000000 fun hf => ?_) fun _ _ _ _ q => q
 rw [F90.go]
 refine H.box (l := [I n, encT lines]) rfl fun bx h1 nx1 H1 => ?_
 refine H1.box hcells fun b2 h2 nx2 H2 => ?_
 rw [sFx, H2.load (k := 0) (i := 0) rfl rfl, sFx, H2.load (k := 0) (i := 0 + 1) rfl rfl]
 simp only [sNot_b, Bool.not_true]
 refine F90.L1 (fun m z6 z7 z8 h' nx' => ∃ (i : Nat) (o : Option Int), z8 = I i ∧ z6 = I (o.getD 0) ∧ z7 = .bool o.isSome ∧ lines.length - i = m ∧ i ≤ lines.length ∧ h' = h2 ∧ nx' = nx2 ∧ agF f lines none = agF f (lines.drop i) o) (m := lines.length) (by omega) ⟨0, none, rfl, rfl, rfl, rfl, by omega, rfl, rfl, rfl⟩ ?_
 rintro m z5 z6 z7 z8 z9 z10 z11 z12 z13 h2 nx2 R ⟨i, o, rfl, rfl, rfl, rfl, hi, rfl, rfl, hag⟩ hR
 have hlenb : sLen b = fun op : AV → Out Prop => op (I f.length) := by
  funext op
  rcases hb with ⟨rfl, rfl⟩ | rfl <;> rfl
 rw [sFx, H2.load (k := 1) (i := 0 + 1) rfl rfl]
 simp only [sLen_lst, sLss]
 have ret : ∀ v : Bool, v = agF f lines none → K (.bool v) h2 nx2 = .ok True := fun v hv => by rw [hv]; exact hK _ _ H2.drop.drop
 by_cases hlt : i < lines.length
 case neg =>
  simp only [show ¬ (i : Int) < (lines.length : Int) by omega, decide_false, sCond_f]
  rw [F90.k10]
  rw [List.drop_of_length_le (by omega)] at hag
  exact ret true (hag.trans (by cases o <;> rfl)).symm
 simp only [show (i : Int) < (lines.length : Int) by omega, decide_true, sCond_t]
 have hx : lines[i]? = some lines[i] := List.getElem?_eq_getElem hlt
 obtain ⟨ha, hl6⟩ := hl _ (List.getElem_mem hlt)
 have hpos : 0 < lines[i].length := List.length_pos_iff.2 ha.1
 rw [List.drop_eq_getElem_cons hlt] at hag
 simp only [agF] at hag
 rw [sFx, H2.load (k := 1) (i := 0 + 1) rfl rfl, sIxL rfl hlt, ldL (getT hx)]
 simp only [sLen_lst]
 rw [sSub (by omega), sIxL (i := lines[i].length - 1) (by omega) (by omega), ldL (getI (getLast_get hpos)), hlenb]
 simp only [sGeq]
 by_cases c : (f.length : Int) ≤ lines[i].getLastD 0
 ·simp only [c, decide_true, sCond_t]
  rw [if_pos c] at hag
  rw [sAdd (by omega)]
  exact hR _ _ _ _ _ _ _ _ _ _ _ _ (by omega) ⟨i + 1, o, rfl, rfl, rfl, rfl, by omega, rfl, rfl, hag⟩
 simp only [c, decide_false, sCond_f]
 rw [if_neg c] at hag
 have hbe : b = encI f := by
  rcases hb with ⟨_, q⟩ | q
  ·subst q
   have := (ha.2.2 _ (last_mem' ha.1)).1
   simp only [List.length_nil] at c; omega
  ·exact q
 subst hbe
 refine lineSumZ127 hl6 (fun x hx' => ⟨(ha.2.2 x hx').1, by have := le_lastZ ha.2.1 x hx'; omega⟩) hf9 _ _ _ _ ?_
 rintro _ rfl _
 cases o with
 | none =>
  simp only [Option.isSome_none, sG_ft, sPick_f, sCond_f]
  rw [sAdd (by omega)]
  exact hR _ _ _ _ _ _ _ _ _ _ _ _ (by omega) ⟨i + 1, some (lsumZ lines[i] f), rfl, rfl, rfl, rfl, by omega, rfl, rfl, hag⟩
 | some s =>
  simp only [Option.isSome_some, Option.getD_some, sG_tt, sNeq, sPick_t]
  by_cases c2 : lsumZ lines[i] f = s
  ·simp only [c2, decide_true, Bool.not_true, sCond_f]
   simp only [c2, if_true] at hag
   rw [sAdd (by omega)]
   exact hR _ _ _ _ _ _ _ _ _ _ _ _ (by omega) ⟨i + 1, some s, rfl, rfl, rfl, rfl, by omega, rfl, rfl, hag⟩
  ·simp only [c2, decide_false, Bool.not_false, sCond_t]
   simp only [c2, if_false] at hag
   exact ret false hag.symm
noncomputable def tlA (D : List (List Int)) (o : Option Pa) (m : Nat) : AV := .agg [I 0, .bool true, I 0, I (wrapN D.length), rowV o 2 m, .nils, .nils]
theorem tlA_cells (D : List (List Int)) (o : Option Pa) (m : Nat) : (tlA D o m).cells = some [I 0, .bool true, I 0, I (wrapN D.length), rowV o 2 m, .nils, .nils] := by cases o <;> rfl
noncomputable abbrev TA (lines : List (List Int)) (D : List (List Int)) (o : Option Pa) : Ob := .gro o 2 (specF lines D).length (flat2 (specF lines D))
theorem flat2_get {q : List (Int × Int)} {i : Nat} {p : Int × Int} (h : q[i]? = some p) : (flat2 q)[i * 2]? = some (I p.1) ∧ (flat2 q)[i * 2 + 1]? = some (I p.2) := by
 have hi := (List.getElem?_eq_some_iff.1 h).1
 have e := flat2_cons hi
 have h2 := (List.getElem?_eq_some_iff.1 h).2
 rw [h2] at e
 constructor
 ·have := congrArg (fun l : List AV => l[0]?) e
  simpa using this
 ·have := congrArg (fun l : List AV => l[1]?) e
  simpa using this
theorem flat2_set : ∀ {q : List (Int × Int)} {i : Nat} {x c d : Int}, q[i]? = some (x, c) → flat2 (q.set i (x, d)) = (flat2 q).set (i * 2 + 1) (I d)
 | [], i, _, _, _, h => by simp at h
 | p :: q, 0, x, c, d, h => by
  simp only [List.getElem?_cons_zero, Option.some.injEq] at h
  subst h; rfl
 | p :: q, i + 1, x, c, d, h => by
  rw [List.set_cons_succ]
  show I p.1 :: I p.2 :: flat2 (q.set i (x, d)) = _
  rw [flat2_set (c := c) (by simpa using h), show (i + 1) * 2 + 1 = (i * 2 + 1) + 1 + 1 by omega]
  rfl
end Go.Ev
namespace Go.Ev
open Go Go.Proofs
variable {B : Nat}
theorem sNeqNil0 {K : AV → OP} : sBin .neq (.nil .sl) .nils .nils K = K (.bool false) := nr rfl
theorem sAx0 {K : AV → OP} {id : Pa} {off : Nat} : sAaddr 1 2 (.ptr id off) (I 0) K = K (.ptr id off) := by
 show (bif Nat.ble (0 + 1) 2 then natK (off + 0 * 1) (fun o => K (.ptr id o)) else .no 14) = _
 rw [Nat.ble_eq_true_of_le (by omega), natK_eq]; simp
theorem sAx1 {K : AV → OP} {id : Pa} {off : Nat} : sAaddr 1 2 (.ptr id off) (I 1) K = K (.ptr id (off + 1)) := by
 show (bif Nat.ble (1 + 1) 2 then natK (off + 1 * 1) (fun o => K (.ptr id o)) else .no 14) = _
 rw [Nat.ble_eq_true_of_le (by omega), natK_eq]; simp
theorem sBuildP {x y : Int} {K : AV → OP} : sBuild [(I 0), (I 0)] [(0, 1, I x), (1, 1, I y)] K = K (.agg [I x, I y]) := nr rfl
theorem gro_some {h0 h : T Blk} {nx : Pa} {L : List Ob} {k n e : Nat} {o : Option Pa} {l : List AV} (H : Hp h0 h nx L) (hk : L[k]? = some (.gro o e n l)) (hn : 0 < n) : ∃ id, o = some id := by
 cases o with
 | none =>
  obtain ⟨_, rfl⟩ := H.own _ (List.mem_of_getElem? hk)
  omega
 | some id => exact ⟨id, rfl⟩
theorem sIxG {id : Pa} {m j : Nat} {op : AV → OP} (hj : j < m) : sIaddr 2 (rowV (some id) 2 m) (I (j : Int)) op = op (.ptr id (j * 2)) := by
 show sIaddr 2 (.sl id 0 m none 2) (I (j : Int)) op = _
 rw [sIaddr_sl hj, Nat.zero_add]
theorem notedA139 {n : Nat} {lines : List (List Int)} {D : List (List Int)} {o : Option Pa} {M : List Ob} {fl : List Int} {p : Pa} {h0 h : T Blk} {nx : Pa} {K : Kw Prop} (hn9 : n ≤ 9) (hl : ∀ l ∈ lines, AscL n l ∧ l.length ≤ 1000) (hD : (specF lines D).length ≤ 999000) (hfl : fl.length = n) (hrg : ∀ x ∈ fl, 1 ≤ x ∧ x ≤ (n : Int))
  (H : Hp h0 h nx (TA lines D o :: M)) (hK : ∀ o' h' nx', Hp h0 h' nx' (TA lines (D ++ [fl]) o' :: M) → K (tlA (D ++ [fl]) o' (specF lines (D ++ [fl])).length) h' nx' = .ok True) :
  (CS Tryz.prog B).fn 139 p [.agg [I n, encT lines], encI fl, tlA D o (specF lines D).length] h nx K = .ok True := by
 refine CS_fn_mono (p := .of 139) (K := K) (by_body tbl_ok dreg 1000000 fun hf => ?_) fun _ _ _ _ q => q
 rw [F139.go]
 refine H.box (l := [I n, encT lines]) rfl fun b1 h1 nx1 H1 => ?_
 refine H1.box (tlA_cells D o _) fun b2 h2 nx2 H2 => ?_
 refine H2.alloc fun b7 h3 nx3 H3 => ?_
 rw [sFx, H3.load (k := 1) (i := 0 + 3) rfl rfl, sAddW, wrapN_succ, sFx]
 refine H3.store (k := 1) rfl (by simp) rfl fun h4 H4 => ?_
 have hd1 : (D ++ [fl]).length = D.length + 1 := by simp
 rw [← hd1] at H4
 have H5 : Hp h0 h4 nx3 (.arr b7 [I 0, .bool false, I 0, I 0, .nils, .nils, .nils] :: .arr b2 [I 0, .bool true, I 0, I (wrapN (D ++ [fl]).length), rowV o 2 (specF lines D).length, .nils, .nils] :: .arr b1 [I n, encT lines] :: TA lines D o :: M) := H4
 clear H4
 rw [sFx, H5.load (k := 1) (i := 0 + 6) rfl rfl, sNeqNil0]
 simp only [sCond_f]
 have fin : ∀ (o' : Option Pa) (h7 : T Blk) (nx7 : Pa), Hp h0 h7 nx7 (.arr b7 [I 0, .bool false, I 0, I 0, .nils, .nils, .nils] :: .arr b2 [I 0, .bool true, I 0, I (wrapN (D ++ [fl]).length), rowV o' 2 (specF lines (D ++ [fl])).length, .nils, .nils] :: .arr b1 [I n, encT lines] :: TA lines (D ++ [fl]) o' :: M) →
   (sLoadN 7 (.ptr b2 0) h7 fun v5 => sStore 7 (.ptr b7 0) v5 h7 nx7 fun v6 h7 n8 => sLoadN 7 (.ptr b7 0) h7 fun v9 => K v9 h7 n8) = .ok True := by
  intro o' h7 nx7 H7
  rw [H7.loadN (k := 1) (n := 7) rfl rfl]
  refine H7.storeN (k := 0) (n := 7) rfl rfl rfl fun h8 H8 => ?_
  rw [H8.loadN (k := 0) (n := 7) rfl rfl]
  exact hK _ _ _ H8.drop.drop.drop
 rw [F139.k8, sFx, H5.load (k := 1) (i := 0 + 5) rfl rfl]
 simp only [sLen_nils]
 rw [sFx, H5.load (k := 1) (i := 0 + 2) rfl rfl]
 simp only [sLss, show ¬ (0 : Int) < 0 by omega, decide_false, sCond_f]
 rw [F139.k9, sFx, H5.load (k := 2) (i := 0 + 1) rfl rfl]
 simp only [sLen_lst, sEql]
 cases lines with
 | nil =>
  simp only [List.length_nil, show ((0 : Nat) : Int) = 0 from rfl, decide_true, sCond_t]
  exact fin o _ _ H5
 | cons l ls =>
 simp only [List.length_cons, show ¬ ((ls.length + 1 : Nat) : Int) = 0 by omega, decide_false, sCond_f]
 have hx : (l :: ls)[0]? = some l := rfl
 obtain ⟨ha, hlw⟩ := hl l (List.mem_cons_self ..)
 rw [sFx, H5.load (k := 2) (i := 0 + 1) rfl rfl, sIxL (i := 0) (j := 0) (by rfl) (by simp), ldL (getT hx)]
 refine lineSumZ127 (by omega) (fun c hc => by rw [hfl]; exact ha.2.2 c hc) (fun v hv => by have := hrg v hv; omega) _ _ _ _ ?_
 rintro _ rfl _
 have hsn := specF_snoc (l :: ls) D fl
 simp only at hsn
 generalize hq : specF (l :: ls) D = q at *
 generalize hxx : lsumZ l fl = x at *
 refine F139.L11 (fun m z8 h' nx' => ∃ j : Nat, z8 = I j ∧ m = q.length - j ∧ j ≤ q.length ∧ (∀ t p, t < j → q[t]? = some p → p.1 < x) ∧ h' = h4 ∧ nx' = nx3) (m := q.length) (by omega) ⟨0, rfl, by omega, by omega, fun t p h => by omega, rfl, rfl⟩ ?_
 rintro m y8 y13 h4 nx3 R ⟨j, rfl, rfl, hj, hlo, rfl, rfl⟩ hR
 have HG : (Ob.arr b7 [I 0, .bool false, I 0, I 0, .nils, .nils, .nils] :: .arr b2 [I 0, .bool true, I 0, I (wrapN (D ++ [fl]).length), rowV o 2 q.length, .nils, .nils] :: .arr b1 [I n, encT (l :: ls)] :: Ob.gro o 2 q.length (flat2 q) :: M)[3]? = some (.gro o 2 q.length (flat2 q)) := rfl
 have H5 : Hp h0 h4 nx3 (.arr b7 [I 0, .bool false, I 0, I 0, .nils, .nils, .nils] :: .arr b2 [I 0, .bool true, I 0, I (wrapN (D ++ [fl]).length), rowV o 2 q.length, .nils, .nils] :: .arr b1 [I n, encT (l :: ls)] :: Ob.gro o 2 q.length (flat2 q) :: M) := by
  have := H5
  unfold TA at this
  rw [hq] at this
  exact this
 have new : (∀ p, q[j]? = some p → x < p.1) → ∀ z13 z14, IR.run F139.b17 (CS Tryz.prog B) 1000000 (fnO F139.res K) (retK F139.res K) (F139.fr (.agg [I n, encT (l :: ls)]) (encI fl) (tlA D o q.length) (.ptr b1 0) (.ptr b2 0) (.ptr b7 0) .undef (I x) (I j) (.bool false) .undef (.bool false) (.bool false) z13 z14) h4 nx3 = .ok True := by
  intro hhi z13 z14
  have eHi : ∀ op : AV → OP, sSlice 2 (rowV o 2 q.length) none (some (I (j : Int))) none op = op (rowV o 2 j) := fun op => H5.groHi HG hj
  have eLo : ∀ op : AV → OP, sSlice 2 (rowV o 2 q.length) (some (I (j : Int))) none none op = op (dropV o 2 q.length j) := fun op => H5.groLo HG hj
  have ec : ((fillA (repl 1 [(I 0), (I 0)]) [(0, 2, .agg [I x, I 1])]).isSome && true) = true := rfl
  rw [F139.k17]
  simp only [show ((fillA (repl 0 [(I 0), (I 0)]) []).isSome && true) = true from rfl, sChk_t, sFx]
  rw [H5.load (k := 1) (i := 0 + 4) rfl rfl]
  simp only [eHi, sBuildP, ec, sChk_t]
  rw [H5.load (k := 1) (i := 0 + 4) rfl rfl]
  simp only [eLo, sSame_refl]
  refine H5.bslice (l := []) rfl fun e0 h6 nx6 H6 => ?_
  rw [H6.load (k := 2) (i := 0 + 4) rfl rfl]
  simp only [sSame_refl]
  rw [H6.load (k := 2) (i := 0 + 4) rfl rfl]
  simp only [sSame_refl]
  refine H6.app0E (by decide) (H6.groRdHi (k := 4) rfl hj) (by rw [List.length_take, flat2_len]; omega) (List.all_eq_true.2 fun v hv => List.all_eq_true.1 scal_flat2 v (List.mem_of_mem_take hv)) (by decide) (by omega) fun v X h7 nx7 H7 hp => ?_
  rw [H7.load (k := 2) (i := 0 + 4) rfl rfl]
  simp only [sSame_refl]
  rw [H7.load (k := 2) (i := 0 + 4) rfl rfl]
  simp only [sSame_refl]
  refine H7.bslice (l := [I x, I 1]) rfl fun b h8 nx8 H8 => ?_
  rw [H8.load (k := 3) (i := 0 + 4) rfl rfl]
  simp only [sSame_refl]
  rw [H8.load (k := 3) (i := 0 + 4) rfl rfl]
  simp only [sSame_refl]
  refine hp _ _ _ _ [I x, I 1] b _ H8 rfl rfl fun id h9 nx9 H9 => ?_
  rw [H9.load (k := 2) (i := 0 + 4) rfl rfl]
  simp only [sSame_refl]
  refine H9.appN (k := 0) (o := some id) (n := j + 1) (c := q.length - j) (new := (flat2 q).drop (j * 2)) rfl (H9.groRdLo (k := 4) rfl hj) (by rw [List.length_drop, flat2_len, Nat.sub_mul]) (List.all_eq_true.2 fun v hv => List.all_eq_true.1 scal_flat2 v (List.mem_of_mem_drop hv)) (by decide) (by decide) (by omega) fun o' h10 nx10 _ H10 => ?_
  have e1 : j + 1 + (q.length - j) = q.length + 1 := by omega
  rw [e1] at H10 ⊢
  refine H10.store (k := 2) rfl (by simp) (rowV_cells _ _ _) fun h11 H11 => ?_
  have es : specF (l :: ls) (D ++ [fl]) = q.take j ++ [(x, 1)] ++ q.drop j := by rw [hsn]; exact insS_new hj hlo hhi
  have el : (specF (l :: ls) (D ++ [fl])).length = q.length + 1 := by rw [es]; simp; omega
  refine fin o' _ _ ?_
  rw [el]
  unfold TA
  rw [el, es]
  have ef : (flat2 q).take (j * 2) ++ [I x, I 1] ++ (flat2 q).drop (j * 2) = flat2 (q.take j ++ [(x, 1)] ++ q.drop j) := by
   rw [flat2_take, flat2_drop, flat2_app, flat2_app]; rfl
  rw [← ef]
  have H12 : Hp h0 h11 nx10 (.gro o' 2 (q.length + 1) ((flat2 q).take (j * 2) ++ [I x, I 1] ++ (flat2 q).drop (j * 2)) :: .arr b7 [I 0, .bool false, I 0, I 0, .nils, .nils, .nils] :: .arr b2 [I 0, .bool true, I 0, I (wrapN (D ++ [fl]).length), rowV o' 2 (q.length + 1), .nils, .nils] :: .arr b1 [I n, encT (l :: ls)] :: Ob.gro o 2 q.length (flat2 q) :: M) := H11
  have H13 := (H12.perm (List.perm_middle (l₁ := [_, _, _, _]))).drop
  exact H13.perm (List.perm_middle (l₁ := [_, _, _]) (a := Ob.gro o' 2 (q.length + 1) ((flat2 q).take (j * 2) ++ [I x, I 1] ++ (flat2 q).drop (j * 2)))).symm
 have done : ∀ z13, (j < q.length → ¬ (q.getD j (0, 0)).1 < x) → IR.run F139.b16 (CS Tryz.prog B) 1000000 (fnO F139.res K) (retK F139.res K) (F139.fr (.agg [I n, encT (l :: ls)]) (encI fl) (tlA D o q.length) (.ptr b1 0) (.ptr b2 0) (.ptr b7 0) .undef (I x) (I j) (.bool false) .undef (.bool false) (.bool false) z13 .undef) h4 nx3 = .ok True := by
  intro z13 hge
  rw [F139.k16, sFx, H5.load (k := 1) (i := 0 + 4) rfl rfl, H5.groLen HG]
  simp only [sLss]
  by_cases hjl : j < q.length
  ·have hg : q[j]? = some q[j] := List.getElem?_eq_getElem hjl
   have hgd : q.getD j (0, 0) = q[j] := by rw [List.getD_eq_getElem?_getD, hg]; rfl
   have hge := hge hjl
   rw [hgd] at hge
   obtain ⟨id, rfl⟩ := gro_some H5 HG (by omega)
   obtain ⟨f1, f2⟩ := flat2_get hg
   simp only [show (j : Int) < (q.length : Int) by omega, decide_true, sG_tt, sFx]
   rw [H5.load (k := 1) (i := 0 + 4) rfl rfl, sIxG hjl, sAx0, H5.loadGro HG f1]
   simp only [sEql, sPick_t]
   by_cases c : q[j].1 = x
   ·simp only [c, decide_true, sCond_t]
    rw [H5.load (k := 1) (i := 0 + 4) rfl rfl, sIxG hjl, sAx1, H5.loadGro HG f2, sAddW, sIxG hjl, sAx1]
    refine H5.storeGro HG (by rw [flat2_len]; omega) rfl fun h6 H6 => ?_
    have hgx : q[j]? = some (x, q[j].2) := by rw [hg, ← c]
    have es : specF (l :: ls) (D ++ [fl]) = q.set j (x, IntKind.wrap .i64 (q[j].2 + 1)) := by rw [hsn]; exact insS_hit hlo hgx
    have el : (specF (l :: ls) (D ++ [fl])).length = q.length := by rw [es]; simp
    refine fin (some id) _ _ ?_
    rw [el]
    unfold TA
    rw [el, es, flat2_set hgx]
    exact H6
   ·simp only [c, decide_false, sCond_f]
    exact new (fun p hp => by rw [hg] at hp; have := Option.some.inj hp; subst this; omega) _ _
  ·simp only [show ¬ (j : Int) < (q.length : Int) by omega, decide_false, sG_ft, sPick_f, sCond_f]
   exact new (fun p hp => by have := (List.getElem?_eq_some_iff.1 hp).1; omega) _ _
 rw [sFx, H5.load (k := 1) (i := 0 + 4) rfl rfl, H5.groLen HG]
 simp only [sLss]
 by_cases hjl : j < q.length
 ·have hg : q[j]? = some q[j] := List.getElem?_eq_getElem hjl
  have hgd : q.getD j (0, 0) = q[j] := by rw [List.getD_eq_getElem?_getD, hg]; rfl
  obtain ⟨id, rfl⟩ := gro_some H5 HG (by omega)
  obtain ⟨f1, f2⟩ := flat2_get hg
  simp only [show (j : Int) < (q.length : Int) by omega, decide_true, sG_tt, sFx]
  rw [H5.load (k := 1) (i := 0 + 4) rfl rfl, sIxG hjl, sAx0, H5.loadGro HG f1]
  simp only [sLss, sPick_t]
  by_cases c : q[j].1 < x
  ·simp only [c, decide_true, sCond_t]
   rw [F139.k14, sAdd (by omega)]
   refine hR _ _ _ _ _ (by omega) ⟨j + 1, rfl, rfl, by omega, fun t p ht hp => ?_, rfl, rfl⟩
   by_cases e : t = j
   ·subst e; rw [hg] at hp; have := Option.some.inj hp; subst this; exact c
   ·exact hlo t p (by omega) hp
  ·simp only [c, decide_false, sCond_f]
   exact done _ fun _ => by rw [hgd]; exact c
 ·simp only [show ¬ (j : Int) < (q.length : Int) by omega, decide_false, sG_ft, sPick_f, sCond_f]
  exact done _ fun q => absurd q hjl
end Go.Ev
namespace Go.Ev
open Go Go.Proofs
variable {B : Nat}
variable {n : Nat} {lines : List (List Int)} {us : Pa} {h0 : T Blk} {M : List Ob}
theorem tlA_frz {D : List (List Int)} {o : Option Pa} {m : Nat} {h' h : T Blk} {nx : Pa} {L : List Ob} {l : List AV} {e : Nat} (H : Hp h0 h' nx L) (hm : .gro o e m l ∈ L) : FrzN h' h (tlA D o m) (tlA D o m) := by
 have hrow : FrzN h' h (rowV o 2 m) (rowV o 2 m) := by
  cases o with
  | none => exact .nils
  | some id => exact frz_own ((H.own _ hm).live id (by simp [Ob.names]))
 have hrs' : scal (rowV o 2 m) = true := by cases o <;> rfl
 refine frz_aggS (by simp only [List.all_cons, List.all_nil, hrs', Bool.and_true]; rfl) fun v hv => ?_
 simp only [List.mem_cons, List.not_mem_nil, or_false] at hv
 rcases hv with rfl | rfl | rfl | rfl | rfl | rfl | rfl
 ·exact .int _ _
 ·exact .bool _
 ·exact .int _ _
 ·exact .int _ _
 ·exact hrow
 ·exact .nils
 ·exact .nils
noncomputable abbrev tlL (D : List (List Int)) (o : Option Pa) (m : Nat) : List AV := [I 0, .bool true, I 0, I (wrapN D.length), rowV o 2 m, .nils, .nils]
theorem walkA108 (hn1 : 1 ≤ n) (hn9 : n ≤ 9) (hm : lines.length ≤ 1000000) (hl : ∀ l ∈ lines, AscL n l ∧ l.length ≤ 1000) :
  ∀ (r : Nat) (b : AV) (pre : List Int) (D : List (List Int)) (o : Option Pa) (M : List Ob) (p : Pa) (h : T Blk) (nx : Pa) (K : Kw Prop), LI b pre → pre.length + r = n → (∀ x ∈ pre, 1 ≤ x ∧ x ≤ (n : Int)) → (∀ f ∈ D, ∀ x ∈ f, 1 ≤ x ∧ x ≤ (n : Int)) → Hp h0 h nx (usO n us pre :: TA lines D o :: M) →
   (∀ o' h' nx', Hp h0 h' nx' (usO n us pre :: TA lines (D ++ enumG (fun f => agF f lines none) n r pre) o' :: M) → K (tlA (D ++ enumG (fun f => agF f lines none) n r pre) o' (specF lines (D ++ enumG (fun f => agF f lines none) n r pre)).length) h' nx' = .ok True) →
   (CS Tryz.prog B).fn 108 p [.agg [I n, encT lines], b, .sl us 0 (n + 1) (some (n + 1)) 1, tlA D o (specF lines D).length] h nx K = .ok True
 | r, b, pre, D, o, M, p, h, nx, K, hb, hr, hpre, hD, H, hK => by
  refine CS_fn_mono (p := .of 108) (K := K) (by_body tbl_ok dreg 1000 fun hf => ?_) fun _ _ _ _ q => q
  rw [F108.go]
  have hf9 : ∀ v ∈ pre, 0 ≤ v ∧ v ≤ 9 := fun v hv => by have := hpre v hv; omega
  refine H.box (l := [I n, encT lines]) rfl fun b1 h1 nx1 H1 => ?_
  refine H1.box (tlA_cells D o _) fun bt h2 nx2 H2 => ?_
  refine H2.alloc fun b7 h3 nx3 H3 => ?_
  rw [H3.loadN (k := 2) (n := 2) rfl rfl, H3.loadN (k := 1) (n := 7) rfl rfl]
  refine agreesF90 hm (fun l h => ⟨(hl l h).1, by have := (hl l h).2; omega⟩) hb hf9 (tlA_cells D o _) H3 fun h4 nx4 H4 => ?_
  simp only [sNot_b]
  have ret : ∀ (D' : List (List Int)) (o' : Option Pa) h' nx', D' = D ++ enumG (fun f => agF f lines none) n r pre → Hp h0 h' nx' (.arr b7 [I 0, .bool false, I 0, I 0, .nils, .nils, .nils] :: .arr bt (tlL D' o' (specF lines D').length) :: .arr b1 [I n, encT lines] :: usO n us pre :: TA lines D' o' :: M) →
    (sLoadN 7 (.ptr bt 0) h' fun v16 => sStore 7 (.ptr b7 0) v16 h' nx' fun v17 h18 n19 => sLoadN 7 (.ptr b7 0) h18 fun v20 => K v20 h18 n19) = .ok True := by
   rintro D' o' h' nx' rfl H'
   rw [H'.loadN (k := 1) (n := 7) rfl rfl]
   refine H'.storeN (k := 0) (n := 7) rfl rfl rfl fun h8 H8 => ?_
   rw [H8.loadN (k := 0) (n := 7) rfl rfl]
   exact hK _ _ _ H8.drop.drop.drop
  cases ha : agF pre lines none with
  | false =>
   simp only [Bool.not_false, sCond_t]
   refine ret D o _ _ ?_ H4
   have : enumG (fun f => agF f lines none) n r pre = [] := by cases r <;> simp [enumG, ha]
   rw [this, List.append_nil]
  | true =>
  simp only [Bool.not_true, sCond_f]
  have hlenb : ∀ op : AV → Out Prop, sLen b op = op (I pre.length) := by
   intro op
   rcases hb with ⟨rfl, rfl⟩ | rfl <;> rfl
  rw [hlenb, sFx, H4.load (k := 2) (i := 0) rfl rfl]
  simp only [sEql]
  match r, hr, ret, hK with
  | 0, hr, ret, hK =>
   simp only [show ((pre.length : Int) = (n : Int)) by omega, decide_true, sCond_t]
   rw [H4.loadN (k := 2) (n := 2) rfl rfl, H4.loadN (k := 1) (n := 7) rfl rfl]
   have hbe : b = encI pre ∨ n = 0 := by
    rcases hb with ⟨_, q⟩ | q
    ·right; subst q; simpa using hr.symm
    ·exact .inl q
   rcases hbe with rfl | hn0
   ·have H5 : Hp h0 h4 nx4 (TA lines D o :: (.arr b7 [I 0, .bool false, I 0, I 0, .nils, .nils, .nils] :: .arr bt (tlL D o (specF lines D).length) :: .arr b1 [I n, encT lines] :: usO n us pre :: M)) := H4.perm (List.perm_middle (l₁ := [_, _, _, _]))
    refine notedA139 hn9 hl (by have := (specF_ok (fun l h => (hl l h).2) hD hn9).len; omega) (by omega) hpre H5 fun o' h6 nx6 H6 => ?_
    have H7 := H6.perm (List.perm_middle (l₁ := [.arr b7 [I 0, .bool false, I 0, I 0, .nils, .nils, .nils], .arr bt (tlL D o (specF lines D).length), .arr b1 [I n, encT lines], usO n us pre])).symm
    refine H7.storeN (k := 0) (n := 7) rfl rfl rfl fun h8 H8 => ?_
    rw [H8.loadN (k := 0) (n := 7) rfl rfl]
    have : enumG (fun f => agF f lines none) n 0 pre = [pre] := by rw [enumG, ha, if_pos rfl]
    rw [this] at hK
    exact hK _ _ _ H8.drop.drop.drop
   ·omega
  | r + 1, hr, ret, hK =>
  simp only [show ¬ ((pre.length : Int) = (n : Int)) by omega, decide_false, sCond_f]
  let g : Int → List (List Int) := fun x => if x ∈ pre then [] else enumG (fun f => agF f lines none) n r (pre ++ [x])
  have hg : enumG (fun f => agF f lines none) n (r + 1) pre = (upTo n).flatMap g := by rw [enumG, ha, if_pos rfl]
  refine F108.L3 (fun m z7 h' nx' => ∃ (x : Nat) (D' : List (List Int)) (o' : Option Pa), z7 = I x ∧ n + 1 - x = m ∧ 1 ≤ x ∧ x ≤ n + 1 ∧ D ++ enumG (fun f => agF f lines none) n (r + 1) pre = D' ++ ((upTo n).drop (x - 1)).flatMap g ∧ (∀ f ∈ D', ∀ y ∈ f, 1 ≤ y ∧ y ≤ (n : Int)) ∧
    Hp h0 h' nx' (.arr b7 [I 0, .bool false, I 0, I 0, .nils, .nils, .nils] :: .arr bt (tlL D' o' (specF lines D').length) :: .arr b1 [I n, encT lines] :: usO n us pre :: TA lines D' o' :: M)) (m := n) (by omega)
   ⟨1, D, o, rfl, by omega, by omega, by omega, by rw [hg]; rfl, hD, H4⟩ ?_
  rintro m z7 z10 z11 h5 nx5 R ⟨x, D', o1, rfl, rfl, hx1, hx2, hfo, hD', H5⟩ hR
  rw [sFx, H5.load (k := 2) (i := 0) rfl rfl]
  simp only [sLeq]
  by_cases hxn : x ≤ n
  case neg =>
   simp only [show ¬ (x : Int) ≤ (n : Int) by omega, decide_false, sCond_f]
   rw [F108.k11]
   have e1 : (upTo n).drop (x - 1) = [] := List.drop_of_length_le (by simp; omega)
   rw [e1] at hfo
   refine ret D' o1 _ _ ?_ H5
   rw [hfo]; simp
  simp only [show (x : Int) ≤ (n : Int) by omega, decide_true, sCond_t]
  rw [upTo_drop hx1 hxn, List.flatMap_cons] at hfo
  have hul := usedL_length n pre
  have hgv : ((usedL n pre).map AV.bool)[x]? = some (.bool (decide ((x : Int) ∈ pre))) := by rw [List.getElem?_map, usedL_get hxn]; rfl
  rw [sIx (i := x) rfl (by omega), H5.load (k := 3) rfl hgv]
  by_cases hmem : (x : Int) ∈ pre
  ·simp only [hmem, decide_true, sCond_t]
   rw [sAdd (by omega)]
   have e1 : g (x : Int) = [] := by show (if (x : Int) ∈ pre then [] else _) = _; rw [if_pos hmem]
   rw [e1, List.nil_append] at hfo
   exact hR (n + 1 - (x + 1)) _ _ _ _ _ (by omega) ⟨x + 1, D', o1, rfl, rfl, by omega, by omega, by rw [Nat.add_sub_cancel]; exact hfo, hD', H5⟩
  simp only [hmem, decide_false, sCond_f]
  have e1 : g (x : Int) = enumG (fun f => agF f lines none) n r (pre ++ [(x : Int)]) := by show (if (x : Int) ∈ pre then [] else _) = _; rw [if_neg hmem]
  rw [e1] at hfo
  rw [sIx (i := x) rfl (by omega)]
  have eu : usO n us (pre ++ [(x : Int)]) = .arr us (((usedL n pre).map AV.bool).set x (.bool true)) := by
   show Ob.arr us ((usedL n (pre ++ [(x : Int)])).map AV.bool) = _
   rw [← usedL_on hxn, List.map_set]
  have eu2 : usO n us pre = .arr us (((usedL n (pre ++ [(x : Int)])).map AV.bool).set x (.bool false)) := by
   show Ob.arr us ((usedL n pre).map AV.bool) = _
   rw [← usedL_off hxn hmem, List.map_set]
  refine H5.store (k := 3) rfl (by simp [hul]; omega) rfl fun h6 H6 => ?_
  have H6 : Hp h0 h6 nx5 (.arr b7 [I 0, .bool false, I 0, I 0, .nils, .nils, .nils] :: .arr bt (tlL D' o1 (specF lines D').length) :: .arr b1 [I n, encT lines] :: usO n us (pre ++ [(x : Int)]) :: TA lines D' o1 :: M) := H6.cast (by rw [eu]; rfl)
  simp only [show ((fillA (repl 0 [(I 0)]) []).isSome && true) = true from rfl, show ((fillA (repl 1 [(I 0)]) [(0, 1, I (x : Int))]).isSome && true) = true from rfl, sChk_t]
  rw [H6.loadN (k := 2) (n := 2) rfl rfl, H6.loadN (k := 1) (n := 7) rfl rfl]
  refine H6.bslice (l := []) rfl fun ee h7 nx7 H7 => ?_
  rw [H7.loadN (k := 2) (n := 7) rfl rfl]
  simp only [sSame_refl]
  rw [H7.loadN (k := 3) (n := 2) rfl rfl]
  simp only [sSame_refl]
  refine H7.app0 (c := pre.length) (hb.rd h7) (by simp) (scal_I _) (by decide) (by omega) fun v X h8 nx8 H8 hpush => ?_
  rw [H8.loadN (k := 2) (n := 7) rfl rfl]
  simp only [sSame_refl]
  rw [H8.loadN (k := 3) (n := 2) rfl rfl]
  simp only [sSame_refl]
  refine H8.bslice (l := [I x]) rfl fun e2 h9 nx9 H9 => ?_
  rw [H9.loadN (k := 3) (n := 7) rfl rfl]
  simp only [sSame_refl]
  rw [H9.loadN (k := 4) (n := 2) rfl rfl]
  simp only [sSame_refl]
  refine hpush _ _ _ _ _ _ _ H9 rfl fun id h10 nx10 H10 => ?_
  rw [H10.loadN (k := 2) (n := 7) rfl rfl]
  simp only [sSame_refl]
  rw [H10.loadN (k := 3) (n := 2) rfl rfl]
  simp only [sSame_refl]
  have e3 : (pre.map I) ++ [I (x : Int)] = (pre ++ [(x : Int)]).map I := by simp
  rw [e3] at H10
  obtain ⟨h11, hkeep, H11, hF⟩ := H10.letGro (by intro v hv; obtain ⟨t, _, rfl⟩ := List.mem_map.1 hv; rfl)
  have husl : T.get .no us h11 ≠ .no := (H11.own (usO n us (pre ++ [(x : Int)])) (by simp)).live us (by simp [Ob.names])
  refine CS_let hkeep (.cons (frz_aggS rfl fun v hv => frz_fixd (fixd_sys' v hv)) (.cons hF (.cons (frz_own husl) (.cons (tlA_frz (e := 2) (l := flat2 (specF lines D')) H11 (by simp [TA])) .nil)))) ?_
  have e6 : AV.lst 1 (pre.length + 1) ((pre ++ [(x : Int)]).map I) = encI (pre ++ [(x : Int)]) := by simp [encI]
  rw [e6]
  have H12 : Hp h0 h11 nx10 (usO n us (pre ++ [(x : Int)]) :: TA lines D' o1 :: (.arr b7 [I 0, .bool false, I 0, I 0, .nils, .nils, .nils] :: .arr bt (tlL D' o1 (specF lines D').length) :: .arr b1 [I n, encT lines] :: M)) := H11.perm ((List.perm_middle (l₁ := [_, _, _])).trans (.cons _ (List.perm_middle (l₁ := [_, _, _]))))
  refine walkA108 hn1 hn9 hm hl r (encI (pre ++ [(x : Int)])) (pre ++ [(x : Int)]) D' o1 (.arr b7 [I 0, .bool false, I 0, I 0, .nils, .nils, .nils] :: .arr bt (tlL D' o1 (specF lines D').length) :: .arr b1 [I n, encT lines] :: M) _ _ _ _ (.inr rfl) (by simp; omega) (fun y hy => by
   rcases List.mem_append.1 hy with q | q
   ·exact hpre y q
   ·simp at q; omega) hD' H12 fun o2 h12 nx12 H13 => ?_
  have H14 := H13.perm ((List.perm_middle (l₁ := [.arr b7 [I 0, .bool false, I 0, I 0, .nils, .nils, .nils], .arr bt (tlL D' o1 (specF lines D').length), .arr b1 [I n, encT lines]]) (a := usO n us (pre ++ [(x : Int)])) (l₂ := TA lines (D' ++ enumG (fun f => agF f lines none) n r (pre ++ [(x : Int)])) o2 :: M)).trans (.cons _ (List.perm_middle (l₁ := [_, _, _])))).symm
  refine H14.storeN (k := 1) (n := 7) rfl rfl rfl fun h14 H15 => ?_
  rw [sIx (i := x) rfl (by omega)]
  refine H15.store (k := 3) rfl (by simp [usedL_length]; omega) rfl fun h15 H16 => ?_
  rw [sAdd (by omega)]
  refine hR (n + 1 - (x + 1)) _ _ _ _ _ (by omega) ⟨x + 1, D' ++ enumG (fun f => agF f lines none) n r (pre ++ [(x : Int)]), o2, rfl, rfl, by omega, by omega, by rw [Nat.add_sub_cancel, List.append_assoc]; exact hfo, fun f hf' => ?_, H16.cast ?_⟩
  ·rcases List.mem_append.1 hf' with q | q
   ·exact hD' f q
   ·refine (enumG_mem q fun y hy => ?_).2
    rcases List.mem_append.1 hy with q | q
    ·exact hpre y q
    ·simp at q; omega
  ·rw [eu2]; rfl
theorem walk65 {n : Nat} {lines : List (List Int)} (hn1 : 1 ≤ n) (hn9 : n ≤ 9) (hm : lines.length ≤ 1000000) (hl : ∀ l ∈ lines, AscL n l ∧ l.length ≤ 1000) :
  Pure Tryz.prog B 65 [.agg [I n, encT lines], I 0] (fun v => v = .agg [I 0, .bool true, I 0, I (wrapN (enumG (fun f => agF f lines none) n n []).length), encP (specF lines (enumG (fun f => agF f lines none) n n [])), .nils, .nils]) := by
 refine pure_hp fun h nx K H0 hK => by_body tbl_ok dreg 1000 fun hf => ?_
 rw [F65.go]
 refine H0.box (l := [I n, encT lines]) rfl fun bx h1 nx1 H1 => ?_
 refine H1.alloc fun b4 h2 nx2 H2 => ?_
 rw [H2.loadN (k := 1) (n := 2) rfl rfl, sFx, H2.load (k := 1) (i := 0) rfl rfl, sAdd (by omega)]
 have eb : ∀ (K' : AV → OP), sBuild [(I 0), (.bool false), (I 0), (I 0), .nils, .nils, .nils] [(1, 1, .bool true), (2, 1, I 0)] K' = K' (.agg [I 0, .bool true, I 0, I 0, .nils, .nils, .nils]) := fun K' => nr rfl
 rw [eb]
 refine H2.mk1 (n + 1) (by omega) (by omega) (by omega) (by decide) fun us h3 nx3 H3 => ?_
 rw [eb]
 simp only [sSame_refl]
 rw [H3.loadN (k := 2) (n := 2) rfl rfl]
 simp only [sSame_refl]
 have hu : List.replicate (n + 1) (AV.bool false) = (usedL n []).map AV.bool := by
  rw [usedL]; simp [List.map_const', Function.comp_def]
 rw [hu] at H3
 have e0 : specF lines [] = [] := by cases lines <;> rfl
 have H4 : Hp h h3 nx3 (usO n us [] :: TA lines [] none :: [.arr b4 [I 0, .bool false, I 0, I 0, .nils, .nils, .nils], .arr bx [I n, encT lines]]) := by
  have := (H3.addGro 2).perm (.swap _ _ _)
  unfold TA
  rw [e0]
  exact this
 have et : AV.agg [I 0, .bool true, I 0, I 0, .nils, .nils, .nils] = tlA [] none (specF lines []).length := by rw [e0]; rfl
 rw [et]
 refine walkA108 hn1 hn9 hm hl n .nils [] [] none _ _ _ _ _ (.inl ⟨rfl, rfl⟩) (by simp) (by simp) (by simp) H4 fun o' h5 nx5 H5 => ?_
 rw [List.nil_append] at H5 ⊢
 generalize enumG (fun f => agF f lines none) n n [] = E at *
 refine H5.storeN (k := 2) (n := 7) rfl rfl rfl fun h6 H6 => ?_
 rw [H6.loadN (k := 2) (n := 7) rfl rfl]
 have hfz := H6.frzGro (k := 1) (o := o') (e := 2) (n := (specF lines E).length) (l := flat2 (specF lines E)) rfl fixd_flat2
 have hf2 : FrzN h h6 (.agg [I 0, .bool true, I 0, I (wrapN E.length), rowV o' 2 (specF lines E).length, .nils, .nils]) (.agg [I 0, .bool true, I 0, I (wrapN E.length), encP (specF lines E), .nils, .nils]) := by
  refine .agg _ _ rfl rfl fun i v v' q1 q2 => ?_
  match i with
  | 0 => simp only [List.getElem?_cons_zero, Option.some.injEq] at q1 q2; subst q1 q2; exact .int _ _
  | 1 => simp only [List.getElem?_cons_succ, List.getElem?_cons_zero, Option.some.injEq] at q1 q2; subst q1 q2; exact .bool _
  | 2 => simp only [List.getElem?_cons_succ, List.getElem?_cons_zero, Option.some.injEq] at q1 q2; subst q1 q2; exact .int _ _
  | 3 => simp only [List.getElem?_cons_succ, List.getElem?_cons_zero, Option.some.injEq] at q1 q2; subst q1 q2; exact .int _ _
  | 4 => simp only [List.getElem?_cons_succ, List.getElem?_cons_zero, Option.some.injEq] at q1 q2; subst q1 q2; exact hfz
  | 5 => simp only [List.getElem?_cons_succ, List.getElem?_cons_zero, Option.some.injEq] at q1 q2; subst q1 q2; exact .nils
  | 6 => simp only [List.getElem?_cons_succ, List.getElem?_cons_zero, Option.some.injEq] at q1 q2; subst q1 q2; exact .nils
  | i + 7 => simp at q1
 exact hK _ _ _ _ _ H6 hf2 rfl
end Go.Ev
namespace Go.Ev
def dot : List Int → List Int → Int
 | x :: xs, y :: ys => x * y + dot xs ys
 | _, _ => 0
theorem dot_zip : ∀ (xs ys : List Int), dot xs ys = ((xs.zip ys).map fun p => p.1 * p.2).sum
 | [], ys => rfl
 | _ :: _, [] => rfl
 | x :: xs, y :: ys => by rw [dot, dot_zip xs ys]; rfl
theorem isum_perm {l l' : List Int} (h : l.Perm l') : l.sum = l'.sum := by
 induction h with
 | nil => rfl
 | cons x _ ih => rw [List.sum_cons, List.sum_cons, ih]
 | swap x y l => simp only [List.sum_cons]; omega
 | trans _ _ i1 i2 => exact i1.trans i2
def insI (y : Int) : List Int → List Int
 | [] => [y]
 | z :: zs => if y ≤ z then y :: z :: zs else z :: insI y zs
theorem insI_perm (y : Int) : ∀ zs : List Int, (insI y zs).Perm (y :: zs)
 | [] => .refl _
 | z :: zs => by
  rw [insI]
  split
  ·exact .refl _
  ·exact ((insI_perm y zs).cons z).trans (.swap _ _ _)
theorem insI_asc (y : Int) : ∀ {zs : List Int}, zs.Pairwise (· ≤ ·) → (insI y zs).Pairwise (· ≤ ·)
 | [], _ => by simp [insI]
 | z :: zs, h => by
  obtain ⟨h1, h2⟩ := List.pairwise_cons.1 h
  rw [insI]
  split
  ·rename_i c
   refine List.pairwise_cons.2 ⟨fun a ha => ?_, h⟩
   rcases List.mem_cons.1 ha with rfl | ha
   ·exact c
   ·have := h1 a ha; omega
  ·refine List.pairwise_cons.2 ⟨fun a ha => ?_, insI_asc y h2⟩
   rcases List.mem_cons.1 ((insI_perm y zs).mem_iff.1 ha) with rfl | ha
   ·omega
   ·exact h1 a ha
theorem dot_ins (y : Int) : ∀ (zs xs : List Int) (x : Int), (x :: xs).Pairwise (· ≤ ·) → xs.length = zs.length → dot (x :: xs) (y :: zs) ≤ dot (x :: xs) (insI y zs)
 | [], xs, x, _, _ => by rw [insI]; omega
 | z :: zs, [], x, _, h => by simp at h
 | z :: zs, x1 :: xs, x, hp, hl => by
  obtain ⟨h1, h2⟩ := List.pairwise_cons.1 hp
  rw [insI]
  split
  ·omega
  ·have ih := dot_ins y zs xs x1 h2 (by simpa using hl)
   have hx := h1 x1 (by simp)
   have hm : 0 ≤ (x1 - x) * (y - z) := Int.mul_nonneg (by omega) (by omega)
   have e : (x1 - x) * (y - z) = x1 * y - x1 * z - x * y + x * z := by
    rw [Int.sub_mul, Int.mul_sub, Int.mul_sub]; omega
   simp only [dot] at ih ⊢
   omega
def isrt : List Int → List Int
 | [] => []
 | y :: ys => insI y (isrt ys)
theorem isrt_perm : ∀ l : List Int, (isrt l).Perm l
 | [] => .refl _
 | y :: ys => (insI_perm y _).trans ((isrt_perm ys).cons y)
theorem isrt_asc : ∀ l : List Int, (isrt l).Pairwise (· ≤ ·)
 | [] => .nil
 | y :: ys => insI_asc y (isrt_asc ys)
theorem dot_isrt : ∀ (ys xs : List Int), xs.Pairwise (· ≤ ·) → xs.length = ys.length → dot xs ys ≤ dot xs (isrt ys)
 | [], xs, _, _ => by rw [isrt]; omega
 | y :: ys, [], _, h => by simp at h
 | y :: ys, x :: xs, hp, hl => by
  have ih := dot_isrt ys xs (List.pairwise_cons.1 hp).2 (by simpa using hl)
  have := dot_ins y (isrt ys) xs x hp (by rw [(isrt_perm ys).length_eq]; simpa using hl)
  rw [isrt]
  simp only [dot] at this ⊢
  omega
theorem dot_le (d f : List Int) (h : d.length = f.length) : dot d f ≤ dot (srt d) (srt f) := by
 let ps := (d.zip f).mergeSort fun a b => decide (a.1 ≤ b.1)
 have hp : ps.Perm (d.zip f) := List.mergeSort_perm _ _
 have hs : ps.Pairwise fun a b => a.1 ≤ b.1 := (List.pairwise_mergeSort (le := fun a b : Int × Int => decide (a.1 ≤ b.1)) (by intro a b c; simp; omega) (by intro a b; simp; omega) (d.zip f)).imp (by intro a b h; simpa using h)
 have e1 : ps.map (·.1) = srt d := srt_unique (by
  have := hp.map (·.1)
  rwa [List.map_fst_zip (by omega)] at this) (List.pairwise_map.2 hs)
 have p2 : (ps.map (·.2)).Perm f := by
  have := hp.map (·.2)
  rwa [List.map_snd_zip (by omega)] at this
 have e3 : dot d f = dot (ps.map (·.1)) (ps.map (·.2)) := by
  have hz : ∀ l : List (Int × Int), dot (l.map (·.1)) (l.map (·.2)) = (l.map fun p => p.1 * p.2).sum := by
   intro l
   induction l with
   | nil => rfl
   | cons p l ih => rw [List.map_cons, List.map_cons, dot, ih]; rfl
  rw [hz, dot_zip]
  exact (isum_perm (hp.map _)).symm
 have hle := dot_isrt (ps.map (·.2)) (ps.map (·.1)) (List.pairwise_map.2 hs) (by simp)
 rw [e3]
 have e4 : isrt (ps.map (·.2)) = srt f := srt_unique ((isrt_perm _).trans p2) (isrt_asc _)
 rw [e4, e1] at hle
 rw [e1]; exact hle
theorem dot_wsum (g : Nat → Int) (d : List Int) : ∀ i, i ≤ d.length → dot (d.take i) ((List.range i).map g) = wsum g d i
 | 0, _ => by simp [dot, wsum]
 | i + 1, h => by
  have hx : d[i]? = some d[i] := List.getElem?_eq_getElem h
  have app : ∀ (xs ys : List Int) (x y : Int), xs.length = ys.length → dot (xs ++ [x]) (ys ++ [y]) = dot xs ys + x * y := by
   intro xs
   induction xs with
   | nil => intro ys x y h; obtain rfl : ys = [] := List.eq_nil_of_length_eq_zero h.symm; simp [dot]
   | cons a xs ih =>
    intro ys x y h
    cases ys with
    | nil => simp at h
    | cons b ys => rw [List.cons_append, List.cons_append, dot, ih ys x y (by simpa using h), dot]; omega
  rw [List.range_succ, List.map_append, List.take_add_one, hx]
  show dot (d.take i ++ [d[i]]) (_ ++ [g i]) = _
  rw [app _ _ _ _ (by simp; omega), dot_wsum g d i (by omega), wsum, List.getD_eq_getElem?_getD, hx]; rfl
theorem dot_compl (N : Int) : ∀ (d f : List Int), d.length = f.length → dot d (f.map fun x => N - x) = N * d.sum - dot d f
 | [], [], _ => by simp [dot]
 | [], _ :: _, h => by simp at h
 | _ :: _, [], h => by simp at h
 | x :: d, y :: f, h => by
  rw [List.map_cons, dot, dot, dot_compl N d f (by simpa using h), List.sum_cons, Int.mul_sub, Int.mul_add, Int.mul_comm x N]; omega
theorem dot_set : ∀ (d f : List Int) (k : Nat) (v : Int), k < d.length → d.length = f.length → dot (d.set k v) f = dot d f + (v - d.getD k 0) * f.getD k 0
 | [], _, _, _, h, _ => by simp at h
 | _ :: _, [], _, _, _, h => by simp at h
 | x :: d, y :: f, 0, v, _, _ => by
  simp only [List.set_cons_zero, dot, List.getD_cons_zero, Int.sub_mul]; omega
 | x :: d, y :: f, k + 1, v, h, h2 => by
  simp only [List.set_cons_succ, dot, List.getD_cons_succ, dot_set d f k v (by simpa using h) (by simpa using h2)]; omega
theorem dot_line : ∀ (l d f : List Int), (∀ c ∈ l, c.toNat < d.length) → d.length = f.length → dot (l.foldl incr d) f = dot d f + lsumZ l f
 | [], d, f, _, _ => by simp [lsumZ]
 | c :: l, d, f, h, hl => by
  rw [List.foldl_cons, dot_line l (incr d c) f (fun x hx => by rw [incr_length]; exact h x (by simp [hx])) (by rw [incr_length]; exact hl), incr, dot_set _ _ _ _ (h c (by simp)) hl]
  have e : d.getD c.toNat 0 + 1 - d.getD c.toNat 0 = 1 := by omega
  rw [e]
  simp only [lsumZ, List.map_cons, List.sum_cons]; omega
theorem dot_deg {n : Nat} {lines : List (List Int)} {f : List Int} (hl : ∀ l ∈ lines, AscL n l) (hf : f.length = n) : dot (degS n lines) f = (lines.map fun l => lsumZ l f).sum := by
 have key : ∀ (ls : List (List Int)) (d : List Int), (∀ l ∈ ls, AscL n l) → d.length = n → dot (ls.foldl (fun d l => l.foldl incr d) d) f = dot d f + (ls.map fun l => lsumZ l f).sum := by
  intro ls
  induction ls with
  | nil => intro d _ _; simp
  | cons l ls ih =>
   intro d h hd
   rw [List.foldl_cons, ih _ (fun x hx => h x (by simp [hx])) (by rw [foldl_incr_length]; exact hd), dot_line l d f (fun c hc => by have := (h l (by simp)).2.2 c hc; omega) (by omega)]
   simp only [List.map_cons, List.sum_cons]; omega
 rw [degS, key lines _ hl (by simp)]
 have : ∀ (k : Nat) (f : List Int), dot (List.replicate k 0) f = 0 := by
  intro k
  induction k with
  | zero => intro f; rfl
  | succ k ih =>
   intro f
   cases f with
   | nil => rfl
   | cons y f => rw [List.replicate_succ, dot, ih]; simp
 rw [this]; omega
theorem sum_all {lines : List (List Int)} {f : List Int} {s : Int} (h : ∀ l ∈ lines, lsumZ l f = s) : (lines.map fun l => lsumZ l f).sum = lines.length * s := by
 induction lines with
 | nil => simp
 | cons l ls ih =>
  rw [List.map_cons, List.sum_cons, h l (by simp), ih fun x hx => h x (by simp [hx]), List.length_cons, Int.natCast_add, Int.add_mul]; simp; omega
theorem sum_bounds {n : Nat} {lines : List (List Int)} {f : List Int} {s : Int} (h0 : 0 < lines.length) (hl : ∀ l ∈ lines, AscL n l) (hf : f.length = n) (hn : Nrm f) (hs : ∀ l ∈ lines, lsumZ l f = s) :
  (lines.length : Int) * s ≤ wsum (fun i => (i : Int) + 1) (srt (degS n lines)) n ∧ wsum (fun i => (n : Int) - i) (srt (degS n lines)) n ≤ lines.length * s := by
 have e := dot_deg hl hf
 rw [sum_all hs] at e
 have hdl : (degS n lines).length = n := degS_length n lines
 generalize hd : degS n lines = d at *
 have hsl : (srt d).length = n := by rw [srt_length]; exact hdl
 have e1 : srt f = upTo n := by rw [(nrm_iff f).2 hn, hf]
 have w1 : dot (srt d) (upTo n) = wsum (fun i => (i : Int) + 1) (srt d) n := by
  have := dot_wsum (fun i => (i : Int) + 1) (srt d) n (by omega)
  rwa [List.take_of_length_le (by omega)] at this
 have w2 : dot (srt d) ((List.range n).map fun (i : Nat) => (n : Int) - i) = wsum (fun i => (n : Int) - i) (srt d) n := by
  have := dot_wsum (fun i => (n : Int) - i) (srt d) n (by omega)
  rwa [List.take_of_length_le (by omega)] at this
 have hup : (srt d).sum = d.sum := isum_perm (srt_perm d)
 have e2 : (List.range n).map (fun (i : Nat) => (n : Int) - i) = (upTo n).map fun x => ((n : Int) + 1) - x := by
  rw [List.map_map]
  exact List.map_congr_left fun i _ => by simp; omega
 constructor
 ·have := dot_le d f (by omega)
  rw [e1, w1] at this
  omega
 ·have hg : Nrm (f.map fun x => ((n : Int) + 1) - x) := by
   refine ⟨List.pairwise_map.2 (hn.1.imp fun {a b} q e => q (by omega)), fun x hx => ?_⟩
   obtain ⟨y, hy, rfl⟩ := List.mem_map.1 hx
   have := hn.2 y hy
   rw [List.length_map]; omega
  have e3 : srt (f.map fun x => ((n : Int) + 1) - x) = upTo n := by rw [(nrm_iff _).2 hg, List.length_map, hf]
  have := dot_le d (f.map fun x => ((n : Int) + 1) - x) (by simp; omega)
  rw [e3, dot_compl _ _ _ (by omega)] at this
  have c2 := dot_compl ((n : Int) + 1) (srt d) (upTo n) (by simp; omega)
  rw [← e2, w2, hup] at c2
  omega
theorem tdiv_le {a s : Int} {m : Nat} (hm : 0 < m) (ha : 0 ≤ a) (h : (m : Int) * s ≤ a) : s ≤ a.tdiv m := by
 rw [Int.tdiv_eq_ediv_of_nonneg ha]
 exact (Int.le_ediv_iff_mul_le (by omega)).2 (by rw [Int.mul_comm]; exact h)
theorem le_tdiv {a s : Int} {m : Nat} (hm : 0 < m) (ha : 0 ≤ a) (h : a ≤ m * s) : (a + m - 1).tdiv m ≤ s := by
 rw [Int.tdiv_eq_ediv_of_nonneg (by omega)]
 have : (a + m - 1) / (m : Int) < s + 1 := (Int.ediv_lt_iff_lt_mul (by omega)).2 (by rw [Int.add_mul, Int.mul_comm s]; omega)
 omega
end Go.Ev
namespace Go.Ev
open Go Go.Proofs
variable {B : Nat}
end Go.Ev
namespace Go.Ev
open Go Go.Proofs
variable {B : Nat}
theorem cnt_bd {n : Nat} {lines : List (List Int)} {s : Int} (h0 : 0 < lines.length) (hl : ∀ l ∈ lines, AscL n l) (hc : 0 < cntS lines n s) : loB n lines ≤ s ∧ s ≤ hiB n lines := by
 obtain ⟨f, hf⟩ : ∃ f, f ∈ enumN lines s n n [] := by
  unfold cntS at hc
  exact List.exists_mem_of_length_pos hc
 obtain ⟨⟨f1, f2⟩, f3⟩ := (enumN_iff hl).1 hf
 obtain ⟨b1, b2⟩ := sum_bounds h0 hl f1 f2 f3
 have hM : Bd (srt (degS n lines)) (lines.length * n) := (degS_bd (W := n) fun l hm => ⟨(hl l hm).len, fun c hc => by have := (hl l hm).2.2 c hc; omega⟩).srt
 have hlen : (srt (degS n lines)).length = n := by rw [srt_length, degS_length]
 unfold loB hiB loS hiS
 rw [hlen]
 generalize srt (degS n lines) = d at *
 have w1 := wsum_bd (F := n) hM (f := fun i => (i : Int) + 1) (n := n) (fun j hj => by omega) n (Nat.le_refl _)
 have w2 := wsum_bd (F := n) hM (f := fun i => (n : Int) - i) (n := n) (fun j hj => by omega) n (Nat.le_refl _)
 exact ⟨le_tdiv h0 w2.1 b2, tdiv_le h0 w1.1 b1⟩
def spL (n : Nat) (lines : List (List Int)) : List (Int × Int) := spV lines n (loB n lines) (hiB n lines + 1 - loB n lines).toNat
theorem spL_def (n : Nat) (lines : List (List Int)) : spV lines n (loB n lines) (hiB n lines + 1 - loB n lines).toNat = spL n lines := rfl
theorem factF_le {n : Nat} (h : n ≤ 9) : factF n ≤ 362880 := by
 have : n = 0 ∨ n = 1 ∨ n = 2 ∨ n = 3 ∨ n = 4 ∨ n = 5 ∨ n = 6 ∨ n = 7 ∨ n = 8 ∨ n = 9 := by omega
 rcases this with rfl | rfl | rfl | rfl | rfl | rfl | rfl | rfl | rfl | rfl <;> decide
theorem enumF_len {n : Nat} {lines : List (List Int)} (hn : n ≤ 9) (hl : ∀ l ∈ lines, AscL n l) : (enumF lines n).length ≤ 362880 := by
 rw [enumF_perms hl]
 refine Nat.le_trans (List.length_filter_le _ _) ?_
 rw [perms_len (by simp) (by simp) (by simp)]
 exact factF_le hn
theorem enumF_nil (n : Nat) : (enumF [] n).length = factF n := by
 have e : (perms n n []).filter (fun f => agF f [] none) = perms n n [] := List.filter_eq_self.2 fun f _ => rfl
 rw [enumF_perms (by simp), e, perms_len (by simp) (by simp) (by simp)]
theorem spL_eq {n : Nat} {lines : List (List Int)} (h0 : 0 < lines.length) (hn : n ≤ 9) (hl : ∀ l ∈ lines, AscL n l) : specF lines (enumF lines n) = spL n lines := by
 cases lines with
 | nil => simp at h0
 | cons l ls =>
  refine spec_eq hl (Nat.le_trans (enumF_len hn hl) (by omega)) fun s hs => ?_
  have := cnt_bd h0 hl hs
  omega
theorem spL_sum {n : Nat} {lines : List (List Int)} (h0 : 0 < lines.length) (hn : n ≤ 9) (hl : ∀ l ∈ lines, AscL n l) : sumP (spL n lines) = (enumF lines n).length := by
 rw [← spL_eq h0 hn hl]
 cases lines with
 | nil => simp at h0
 | cons l ls => exact sumP_spec (Nat.le_trans (enumF_len hn hl) (by omega))
theorem spL_pos {n : Nat} {lines : List (List Int)} : ∀ p ∈ spL n lines, 0 < p.2 := fun p hp => by have := spV_mem.1 hp; omega
theorem sumP_pos : ∀ {q : List (Int × Int)}, (∀ p ∈ q, 0 < p.2) → 0 ≤ sumP q
 | [], _ => by simp [sumP]
 | p :: q, h => by
  have := h p (by simp)
  have := sumP_pos (q := q) fun x hx => h x (by simp [hx])
  unfold sumP at this ⊢
  rw [List.map_cons, List.sum_cons]; omega
theorem sumP_app (a b : List (Int × Int)) : sumP (a ++ b) = sumP a + sumP b := by simp [sumP]
theorem sumP_take {q : List (Int × Int)} (h : ∀ p ∈ q, 0 < p.2) (i : Nat) : 0 ≤ sumP (q.take i) ∧ sumP (q.take i) ≤ sumP q := by
 have e := sumP_app (q.take i) (q.drop i)
 rw [List.take_append_drop] at e
 have h1 := sumP_pos fun p hp => h p (List.mem_of_mem_take (i := i) hp)
 have h2 := sumP_pos fun p hp => h p (List.mem_of_mem_drop (i := i) hp)
 omega
def spErr (cells : Int) (lines : List (List Int)) : Int := if smErr cells lines ≠ 0 then smErr cells lines else if lines.length = 0 then 12 else 0
theorem spectrum63 {cells : Int} {lines : List (List Int)} (hj : ∀ B, JOk Tryz.prog B hookS) (hw : ∀ q ∈ lines, q.length ≤ 1000) : Pure Tryz.prog B 63 [.agg [I cells, encT lines]] (· = if spErr cells lines ≠ 0 then .tup [.nils, I (spErr cells lines)] else .tup [encP (spL cells.toNat lines), I 0]) := by
 refine pure_hp fun h nx K H0 hK => by_body tbl_ok dreg 1000 fun hf => ?_
 have hw6 : ∀ q ∈ lines, q.length ≤ 1000000 := fun q hq => Nat.le_trans (hw q hq) (by omega)
 rw [F63.go]
 refine H0.box (l := [I cells, encT lines]) rfl fun bx h1 nx1 H1 => ?_
 rw [H1.loadN (k := 0) (n := 2) rfl rfl, sFx, H1.load (k := 0) (i := 0 + 1) rfl rfl]
 simp only [sLen_lst, sEql]
 refine small106 hw6 _ _ _ _ ?_
 rintro _ rfl _
 simp only [sSame_refl, sLen_lst]
 rw [H1.load (k := 0) (i := 0 + 1) rfl rfl]
 simp only [sSame_refl, sFx, sLen_lst]
 refine whenB82 _ _ _ _ _ _ ?_
 rintro _ rfl _
 refine H1.bslice (l := [I (smErr cells lines), I (if decide ((lines.length : Int) = 0) then 12 else 0)]) rfl fun id h4 nx4 H4 => ?_
 refine own_plain (l := [smErr cells lines, if decide ((lines.length : Int) = 0) then 12 else 0]) H4 (k := 0) rfl (fun B => first80 (by simp)) (fun v hv => by rw [hv]; exact .int _ _) ?_
 rintro _ rfl
 have ef : firstE [smErr cells lines, if decide ((lines.length : Int) = 0) then 12 else 0] = spErr cells lines := by
  by_cases c : smErr cells lines = 0
  ·by_cases c2 : lines.length = 0
   ·simp [firstE, spErr, c, c2]
   ·have : ¬ (lines.length : Int) = 0 := by omega
    simp [firstE, spErr, c, c2]
  ·simp [firstE, spErr, c]
 rw [ef]
 by_cases he : spErr cells lines = 0
 case neg =>
  rw [if_pos he] at hK
  simp only [sNeq, he, decide_false, Bool.not_false, sCond_t]
  exact hK _ _ _ _ _ H4 (frz_tup2 (frz_fixd rfl) (frz_fixd rfl)) rfl
 rw [if_neg (by simp [he])] at hK
 simp only [sNeq, he, decide_true, Bool.not_true, sCond_f]
 have hse : smErr cells lines = 0 := by
  by_cases c : smErr cells lines = 0
  ·exact c
  ·rw [spErr, if_pos c] at he; exact absurd he c
 have h0 : 0 < lines.length := by
  by_cases c : lines.length = 0
  ·rw [spErr, if_neg (by simp [hse]), if_pos c] at he; cases he
  ·omega
 have hs : sysErr cells lines = 0 := by
  by_cases c : sysErr cells lines = 0
  ·exact c
  ·rw [smErr_eq, if_pos c] at hse; exact absurd hse c
 have c9 : ¬ 9 < cells := by
  intro c
  rw [smErr_eq, if_neg (by simp [hs]), if_pos c] at hse; cases hse
 obtain ⟨n, rfl, g1, g2, g3, g4⟩ := sys_ok hs
 rw [H4.loadN (k := 1) (n := 2) rfl rfl]
 refine spectrum113 hj h0 (by omega) (by omega) (fun l hl => ⟨g4 l hl, hw l hl⟩) _ _ _ _ ?_
 rintro _ rfl _
 rw [Int.toNat_natCast, ← spL_def] at hK
 exact hK _ _ _ _ _ H4 (frz_tup2 (frz_fixd (fixd_encP _)) (frz_fixd rfl)) rfl
theorem sMul2 {a b : Nat} {K : AV → OP} (h : a * b ≤ 9223372036854775807) : sBin .mul .int (I (a : Int)) (I (b : Int)) K = K (I ((a * b : Nat) : Int)) := by
 rw [sMul (by rw [← Int.natCast_mul]; omega), Int.natCast_mul]
theorem total64_err {cells : Int} {lines : List (List Int)} (hw : ∀ q ∈ lines, q.length ≤ 1000) (he : smErr cells lines ≠ 0) : Pure Tryz.prog B 64 [.agg [I cells, encT lines]] (· = .tup [I 0, I (smErr cells lines)]) := by
 refine pure_hp fun h nx K H0 hK => by_body tbl_ok dreg 1000 fun hf => ?_
 have hw6 : ∀ q ∈ lines, q.length ≤ 1000000 := fun q hq => Nat.le_trans (hw q hq) (by omega)
 rw [F64.go]
 refine H0.box (l := [I cells, encT lines]) rfl fun bx h1 nx1 H1 => ?_
 rw [H1.loadN (k := 0) (n := 2) rfl rfl]
 refine small106 hw6 _ _ _ _ ?_
 rintro _ rfl _
 simp only [sNeq, he, decide_false, Bool.not_false, sCond_t]
 exact hK _ _ _ _ _ H1 (frz_tup2 (frz_fixd rfl) (frz_fixd rfl)) rfl
theorem total64 {n : Nat} {lines : List (List Int)} (hj : ∀ B, JOk Tryz.prog B hookS) (hw : ∀ q ∈ lines, q.length ≤ 1000) (he : smErr n lines = 0) (hs : sysErr n lines = 0) (hn9 : n ≤ 9) : Pure Tryz.prog B 64 [.agg [I n, encT lines]] (· = .tup [I ((enumF lines n).length : Int), I 0]) := by
 obtain ⟨n', hn, g1, g2, g3, g4⟩ := sys_ok hs
 obtain rfl : n = n' := by omega
 refine pure_hp fun h nx K H0 hK => by_body tbl_ok dreg 100000000 fun hf => ?_
 have hw6 : ∀ q ∈ lines, q.length ≤ 1000000 := fun q hq => Nat.le_trans (hw q hq) (by omega)
 rw [F64.go]
 refine H0.box (l := [I n, encT lines]) rfl fun bx h1 nx1 H1 => ?_
 rw [H1.loadN (k := 0) (n := 2) rfl rfl]
 refine small106 hw6 _ _ _ _ ?_
 rintro _ rfl _
 rw [he]
 simp only [sNeq, decide_true, Bool.not_true, sCond_f, sFx]
 rw [H1.load (k := 0) (i := 0 + 1) rfl rfl]
 simp only [sLen_lst, sEql]
 by_cases h0 : lines.length = 0
 ·obtain rfl : lines = [] := List.eq_nil_of_length_eq_zero h0
  simp only [List.length_nil, show ((0 : Nat) : Int) = 0 from rfl, decide_true, sCond_t]
  rw [enumF_nil] at hK
  refine F64.L2 (fun m z5 z6 h' nx' => ∃ k : Nat, z5 = I (factF (k + 1) : Nat) ∧ z6 = I ((k + 2 : Nat) : Int) ∧ m = n - (k + 1) ∧ k + 1 ≤ n ∧ h' = h1 ∧ nx' = nx1) (m := n - 1) (by omega) ⟨0, rfl, rfl, rfl, by omega, rfl, rfl⟩ ?_
  rintro m z5 z6 z11 h2 nx2 R ⟨k, rfl, rfl, rfl, hk, rfl, rfl⟩ hR
  rw [sFx, H1.load (k := 0) (i := 0) rfl rfl]
  simp only [sLeq]
  by_cases c : k + 2 ≤ n
  ·simp only [show ((k + 2 : Nat) : Int) ≤ (n : Int) by omega, decide_true, sCond_t]
   have hf := factF_le (n := k + 1) (by omega)
   have hm : factF (k + 1) * (k + 2) ≤ 362880 * 11 := Nat.mul_le_mul hf (by omega)
   rw [sMul2 (by omega), sAdd (by omega)]
   refine hR _ _ _ _ _ _ (by omega) ⟨k + 1, ?_, by congr 1, rfl, by omega, rfl, rfl⟩
   rw [show factF (k + 1 + 1) = (k + 1 + 1) * factF (k + 1) from rfl, Nat.mul_comm]
  ·simp only [show ¬ ((k + 2 : Nat) : Int) ≤ (n : Int) by omega, decide_false, sCond_f]
   rw [F64.k9]
   obtain rfl : n = k + 1 := by omega
   exact hK _ _ _ _ _ H1 (frz_tup2 (frz_fixd rfl) (frz_fixd rfl)) rfl
 simp only [show ¬ (lines.length : Int) = 0 by omega, decide_false, sCond_f]
 have hl := fun l hm => g4 l hm
 rw [F64.k10, H1.loadN (k := 0) (n := 2) rfl rfl]
 refine spectrum113 hj (by omega) (by omega) (by omega) (fun l hm => ⟨g4 l hm, hw l hm⟩) _ _ _ _ ?_
 rintro _ rfl _
 have hsum := spL_sum (by omega) hn9 hl
 have hpos := spL_pos (n := n) (lines := lines)
 have hE := enumF_len hn9 hl
 have hlen : (spL n lines).length ≤ 400000 := by
  have h1 := spV_len lines n (loB n lines) (hiB n lines + 1 - loB n lines).toNat
  have h2 := bnd_bd (by omega) hn9 g3 hl
  exact Nat.le_trans h1 (by omega)
 rw [spL_def]
 generalize spL n lines = q at *
 simp only [sLen_lst]
 refine F64.L11 (fun m z7 z14 h' nx' => ∃ (i : Nat) (X : List Ob), z7 = I (sumP (q.take i)) ∧ z14 = I i ∧ m = q.length - i ∧ i ≤ q.length ∧ Hp h h' nx' X) (m := q.length) (by omega) ⟨0, _, rfl, rfl, rfl, by omega, H1⟩ ?_
 rintro m z7 z8 z14 z15 h2 nx2 R ⟨i, X, rfl, rfl, rfl, hi, H2⟩ hR
 simp only [sLss]
 by_cases c : i < q.length
 ·simp only [show (i : Int) < (q.length : Int) by omega, decide_true, sCond_t]
  rw [sIxL rfl c, flat2_cons c, sLoadN_fp2]
  refine H2.alloc fun b3 h3 nx3 H3 => ?_
  refine H3.storeN (k := 0) (n := 2) rfl rfl rfl fun h4 H4 => ?_
  have e1 : sumP (q.take (i + 1)) = sumP (q.take i) + q[i].2 := by
   rw [List.take_add_one, List.getElem?_eq_getElem c, sumP_app]; simp [sumP]
  have b1 := sumP_take hpos i
  have b2 := sumP_take hpos (i + 1)
  rw [sAx1, H4.load (k := 0) (i := 0 + 1) rfl rfl, sAdd (by omega), sAdd (by omega), ← e1]
  exact hR _ _ _ _ _ _ _ (by omega) ⟨i + 1, _, rfl, rfl, rfl, by omega, H4⟩
 ·simp only [show ¬ (i : Int) < (q.length : Int) by omega, decide_false, sCond_f]
  obtain rfl : i = q.length := by omega
  rw [F64.k18, List.take_length, hsum]
  exact hK _ _ _ _ _ H2 (frz_tup2 (frz_fixd rfl) (frz_fixd rfl)) rfl
theorem law15 {cells : Int} {lines : List (List Int)} (hj : ∀ B, JOk Tryz.prog B hookS) (haw : ∀ {B}, Pure Tryz.prog B 18 [] (· = .bool true)) : Pure Tryz.prog B 15 [.agg [I cells, encT lines]] (· = .bool true) := by
 refine pure_hp fun h nx K H0 hK => by_body tbl_ok dreg 1000 fun hf => ?_
 rw [F15.go]
 refine H0.box (l := [I cells, encT lines]) rfl fun bx h1 nx1 H1 => ?_
 have ret : K (.bool true) h1 nx1 = .ok True := hK _ _ _ _ _ H1 (frz_fixd rfl) rfl
 have awk : ∀ (h : T Blk) (nx : Pa) (Z : Kw Prop), Z (.bool true) h nx = .ok True → (CS Tryz.prog B).fn 18 (.of 18) [] h nx Z = .ok True := fun h nx Z hZ => haw _ _ _ _ fun v hv _ => by rw [hv]; exact hZ
 rw [H1.loadN (k := 0) (n := 2) rfl rfl]
 refine great51 _ _ _ _ ?_
 rintro _ ⟨b, rfl, hsh⟩ _
 cases b with
 | true => simp only [sCond_t]; exact awk _ _ _ ret
 | false =>
 simp only [sCond_f]
 obtain ⟨hs1, hs2⟩ := hsh rfl
 have hw20 : ∀ q ∈ lines, q.length ≤ 20 := fun q hq => by have := hs2 q hq; omega
 have hw : ∀ q ∈ lines, q.length ≤ 1000 := fun q hq => by have := hw20 q hq; omega
 have hw6 : ∀ q ∈ lines, q.length ≤ 1000000 := fun q hq => by have := hw20 q hq; omega
 rw [H1.loadN (k := 0) (n := 2) rfl rfl]
 have hse := smErr_eq cells lines
 by_cases he : smErr cells lines = 0
 case neg =>
  refine total64_err hw he _ _ _ _ ?_
  rintro _ rfl _
  simp only [sExt0, sExt1]
  rw [H1.loadN (k := 0) (n := 2) rfl rfl]
  refine spectrum63 hj hw _ _ _ _ ?_
  rintro _ rfl _
  have e1 : spErr cells lines = smErr cells lines := by rw [spErr, if_pos he]
  rw [e1, if_pos he]
  simp only [sExt0, sExt1]
  rw [H1.loadN (k := 0) (n := 2) rfl rfl]
  refine sysErr27 hw6 _ _ _ _ ?_
  rintro _ rfl _
  have fin : ∀ z7 z9 z10, z7 = I (smErr cells lines) → IR.run F15.b2 (CS Tryz.prog B) 1000 (fnO F15.res K) (retK F15.res K) (F15.fr (.agg [I cells, encT lines]) (.ptr bx 0) (.bool false) (I 0) (I (smErr cells lines)) .nils (I (smErr cells lines)) z7 .undef z9 z10 .undef .undef .undef) h1 nx1 = .ok True := by
   rintro _ z9 z10 rfl
   rw [F15.k2]
   simp only [sNeq, he, decide_false, Bool.not_false, sCond_t, sLen_nils, sEql, decide_true, sG_tt, sPick_t]
   rw [sGW_tt]
   exact awk _ _ _ ret
  by_cases hs : sysErr cells lines = 0
  ·rw [if_neg (by simp [hs])] at hse
   have c9 : 9 < cells := by
    by_cases c : 9 < cells
    ·exact c
    ·rw [if_neg c] at hse; exact absurd hse he
   rw [if_pos c9] at hse
   simp only [sEql, hs, decide_true, sG_tt, sFx]
   rw [H1.load (k := 0) (i := 0) rfl rfl]
   simp only [sGtr, c9, decide_true, sPick_t, sCond_t]
   rw [hse] at fin ⊢
   exact fin _ _ _ rfl
  ·rw [if_pos hs] at hse
   simp only [sEql, hs, decide_false, sG_ft, sPick_f, sCond_f]
   rw [hse] at fin ⊢
   exact fin _ _ _ rfl
 have hs : sysErr cells lines = 0 := by
  by_cases c : sysErr cells lines = 0
  ·exact c
  ·rw [if_pos c] at hse; exact absurd (hse.symm.trans he) c
 have c9 : ¬ 9 < cells := by
  intro c
  rw [if_neg (by simp [hs]), if_pos c, he] at hse; cases hse
 obtain ⟨n, rfl, g1, g2, g3, g4⟩ := sys_ok hs
 have hn9 : n ≤ 9 := by omega
 have hl : ∀ l ∈ lines, AscL n l ∧ l.length ≤ 1000 := fun l hm => ⟨g4 l hm, hw l hm⟩
 refine total64 hj hw he hs hn9 _ _ _ _ ?_
 rintro _ rfl _
 simp only [sExt0, sExt1]
 rw [H1.loadN (k := 0) (n := 2) rfl rfl]
 refine spectrum63 hj hw _ _ _ _ ?_
 rintro _ rfl _
 have e1 : spErr n lines = if lines.length = 0 then 12 else 0 := by rw [spErr, if_neg (by simp [he])]
 rw [e1, Int.toNat_natCast]
 have hE := enumF_len hn9 fun l hm => (hl l hm).1
 have good : ∀ (sv ev z8 z9 z10 z11 z12 z13 : AV) (hfe : (lines.length = 0 ∧ sv = .nils ∧ ev = I 12) ∨ (0 < lines.length ∧ sv = encP (spL n lines) ∧ ev = I 0)),
   IR.run F15.b2 (CS Tryz.prog B) 1000 (fnO F15.res K) (retK F15.res K) (F15.fr (.agg [I n, encT lines]) (.ptr bx 0) (.bool false) (I ((enumF lines n).length : Int)) (I 0) sv ev (I 0) z8 z9 z10 z11 z12 z13) h1 nx1 = .ok True := by
  intro sv ev z8 z9 z10 z11 z12 z13 hfe
  rw [F15.k2]
  simp only [sNeq, decide_true, Bool.not_true, sCond_f]
  rw [F15.k3, H1.loadN (k := 0) (n := 2) rfl rfl]
  refine walk65 g1 hn9 (by omega) hl _ _ _ _ ?_
  rintro _ rfl _
  rw [wrapN_id (by unfold enumF at hE; omega)]
  refine H1.alloc fun b9 h2 nx2 H2 => ?_
  refine H2.storeN (k := 0) (n := 7) rfl rfl rfl fun h3 H3 => ?_
  have ret3 : K (.bool true) h3 nx2 = .ok True := hK _ _ _ _ _ H3 (frz_fixd rfl) rfl
  simp only [sNeq, decide_true, Bool.not_true, sG_ff, sFx]
  rw [H3.load (k := 0) (i := 0 + 3) rfl rfl]
  simp only [sNeq, decide_true, Bool.not_true, sG_ff, sPick_f, sCond_f]
  rw [F15.k4, sFx, H3.load (k := 1) (i := 0 + 1) rfl rfl]
  simp only [sLen_lst, sEql]
  rcases hfe with ⟨h0, rfl, rfl⟩ | ⟨h0, rfl, rfl⟩
  ·simp only [show (lines.length : Int) = 0 by omega, decide_true, sCond_t, sLen_nils, sEql, sG_tt, sPick_t]
   rw [sGW_tt]
   exact awk _ _ _ ret3
  ·simp only [show ¬ (lines.length : Int) = 0 by omega, decide_false, sCond_f, sEql, decide_true, sG_tt, sFx]
   rw [H3.load (k := 0) (i := 0 + 4) rfl rfl, sGW_tt]
   have hq := spL_eq h0 hn9 fun l hm => (hl l hm).1
   unfold enumF at hq
   rw [hq]
   have hlen : (spL n lines).length ≤ 1000000 := by
    have h1 := spV_len lines n (loB n lines) (hiB n lines + 1 - loB n lines).toNat
    have h2 := bnd_bd h0 hn9 g3 fun l hm => (hl l hm).1
    exact Nat.le_trans h1 (by omega)
   refine samePairs66 hlen _ _ _ _ ?_
   rintro _ rfl _
   simp only [decide_true, sPick_t]
   rw [sGW_tt]
   exact awk _ _ _ ret3
 by_cases h0 : lines.length = 0
 ·rw [if_pos h0, if_pos (by decide)]
  simp only [sExt0, sExt1]
  rw [H1.loadN (k := 0) (n := 2) rfl rfl]
  refine sysErr27 hw6 _ _ _ _ ?_
  rintro _ rfl _
  simp only [sEql, hs, decide_true, sG_tt, sFx]
  rw [H1.load (k := 0) (i := 0) rfl rfl]
  simp only [sGtr, c9, decide_false, sPick_t, sCond_f]
  exact good _ _ _ _ _ _ _ _ (.inl ⟨h0, rfl, rfl⟩)
 ·rw [if_neg h0, if_neg (by decide)]
  simp only [sExt0, sExt1]
  rw [H1.loadN (k := 0) (n := 2) rfl rfl]
  refine sysErr27 hw6 _ _ _ _ ?_
  rintro _ rfl _
  simp only [sEql, hs, decide_true, sG_tt, sFx]
  rw [H1.load (k := 0) (i := 0) rfl rfl]
  simp only [sGtr, c9, decide_false, sPick_t, sCond_f]
  exact good _ _ _ _ _ _ _ _ (.inr ⟨by omega, rfl, rfl⟩)
end Go.Ev
