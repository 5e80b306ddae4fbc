import Derived.Test.YtepfaegpjddehaaGreatDoorWords
import Derived.Test.YtepfaegpjddehaaGreatDoorCode
import Derived.KernelRfl
import Derived.IntWalk
import Derived.Test.YtepfaegpjddehaaGreatDoorLaws
import Derived.Test.YtepfaegpjddehaaGreatDoorEvD
import GoSem.Core.Next
set_option linter.unusedSimpArgs false
set_option linter.unusedVariables false
namespace Go.Ev
open Go Go.Proofs
variable {B : Nat}
def smErr (cells : Int) (lines : List (List Int)) : Int := jT [yR cells lines, if 9 < cells then 20 else 0]
theorem small106 {cells : Int} {lines : List (List Int)} (hw : ∀ q ∈ lines, q.length ≤ 1000000) : Pure Tryz.prog B 106 [.agg [I cells, encT lines]] (· = I (smErr cells lines)) := by
 refine yV fun h nx K H0 hK => zP zZ dreg 1000 fun hf => ?_
 rw [F106.go]
 refine H0.box (l := [I cells, encT lines]) rfl fun bx h1 nx1 H1 => ?_
 rw [H1.loadN (k := 0) (n := 2) rfl rfl, sFx, H1.load (k := 0) (i := 0) rfl rfl]
 simp only [sGtr]
 refine sys81 hw _ _ _ _ ?_
 rintro _ rfl _
 simp only [zD, sFx]
 rw [H1.load (k := 0) (i := 0) rfl rfl]
 simp only [zD]
 refine whenB82 _ _ _ _ _ _ ?_
 rintro _ rfl _
 refine H1.bslice (l := [I (yR cells lines), I (if decide (9 < cells) then 20 else 0)]) rfl fun id h4 nx4 H4 => ?_
 refine own_plain (l := [yR cells lines, if decide (9 < cells) then 20 else 0]) H4 (k := 0) rfl (fun B => first80 (by simp)) (fun v hv => by rw [hv]; exact .int _ _) ?_
 rintro _ rfl
 refine hK _ _ _ _ _ H4 (yB rfl) ?_
 simp only [smErr, decide_eq_true_eq]
theorem smErr_eq (cells : Int) (lines : List (List Int)) : smErr cells lines = if yR cells lines ≠ 0 then yR cells lines else if 9 < cells then 20 else 0 := by
 by_cases c : yR cells lines = 0
 ·by_cases c2 : 9 < cells <;> simp [smErr, jT, c, c2]
 ·simp [smErr, jT, c]
theorem cloneF79 {h0 h : T Blk} {nx p id : Pa} {L : List Ob} {k n : Nat} {cap : Option Nat} {l : List AV} {K : Kw Prop} (H : Hp h0 h nx L) (hk : L[k]? = some (.arr id l)) (hf : ∀ v ∈ l, fixd v = true) (hn : n ≤ 1000000) (hl : l.length = n)
  (hK : K (.lst 1 n l) h nx = .ok True) : (CS Tryz.prog B).fn 79 p [.sl id 0 n cap 1] h nx K = .ok True := by
 refine CS_frz (Q := (· = .lst 1 n l)) (fun hfr K hK => zP zZ dreg 9 fun _ => ?_) (fun v hv _ => by rw [hv]; exact hK)
 rw [F79.go]
 have Hb := Hp.init hfr
 have harr : HasArr h id l := H.own _ (List.mem_of_getElem? hk)
 have e : (sBin .eql (.nil .sl) (.sl id 0 n cap 1) .nils fun v1 => zH v1 (K .nils h nx) (yX 1 0 [I 0] [] h nx fun v2 h3 n4 => sApp 1 8 v2 (.sl id 0 n cap 1) h3 n4 fun v5 h6 n7 => K v5 h6 n7)) =
   (yX 1 0 [I 0] [] h nx fun v2 h3 n4 => sApp 1 8 v2 (.sl id 0 n cap 1) h3 n4 fun v5 h6 n7 => K v5 h6 n7) := nr rfl
 rw [e]
 refine Hb.copy (new := l) (fun h1 hh => HasArr.rd (harr.congr (hh id (by
  obtain ⟨op, t, g1, _⟩ := harr
  rw [g1]; intro q; cases q))) (by rw [hl, Nat.mul_one])) hl hf (by decide) hn fun v X h' nx' H' _ _ hF => ?_
 exact hK _ _ _ H'.fr H'.keep ⟨_, hF _ _ _ _ H' (by simp), rfl⟩
def stpF (D : List (List Int)) (fl : List Int) : List (List Int) × Bool := if D.length = 1024 then (D, false) else (D ++ [fl], true)
theorem foldF : ∀ (l D : List (List Int)), D.length ≤ 1024 → jZ stpF D l = if D.length + l.length ≤ 1024 then (D ++ l, true) else (D ++ l.take (1024 - D.length), false)
 | [], D, h => by rw [if_pos (by simpa using h)]; simp [jZ]
 | x :: l, D, h => by
  rw [jZ]
  by_cases c : D.length = 1024
  ·have e : stpF D x = (D, false) := by rw [stpF, if_pos c]
   rw [e, if_neg (by simp), if_neg (by simp; omega), c]; simp
  ·have e : stpF D x = (D ++ [x], true) := by rw [stpF, if_neg c]
   rw [e, if_pos rfl, foldF l (D ++ [x]) (by simp; omega)]
   by_cases c2 : D.length + (x :: l).length ≤ 1024
   ·rw [if_pos c2, if_pos (by simp at c2 ⊢; omega)]; simp
   ·rw [if_neg c2, if_neg (by simp at c2 ⊢; omega)]
    have : 1024 - D.length = (1024 - (D ++ [x]).length) + 1 := by simp; omega
    rw [this, List.take_succ_cons]; simp
noncomputable abbrev F52.tm (cells : Int) (lines : List (List Int)) (s : Int) (bx b3 b4 b6 : Pa) : T AV := F52.fr (.agg [I cells, encT lines]) (I s) (.ptr bx 0) (.ptr b3 0) (.ptr b4 0) (I 0) (.ptr b6 0) .undef (.bool false) (.fn 136 (.of 136) [.fp [I cells, encT lines], .fp [I s]]) .undef .undef
def F52.LC (cells : Int) (lines : List (List Int)) (s : Int) (bx b3 b4 b6 id : Pa) (go : Bool) (D : List (List Int)) (L : List Ob) : Prop :=
 D.length ≤ 1024 ∧ ∃ o, L = [.raw id (.loop (bif go then .ready else .done) (bif go then .none else .ret) (F52.tm cells lines s bx b3 b4 b6) [.of 10] F52.b4 F52.b5), .arr b6 [rowV o 1 D.length], .gro o 1 D.length (D.map encI), .arr b4 [I (bif go then 0 else 5)], .arr b3 [.nils], .arr bx [I cells, encT lines]]
theorem F52.yc {h0 : T Blk} {n : Nat} {lines : List (List Int)} {s : Int} {bx b3 b4 b6 id : Pa} (hn : n ≤ 9) (f bu bf be bp bg : Pa) : YC B h0 n lines s f bu bf be bp bg id (F52.LC n lines s bx b3 b4 b6 id) stpF := by
 rintro D fl m h nx K L hfl hrg ⟨hD, o, rfl⟩ H hK
 simp only [cond_true] at H
 refine by_round (fns := tbl) dreg 100 fun hf => ?_
 rw [F52.y5 (getLoop H (k := 6) rfl) rfl]
 have H1 := H.setRaw (k := 6) rfl (b' := .loop .busy .none (F52.tm n lines s bx b3 b4 b6) [.of 10] F52.b4 F52.b5) (by intro e; cases e)
 rw [H1.load (k := 7) (i := 0) rfl rfl, H1.groLen (k := 8) rfl]
 simp only [sEql]
 by_cases c : D.length = 1024
 ·simp only [show (D.length : Int) = 1024 by omega, decide_true, zC]
  refine H1.store (k := 10) rfl (by simp) rfl fun h2 H2 => ?_
  refine H2.store (k := 9) rfl (by simp) rfl fun h3 H3 => ?_
  refine H3.rend (k := 6) rfl fun h4 H4 => ?_
  have e : stpF D fl = (D, false) := by rw [stpF, if_pos c]
  rw [e] at hK
  exact hK _ _ _ ⟨hD, o, rfl⟩ H4
 ·simp only [show ¬ (D.length : Int) = 1024 by omega, decide_false, zB]
  rw [H1.load (k := 7) (i := 0) rfl rfl]
  refine cloneF79 H1 (k := 0) rfl (fun v hv => by obtain ⟨x, _, rfl⟩ := List.mem_map.1 hv; rfl) (by omega) (by simpa using hfl) ?_
  rw [H1.load (k := 7) (i := 0) rfl rfl, zD]
  have ef : AV.lst 1 n (fl.map I) = encI fl := by rw [← hfl]
  rw [ef]
  refine H1.bslice (l := [encI fl]) rfl fun e5 h2 nx2 H2 => ?_
  rw [H2.load (k := 8) (i := 0) rfl rfl, zD]
  refine H2.appN (k := 9) (o := o) (c := 1) (new := [encI fl]) rfl (HasArr.rd (l := [encI fl]) (n := 1) (H2.own _ (List.mem_cons_self ..)) rfl) rfl rfl (by decide) (by decide) (by omega) fun o' h3 nx3 _ H3 => ?_
  refine H3.store (k := 8) rfl (by simp) (rowV_cells _ _ _) fun h4 H4 => ?_
  refine H4.rend (k := 7) rfl fun h5 H5 => ?_
  have e : stpF D fl = (D ++ [fl], true) := by rw [stpF, if_neg c]
  rw [e] at hK
  have H6 := H5.drop
  refine hK _ _ _ ⟨by simp; omega, o', rfl⟩ (H6.cast ?_)
  simp
theorem fillings52 {n : Nat} {lines : List (List Int)} {s : Int} (hw : ∀ q ∈ lines, q.length ≤ 1000) (he : smErr n lines = 0) (hsy : yR n lines = 0) (hn9 : n ≤ 9) (hs : -9223372036854775808 ≤ s ∧ s ≤ 9223372036854775807) :
  Pure Tryz.prog B 52 [.agg [I n, encT lines], I s] (· = if (jD lines s n n []).length ≤ 1024 then .tup [encT (jD lines s n n []), I 0] else .tup [.nils, I 5]) := by
 obtain ⟨n', hn, g1, g2, g3, g4⟩ := sys_ok hsy
 obtain rfl : n = n' := by omega
 refine yV fun h nx K H0 hK => zP zZ dreg 1000 fun hf => ?_
 rw [F52.go]
 refine H0.box (l := [I n, encT lines]) rfl fun bx h1 nx1 H1 => ?_
 refine H1.alloc fun b3 h2 nx2 H2 => ?_
 refine H2.alloc fun b4 h3 nx3 H3 => ?_
 rw [H3.loadN (k := 2) (n := 2) rfl rfl]
 refine small106 (fun q hq => Nat.le_trans (hw q hq) (by omega)) _ _ _ _ ?_
 rintro _ rfl _
 rw [he]
 simp only [sNeq, decide_true, Bool.not_true, zB]
 refine H3.alloc fun b6 h4 nx4 H4 => ?_
 rw [H4.loadN (k := 3) (n := 2) rfl rfl]
 refine normal107 _ _ _ _ ?_
 rintro _ rfl _
 have H5 := H4.addGro 1
 have H6 : Hp h h4 nx4 [.arr b6 [.nils], .gro none 1 0 [], .arr b4 [I 0], .arr b3 [.nils], .arr bx [I n, encT lines]] := H5.perm (.swap _ _ _)
 refine H6.rf (g := 136) (p := .of 136) (cap := [.fp [I n, encT lines], .fp [I s]]) rfl fun id h5 nx5 H7 => ?_
 refine normal136 (LC := F52.LC n lines s bx b3 b4 b6 id) (stp := stpF) (st := []) hn9 (by omega) (fun l hl => ⟨g4 l hl, hw l hl⟩) hs (fun f bu bf be bp bg => F52.yc hn9 f bu bf be bp bg) ⟨by simp, none, rfl⟩ H7 fun h6 nx6 L' hL' H8 => ?_
 rw [foldF _ _ (by simp)] at hL'
 simp only [List.length_nil, Nat.zero_add, List.nil_append, Nat.sub_zero] at hL'
 by_cases c : (jD lines s n n []).length ≤ 1024
 ·rw [if_pos c] at hL' hK
  obtain ⟨_, o, rfl⟩ := hL'
  refine H8.rfEnd fun h7 H9 => ?_
  show Ev.rfEnd _ _ .ready .none _ h7 nx6 = _
  rw [rfEnd_on, F52.k8, H9.load (k := 0) (i := 0) rfl rfl]
  refine H9.store (k := 3) rfl (by simp) (rowV_cells _ _ _) fun h8 H10 => ?_
  refine H10.store (k := 2) rfl (by simp) rfl fun h9 H11 => ?_
  rw [H11.load (k := 3) (i := 0) rfl rfl, H11.load (k := 2) (i := 0) rfl rfl]
  refine hK _ _ _ _ _ H11 (uN (H11.frzGro (k := 1) rfl (by intro v hv; obtain ⟨x, _, rfl⟩ := List.mem_map.1 hv; exact fixd_encI x)) (yB rfl)) rfl
 ·rw [if_neg c] at hL' hK
  obtain ⟨_, o, rfl⟩ := hL'
  refine H8.rfEnd fun h7 H9 => ?_
  show Ev.rfEnd _ _ .done .ret _ h7 nx6 = _
  rw [rfEnd_ret]
  have e : ∀ E0, (((fnO F52.res K).blk 0 E0).rt (F52.tm n lines s bx b3 b4 b6) h7 nx6) = (zA (.ptr b3 0) h7 fun v21 => zA (.ptr b4 0) h7 fun v22 => K (.tup [v21, v22]) h7 nx6) := fun E0 => by kernel_rfl
  rw [e, H9.load (k := 3) (i := 0) rfl rfl, H9.load (k := 2) (i := 0) rfl rfl]
  exact hK _ _ _ _ _ H9 (uN (yB rfl) (yB rfl)) rfl
end Go.Ev
namespace Go.Ev
def agrZ (lines : List (List Int)) (s : Int) (f : List Int) : Bool := lines.all fun l => decide ((f.length : Int) ≤ l.getLastD 0) || decide (yL l f = s)
def enumR (lines : List (List Int)) (s : Int) (n : Nat) : Nat → List Int → List (List Int)
 | 0, pre => if agrZ lines s pre then [pre] else []
 | r + 1, pre => if agrZ lines s pre then (upTo n).flatMap fun x => if x ∈ pre then [] else enumR lines s n r (pre ++ [x]) else []
theorem agr_snoc {n : Nat} {lines : List (List Int)} {s : Int} {pre : List Int} {x : Int} (hl : ∀ l ∈ lines, AscL n l) : agrZ lines s (pre ++ [x]) = (agrZ lines s pre && okAt lines s pre.length (pre ++ [x])) := by
 rw [Bool.eq_iff_iff]
 simp only [agrZ, okAt, Bool.and_eq_true, List.all_eq_true, Bool.or_eq_true, decide_eq_true_eq, List.mem_filter]
 have key : ∀ l ∈ lines, l.getLastD 0 < (pre.length : Int) → yL l (pre ++ [x]) = yL l pre := fun l hm hlt => by
  have : (pre ++ [x]).take pre.length = pre := by simp
  rw [← lsum_take (f := pre ++ [x]) (m := pre.length), this]
  intro c hc
  have := le_lastZ (hl l hm).2.1 c hc
  have := ((hl l hm).2.2 c hc).1
  omega
 constructor
 ·intro h
  refine ⟨fun l hm => ?_, fun l ⟨hm, he⟩ => ?_⟩
  ·by_cases c : (pre.length : Int) ≤ l.getLastD 0
   ·exact .inl c
   ·refine .inr ?_
    rw [← key l hm (by omega)]
    rcases h l hm with q | q
    ·simp only [List.length_append, List.length_cons, List.length_nil] at q; omega
    ·exact q
  ·rcases h l hm with q | q
   ·simp only [List.length_append, List.length_cons, List.length_nil] at q; omega
   ·exact q
 ·rintro ⟨h1, h2⟩ l hm
  by_cases c : ((pre ++ [x]).length : Int) ≤ l.getLastD 0
  ·exact .inl c
  ·refine .inr ?_
   simp only [List.length_append, List.length_cons, List.length_nil] at c
   by_cases e : l.getLastD 0 = (pre.length : Int)
   ·exact h2 l ⟨hm, e⟩
   ·rw [key l hm (by omega)]
    rcases h1 l hm with q | q
    ·omega
    ·exact q
theorem flatMap_cong {α β : Type} {f g : α → List β} : ∀ {l : List α}, (∀ x ∈ l, f x = g x) → l.flatMap f = l.flatMap g
 | [], _ => rfl
 | a :: l, h => by rw [List.flatMap_cons, List.flatMap_cons, h a (by simp), flatMap_cong fun x hx => h x (by simp [hx])]
theorem enum_eq {n : Nat} {lines : List (List Int)} {s : Int} (hl : ∀ l ∈ lines, AscL n l) : ∀ (r : Nat) (pre : List Int), enumR lines s n r pre = if agrZ lines s pre then jD lines s n r pre else []
 | 0, pre => rfl
 | r + 1, pre => by
  rw [enumR]
  cases c : agrZ lines s pre with
  | false => rfl
  | true =>
   rw [if_pos rfl, if_pos rfl, jD]
   refine flatMap_cong fun x _ => ?_
   by_cases h : x ∈ pre
   ·rw [if_pos h, if_pos h]
   ·rw [if_neg h, if_neg h, enum_eq hl r (pre ++ [x]), agr_snoc hl, c, Bool.true_and]
theorem agr_nil {n : Nat} {lines : List (List Int)} {s : Int} (hl : ∀ l ∈ lines, AscL n l) : agrZ lines s [] = true := by
 simp only [agrZ, List.all_eq_true, Bool.or_eq_true, decide_eq_true_eq]
 intro l hm
 refine .inl ?_
 obtain ⟨h1, h2, h3⟩ := hl l hm
 obtain ⟨a, q⟩ := List.exists_mem_of_ne_nil l h1
 have := le_lastZ h2 a q
 have := (h3 a q).1
 simp only [List.length_nil]; omega
theorem enum_len {lines : List (List Int)} {s : Int} {n : Nat} : ∀ (r : Nat) (pre : List Int), (jD lines s n r pre).length ≤ n ^ r
 | 0, pre => by simp [jD]
 | r + 1, pre => by
  rw [jD, List.length_flatMap]
  have : ∀ l : List Int, (l.map fun x => (if x ∈ pre then [] else if okAt lines s pre.length (pre ++ [x]) then jD lines s n r (pre ++ [x]) else []).length).sum ≤ l.length * n ^ r := by
   intro l
   induction l with
   | nil => simp
   | cons a l ih =>
    rw [List.map_cons, List.sum_cons, List.length_cons, Nat.add_mul]
    have h1 : (if a ∈ pre then [] else if okAt lines s pre.length (pre ++ [a]) then jD lines s n r (pre ++ [a]) else []).length ≤ n ^ r := by
     split
     ·simp
     ·split
      ·exact enum_len r _
      ·simp
    omega
  have h2 := this (upTo n)
  rw [List.length_map, List.length_range] at h2
  rw [Nat.pow_succ, Nat.mul_comm]; exact h2
end Go.Ev
namespace Go.Ev
def agF (f : List Int) : List (List Int) → Option Int → Bool
 | [], _ => true
 | l :: ls, o => if (f.length : Int) ≤ l.getLastD 0 then agF f ls o else match o with
  | none => agF f ls (some (yL l f))
  | some s => if yL l f = s then agF f ls (some (yL l f)) else false
def insS (x : Int) : List (Int × Int) → List (Int × Int)
 | [] => [(x, 1)]
 |(y, c) :: q => if y < x then (y, c) :: insS x q else if y = x then (y, IntKind.wrap .i64 (c + 1)) :: q else (x, 1) :: (y, c) :: q
def specF (lines : List (List Int)) (D : List (List Int)) : List (Int × Int) := match lines with
 | [] => []
 | l :: _ => D.foldl (fun q f => insS (yL l f) q) []
def enumG (ag : List Int → Bool) (n : Nat) : Nat → List Int → List (List Int)
 | 0, pre => if ag pre then [pre] else []
 | r + 1, pre => if ag pre then (upTo n).flatMap fun x => if x ∈ pre then [] else enumG ag n r (pre ++ [x]) else []
def SpOK (M : Int) (q : List (Int × Int)) : Prop := q.Pairwise (fun a b => a.1 < b.1) ∧ ∀ p ∈ q, 0 ≤ p.1 ∧ p.1 ≤ M
theorem insS_keys {x : Int} : ∀ {q : List (Int × Int)} {p : Int × Int}, p ∈ insS x q → p.1 = x ∨ ∃ p' ∈ q, p'.1 = p.1
 | [], p, h => by simp [insS] at h; subst h; exact .inl rfl
 |(y, c) :: q, p, h => by
  rw [insS] at h
  split at h
  ·rcases List.mem_cons.1 h with rfl | h
   ·exact .inr ⟨_, List.mem_cons_self .., rfl⟩
   ·rcases insS_keys h with q1 | ⟨p', q1, q2⟩
    ·exact .inl q1
    ·exact .inr ⟨p', List.mem_cons_of_mem _ q1, q2⟩
  ·split at h
   ·rcases List.mem_cons.1 h with rfl | h
    ·exact .inr ⟨_, List.mem_cons_self .., rfl⟩
    ·exact .inr ⟨p, List.mem_cons_of_mem _ h, rfl⟩
   ·rcases List.mem_cons.1 h with rfl | h
    ·exact .inl rfl
    ·exact .inr ⟨p, h, rfl⟩
theorem insS_asc {x : Int} : ∀ {q : List (Int × Int)}, q.Pairwise (fun a b => a.1 < b.1) → (insS x q).Pairwise (fun a b => a.1 < b.1)
 | [], _ => by simp [insS]
 |(y, c) :: q, h => by
  obtain ⟨h1, h2⟩ := List.pairwise_cons.1 h
  rw [insS]
  split
  ·rename_i hlt
   refine List.pairwise_cons.2 ⟨fun p hp => ?_, insS_asc h2⟩
   rcases insS_keys hp with q1 | ⟨p', q1, q2⟩
   ·show y < p.1; omega
   ·have := h1 p' q1; show y < p.1; simp at this; omega
  ·split
   ·exact List.pairwise_cons.2 ⟨fun p hp => h1 p hp, h2⟩
   ·refine List.pairwise_cons.2 ⟨fun p hp => ?_, h⟩
    rcases List.mem_cons.1 hp with rfl | hp
    ·show x < y; omega
    ·have := h1 p hp; show x < p.1; simp at this; omega
theorem SpOK.len {q : List (Int × Int)} (h : SpOK 9000 q) : q.length ≤ 9001 := by
 obtain ⟨t, ht⟩ := sub_perm (q.map (·.1)) ((List.range 9001).map fun (i : Nat) => (i : Int)) (by
  rw [List.nodup_iff_pairwise_ne, List.pairwise_map]
  exact h.1.imp fun {a b} q e => by omega) fun x hx => by
  obtain ⟨p, hp, rfl⟩ := List.mem_map.1 hx
  have := h.2 p hp
  exact List.mem_map.2 ⟨p.1.toNat, List.mem_range.2 (by omega), by omega⟩
 have := ht.length_eq
 rw [List.length_map, List.length_range, List.length_append, List.length_map] at this
 omega
abbrev cntS (lines : List (List Int)) (n : Nat) (s : Int) : Nat := (jD lines s n n []).length
def spF (lines : List (List Int)) (n : Nat) (s : Int) : Option (Int × Int) := if 0 < cntS lines n s then some (s, (cntS lines n s : Int)) else none
def spV (lines : List (List Int)) (n : Nat) (lo : Int) (m : Nat) : List (Int × Int) := ((List.range m).map fun (i : Nat) => lo + (i : Int)).filterMap (spF lines n)
theorem spV_succ (lines : List (List Int)) (n : Nat) (lo : Int) (m : Nat) : spV lines n lo (m + 1) = spV lines n lo m ++ (spF lines n (lo + (m : Int))).toList := by
 rw [spV, List.range_succ, List.map_append, List.filterMap_append]
 congr 1
theorem spV_len (lines : List (List Int)) (n : Nat) (lo : Int) (m : Nat) : (spV lines n lo m).length ≤ m := by
 refine Nat.le_trans (List.length_filterMap_le _ _) (by simp)
def factF : Nat → Nat
 | 0 => 1
 | n + 1 => (n + 1) * factF n
theorem agF_some (f : List Int) (s : Int) : ∀ lines : List (List Int), agF f lines (some s) = agrZ lines s f
 | [] => rfl
 | l :: ls => by
  have ih := agF_some f s ls
  rw [agF, agrZ, List.all_cons]
  by_cases c : (f.length : Int) ≤ l.getLastD 0
  ·simp only [c, if_true, decide_true, Bool.true_or, Bool.true_and]; rw [ih]; rfl
  ·simp only [c, if_false, decide_false, Bool.false_or]
   by_cases c2 : yL l f = s
   ·simp only [c2, if_true, decide_true, Bool.true_and]; rw [ih]; rfl
   ·simp only [c2, if_false, decide_false, Bool.false_and]
theorem agF_none (f : List Int) : ∀ lines : List (List Int), agF f lines none = true ↔ ∃ s, agrZ lines s f = true
 | [] => by simp [agF, agrZ]
 | l :: ls => by
  have ih := agF_none f ls
  rw [agF]
  by_cases c : (f.length : Int) ≤ l.getLastD 0
  ·rw [if_pos c, ih]
   have e : ∀ s, agrZ (l :: ls) s f = agrZ ls s f := fun s => by rw [agrZ, List.all_cons, decide_eq_true c, Bool.true_or, Bool.true_and]; rfl
   simp only [e]
  ·rw [if_neg c, agF_some]
   have e : ∀ s, agrZ (l :: ls) s f = (decide (yL l f = s) && agrZ ls s f) := fun s => by rw [agrZ, List.all_cons, decide_eq_false c, Bool.false_or]; rfl
   simp only [e, Bool.and_eq_true, decide_eq_true_eq]
   constructor
   ·intro h; exact ⟨_, rfl, h⟩
   ·rintro ⟨s, rfl, h⟩; exact h
def Here (ag : List Int → Bool) : Prop := ∀ pre x, ag (pre ++ [x]) = true → ag pre = true
theorem Here.down {ag q : List Int → Bool} {n : Nat} (hh : Here ag) : ∀ {r : Nat} {pre f : List Int}, f ∈ enumG q n r pre → ag f = true → ag pre = true
 | 0, pre, f, h, ha => by
  rw [enumG] at h
  split at h
  ·simp at h; subst h; exact ha
  ·simp at h
 | r + 1, pre, f, h, ha => by
  rw [enumG] at h
  split at h
  ·obtain ⟨x, _, hx⟩ := List.mem_flatMap.1 h
   split at hx
   ·simp at hx
   ·exact hh _ _ (Here.down hh hx ha)
  ·simp at h
abbrev perms (n r : Nat) (pre : List Int) : List (List Int) := enumG (fun _ => true) n r pre
theorem perms_succ (n r : Nat) (pre : List Int) : perms n (r + 1) pre = (upTo n).flatMap fun x => if x ∈ pre then [] else perms n r (pre ++ [x]) := by rw [perms, enumG, if_pos rfl]
theorem enumG_filter {ag : List Int → Bool} {n : Nat} (hh : Here ag) : ∀ (r : Nat) (pre : List Int), enumG ag n r pre = (perms n r pre).filter ag
 | 0, pre => by
  cases c : ag pre <;> simp [enumG, c]
 | r + 1, pre => by
  cases c : ag pre with
  | false =>
   rw [enumG, c]
   refine (List.filter_eq_nil_iff.2 fun f hf ha => ?_).symm
   rw [hh.down hf ha] at c; cases c
  | true =>
   rw [enumG, c, if_pos rfl]
   rw [perms_succ, List.filter_flatMap]
   refine flatMap_cong fun x _ => ?_
   by_cases h : x ∈ pre
   ·simp [h]
   ·simp only [h, if_false]
    exact enumG_filter hh r _
theorem enumR_G {lines : List (List Int)} {s : Int} {n : Nat} : ∀ (r : Nat) (pre : List Int), enumR lines s n r pre = enumG (agrZ lines s) n r pre
 | 0, _ => rfl
 | r + 1, pre => by
  rw [enumR, enumG]
  cases agrZ lines s pre with
  | false => rfl
  | true =>
   rw [if_pos rfl, if_pos rfl]
   refine flatMap_cong fun x _ => ?_
   rw [enumR_G r]
theorem agr_here {n : Nat} {lines : List (List Int)} {s : Int} (hl : ∀ l ∈ lines, AscL n l) : Here (agrZ lines s) := fun pre x h => by
 rw [agr_snoc hl, Bool.and_eq_true] at h; exact h.1
theorem agF_here {n : Nat} {lines : List (List Int)} (hl : ∀ l ∈ lines, AscL n l) : Here fun f => agF f lines none := fun pre x h => by
 obtain ⟨s, hs⟩ := (agF_none _ _).1 h
 exact (agF_none _ _).2 ⟨s, agr_here hl _ _ hs⟩
theorem enumN_perms {n : Nat} {lines : List (List Int)} {s : Int} (hl : ∀ l ∈ lines, AscL n l) : jD lines s n n [] = (perms n n []).filter (agrZ lines s) := by
 have := enum_eq (s := s) hl n []
 rw [agr_nil hl, if_pos rfl, enumR_G, enumG_filter (agr_here hl)] at this
 exact this.symm
abbrev enumF (lines : List (List Int)) (n : Nat) : List (List Int) := enumG (fun f => agF f lines none) n n []
theorem enumF_perms {n : Nat} {lines : List (List Int)} (hl : ∀ l ∈ lines, AscL n l) : enumF lines n = (perms n n []).filter fun f => agF f lines none := enumG_filter (agF_here hl) _ _
theorem perms_mem {n : Nat} : ∀ {r : Nat} {pre f : List Int}, f ∈ perms n r pre → pre.Nodup → (∀ x ∈ pre, 1 ≤ x ∧ x ≤ (n : Int)) → f.length = pre.length + r ∧ f.Nodup ∧ ∀ x ∈ f, 1 ≤ x ∧ x ≤ (n : Int)
 | 0, pre, f, h, h1, h2 => by
  simp [enumG] at h; subst h; exact ⟨rfl, h1, h2⟩
 | r + 1, pre, f, h, h1, h2 => by
  rw [perms_succ] at h
  obtain ⟨x, hx, hx2⟩ := List.mem_flatMap.1 h
  by_cases c : x ∈ pre
  ·simp [c] at hx2
  ·rw [if_neg c] at hx2
   obtain ⟨i, hi, rfl⟩ := List.mem_map.1 hx
   have := List.mem_range.1 hi
   obtain ⟨q1, q2⟩ := perms_mem hx2 (List.nodup_append.2 ⟨h1, by simp, fun a ha b hb e => by simp at hb; subst hb; subst e; exact c ha⟩) fun y hy => by
    rcases List.mem_append.1 hy with q | q
    ·exact h2 y q
    ·simp at q; omega
   exact ⟨by simp at q1; omega, q2⟩
theorem perms_nrm {n : Nat} {f : List Int} (h : f ∈ perms n n []) : f.length = n ∧ Nrm f := by
 obtain ⟨h1, h2, h3⟩ := perms_mem h (by simp) (by simp)
 simp at h1
 exact ⟨h1, h2, fun x hx => by rw [h1]; exact h3 x hx⟩
theorem last_memZ {l : List Int} (h : l ≠ []) : l.getLastD 0 ∈ l := by
 obtain ⟨a, q, rfl⟩ : ∃ a q, l = q ++ [a] := ⟨l.getLast h, l.dropLast, (List.dropLast_concat_getLast h).symm⟩
 rw [List.getLastD_eq_getLast?, List.getLast?_concat]; simp
theorem agr_full {n : Nat} {l : List Int} {ls : List (List Int)} {s : Int} {f : List Int} (hl : ∀ q ∈ l :: ls, AscL n q) (hf : f.length = n) : agrZ (l :: ls) s f = (agF f (l :: ls) none && decide (yL l f = s)) := by
 have ha := hl l (by simp)
 have hlast := ha.2.2 _ (last_memZ ha.1)
 have c : ¬ (f.length : Int) ≤ l.getLastD 0 := by omega
 rw [agF, if_neg c, agF_some]
 have e : agrZ (l :: ls) s f = (decide (yL l f = s) && agrZ ls s f) := by rw [agrZ, List.all_cons, decide_eq_false c, Bool.false_or]; rfl
 rw [e]
 by_cases c2 : yL l f = s
 ·subst c2; simp
 ·simp [c2]
theorem enumF_filter {n : Nat} {l : List Int} {ls : List (List Int)} (s : Int) (hl : ∀ q ∈ l :: ls, AscL n q) : (enumF (l :: ls) n).filter (fun f => decide (yL l f = s)) = jD (l :: ls) s n n [] := by
 rw [enumF_perms hl, enumN_perms hl, List.filter_filter]
 refine List.filter_congr fun f hf => ?_
 rw [agr_full hl (perms_nrm hf).1, Bool.and_comm]
theorem perms_len {n : Nat} : ∀ {r : Nat} {pre : List Int}, pre.Nodup → (∀ x ∈ pre, 1 ≤ x ∧ x ≤ (n : Int)) → pre.length + r = n → (perms n r pre).length = factF r
 | 0, pre, _, _, _ => by simp [enumG, factF]
 | r + 1, pre, h1, h2, h3 => by
  rw [perms_succ, List.length_flatMap]
  have key : ∀ l : List Int, (∀ x ∈ l, 1 ≤ x ∧ x ≤ (n : Int)) → (l.map fun x => (if x ∈ pre then [] else perms n r (pre ++ [x])).length).sum = (l.filter fun x => decide (x ∉ pre)).length * factF r := by
   intro l
   induction l with
   | nil => intro _; simp
   | cons a l ih =>
    intro hl
    rw [List.map_cons, List.sum_cons, ih fun x hx => hl x (by simp [hx])]
    by_cases c : a ∈ pre
    ·simp [c]
    ·rw [if_neg c, perms_len (List.nodup_append.2 ⟨h1, by simp, fun x hx b hb e => by simp at hb; subst hb; subst e; exact c hx⟩) (fun y hy => by
      rcases List.mem_append.1 hy with q | q
      ·exact h2 y q
      ·simp at q; subst q; exact hl y (by simp)) (by simp; omega)]
     simp only [List.filter_cons, c, not_false_eq_true, decide_true, if_true, List.length_cons, Nat.add_mul]
     omega
  rw [key _ fun x hx => by
   obtain ⟨i, hi, rfl⟩ := List.mem_map.1 hx
   have := List.mem_range.1 hi; omega]
  have hc : ((upTo n).filter fun x => decide (x ∉ pre)).length = r + 1 := by
   obtain ⟨t, ht⟩ := sub_perm pre (upTo n) h1 fun x hx => by
    have := h2 x hx
    exact List.mem_map.2 ⟨(x - 1).toNat, List.mem_range.2 (by omega), by omega⟩
   have hn := ht.nodup_iff.1 (upTo_nodup n)
   have hp := ht.filter fun x => decide (x ∉ pre)
   rw [hp.length_eq, List.filter_append]
   have e1 : pre.filter (fun x => decide (x ∉ pre)) = [] := List.filter_eq_nil_iff.2 fun x hx => by simp [hx]
   have e2 : t.filter (fun x => decide (x ∉ pre)) = t := List.filter_eq_self.2 fun x hx => by
    simp only [decide_eq_true_eq]
    intro q
    exact (List.nodup_append.1 hn).2.2 x q x hx rfl
   rw [e1, e2, List.nil_append]
   have := ht.length_eq
   simp at this; omega
  rw [hc, factF]
def lkS : List (Int × Int) → Int → Int
 | [], _ => 0
 |(y, c) :: q, s => if y = s then c else lkS q s
abbrev AscP (q : List (Int × Int)) : Prop := q.Pairwise (fun a b => a.1 < b.1)
theorem lkS_not : ∀ {q : List (Int × Int)} {s : Int}, (∀ p ∈ q, p.1 ≠ s) → lkS q s = 0
 | [], _, _ => rfl
 |(y, c) :: q, s, h => by
  rw [lkS, if_neg (h (y, c) (by simp)), lkS_not fun p hp => h p (by simp [hp])]
theorem lkS_mem : ∀ {q : List (Int × Int)} {p : Int × Int}, AscP q → p ∈ q → lkS q p.1 = p.2
 | [], _, _, h => by simp at h
 |(y, c) :: q, p, ha, h => by
  obtain ⟨h1, h2⟩ := List.pairwise_cons.1 ha
  rw [lkS]
  rcases List.mem_cons.1 h with rfl | h
  ·simp
  ·have := h1 p h
   rw [if_neg (by simp at this; omega), lkS_mem h2 h]
theorem lkS_uniq : ∀ {q r : List (Int × Int)}, AscP q → AscP r → (∀ p ∈ q, 0 < p.2) → (∀ p ∈ r, 0 < p.2) → (∀ s, lkS q s = lkS r s) → q = r
 | [], [], _, _, _, _, _ => rfl
 | [], (y, c) :: r, _, _, _, hp, h => by
  have := h y
  rw [lkS, lkS, if_pos rfl] at this
  have := hp (y, c) (by simp)
  simp at this; omega
 |(y, c) :: q, [], _, _, hp, _, h => by
  have := h y
  rw [lkS, lkS, if_pos rfl] at this
  have := hp (y, c) (by simp)
  simp at this; omega
 |(y, c) :: q, (z, d) :: r, hq, hr, hp, hp', h => by
  obtain ⟨q1, q2⟩ := List.pairwise_cons.1 hq
  obtain ⟨r1, r2⟩ := List.pairwise_cons.1 hr
  have c1 := hp (y, c) (by simp)
  have d1 := hp' (z, d) (by simp)
  simp only at c1 d1
  have hy := h y
  have hz := h z
  have a1 : y < z → False := fun hlt => by
   rw [lkS, if_pos rfl, lkS_not] at hy
   ·omega
   ·intro p hp
    rcases List.mem_cons.1 hp with rfl | hp
    ·simp; omega
    ·have := r1 p hp; simp at this; omega
  have a2 : z < y → False := fun hlt => by
   rw [lkS_not, lkS, if_pos rfl] at hz
   ·omega
   ·intro p hp
    rcases List.mem_cons.1 hp with rfl | hp
    ·simp; omega
    ·have := q1 p hp; simp at this; omega
  obtain rfl : y = z := by
   rcases Int.lt_trichotomy y z with q | q | q
   ·exact (a1 q).elim
   ·exact q
   ·exact (a2 q).elim
  rw [lkS, lkS, if_pos rfl, if_pos rfl] at hy
  subst hy
  congr 1
  refine lkS_uniq q2 r2 (fun p hq => hp p (by simp [hq])) (fun p hq => hp' p (by simp [hq])) fun s => ?_
  by_cases e : y = s
  ·subst e
   rw [lkS_not fun p hp => by have := q1 p hp; simp at this; omega, lkS_not fun p hp => by have := r1 p hp; simp at this; omega]
  ·have := h s
   rw [lkS, lkS, if_neg e, if_neg e] at this
   exact this
theorem wrapZs {k : Int} (h : 0 ≤ k) (h2 : k ≤ 2000000000) : IntKind.wrap .i64 k = k := Go.IntWalk.i64_in _ (by omega)
theorem lkS_ins {x s : Int} : ∀ {q : List (Int × Int)}, AscP q → lkS (insS x q) s = if x = s then IntKind.wrap .i64 (lkS q x + 1) else lkS q s
 | [], _ => by
  rw [insS, lkS]
  by_cases c : x = s
  ·subst c; simp only [lkS, if_true]; exact (wrapZs (k := 0 + 1) (by omega) (by omega)).symm
  ·simp [c, lkS]
 |(y, c) :: q, h => by
  obtain ⟨h1, h2⟩ := List.pairwise_cons.1 h
  have ih := lkS_ins (x := x) (s := s) h2
  rw [insS]
  by_cases c1 : y < x
  ·rw [if_pos c1, lkS, ih]
   by_cases e : x = s
   ·subst e
    rw [if_pos rfl, if_pos rfl, if_neg (by omega)]
    show _ = IntKind.wrap .i64 ((if y = x then c else lkS q x) + 1)
    rw [if_neg (by omega)]
   ·rw [if_neg e, if_neg e]; rfl
  ·rw [if_neg c1]
   by_cases c2 : y = x
   ·subst c2
    rw [if_pos rfl, lkS]
    by_cases e : y = s
    ·subst e
     rw [if_pos rfl, if_pos rfl]
     show _ = IntKind.wrap .i64 ((if y = y then c else lkS q y) + 1)
     rw [if_pos rfl]
    ·rw [if_neg e, if_neg e]; show _ = if y = s then c else lkS q s; rw [if_neg e]
   ·rw [if_neg c2, lkS]
    by_cases e : x = s
    ·subst e
     rw [if_pos rfl, if_pos rfl, lkS_not fun p hp => by
      rcases List.mem_cons.1 hp with rfl | hp
      ·exact c2
      ·have := h1 p hp; simp at this; omega]
     exact (wrapZs (k := 0 + 1) (by omega) (by omega)).symm
    ·rw [if_neg e, if_neg e]
theorem insS_pos {x : Int} : ∀ {q : List (Int × Int)}, (∀ p ∈ q, 0 < p.2 ∧ p.2 ≤ 1000000000) → ∀ p ∈ insS x q, 0 < p.2
 | [], _, p, h => by simp [insS] at h; subst h; simp
 |(y, c) :: q, hq, p, h => by
  have hc := hq (y, c) (by simp)
  simp only at hc
  rw [insS] at h
  split at h
  ·rcases List.mem_cons.1 h with rfl | h
   ·exact hc.1
   ·exact insS_pos (fun p hp => hq p (by simp [hp])) p h
  ·split at h
   ·rcases List.mem_cons.1 h with rfl | h
    ·show 0 < IntKind.wrap .i64 (c + 1)
     rw [wrapZs (by omega) (by omega)]; omega
    ·exact (hq p (by simp [h])).1
   ·rcases List.mem_cons.1 h with rfl | h
    ·simp
    ·exact (hq p h).1
theorem specF_fold (g : List Int → Int) : ∀ (D : List (List Int)) (q : List (Int × Int)) (N : Nat), AscP q → (∀ p ∈ q, 0 < p.2) → (∀ s, 0 ≤ lkS q s ∧ lkS q s ≤ N) → N + D.length ≤ 1000000000 →
  AscP (D.foldl (fun q f => insS (g f) q) q) ∧ (∀ p ∈ D.foldl (fun q f => insS (g f) q) q, 0 < p.2) ∧ ∀ s, lkS (D.foldl (fun q f => insS (g f) q) q) s = lkS q s + ((D.filter fun f => decide (g f = s)).length : Int)
 | [], q, N, h1, h2, _, _ => ⟨h1, h2, fun s => by simp⟩
 | f :: D, q, N, h1, h2, h3, h4 => by
  rw [List.length_cons] at h4
  have hs : ∀ s, lkS (insS (g f) q) s = if g f = s then lkS q (g f) + 1 else lkS q s := fun s => by
   rw [lkS_ins h1]
   have := h3 (g f)
   rw [wrapZs (by omega) (by omega)]
  obtain ⟨r1, r2, r3⟩ := specF_fold g D (insS (g f) q) (N + 1) (insS_asc h1) (insS_pos fun p hp => by
   have := lkS_mem h1 hp
   have := h3 p.1
   have := h2 p hp
   omega) (fun s => by
   rw [hs]
   have := h3 s
   have := h3 (g f)
   split <;> omega) (by omega)
  refine ⟨r1, r2, fun s => ?_⟩
  rw [List.foldl_cons, r3, hs, List.filter_cons]
  by_cases c : g f = s
  ·subst c; simp; omega
  ·simp [c]
theorem specF_lk {l : List Int} {ls : List (List Int)} {D : List (List Int)} (hD : D.length ≤ 1000000000) : AscP (specF (l :: ls) D) ∧ (∀ p ∈ specF (l :: ls) D, 0 < p.2) ∧ ∀ s, lkS (specF (l :: ls) D) s = ((D.filter fun f => decide (yL l f = s)).length : Int) := by
 obtain ⟨h1, h2, h3⟩ := specF_fold (fun f => yL l f) D [] 0 .nil (by simp) (by simp [lkS]) (by omega)
 exact ⟨h1, h2, fun s => by rw [specF, h3]; simp [lkS]⟩
theorem spV_mem {lines : List (List Int)} {n : Nat} {lo : Int} {m : Nat} {p : Int × Int} : p ∈ spV lines n lo m ↔ (lo ≤ p.1 ∧ p.1 < lo + m) ∧ 0 < cntS lines n p.1 ∧ p.2 = (cntS lines n p.1 : Int) := by
 rw [spV, List.mem_filterMap]
 constructor
 ·rintro ⟨a, ha, h⟩
  obtain ⟨i, hi, rfl⟩ := List.mem_map.1 ha
  have := List.mem_range.1 hi
  rw [spF] at h
  split at h
  ·rename_i c
   have := Option.some.inj h
   subst this
   exact ⟨by simp; omega, c, rfl⟩
  ·cases h
 ·rintro ⟨h1, h2, h3⟩
  refine ⟨p.1, List.mem_map.2 ⟨(p.1 - lo).toNat, List.mem_range.2 (by omega), by omega⟩, ?_⟩
  rw [spF, if_pos h2, ← h3]
theorem spV_asc (lines : List (List Int)) (n : Nat) (lo : Int) : ∀ m, AscP (spV lines n lo m)
 | 0 => .nil
 | m + 1 => by
  rw [spV_succ]
  refine List.pairwise_append.2 ⟨spV_asc lines n lo m, ?_, fun a ha b hb => ?_⟩
  ·unfold spF; split <;> simp
  ·have h1 := (spV_mem.1 ha).1
   have h2 : b.1 = lo + m := by
    unfold spF at hb
    split at hb
    ·simp at hb; subst hb; rfl
    ·simp at hb
   omega
theorem spec_eq {n : Nat} {l : List Int} {ls : List (List Int)} {lo : Int} {m : Nat} (hl : ∀ q ∈ l :: ls, AscL n q) (hE : (enumF (l :: ls) n).length ≤ 1000000000) (hb : ∀ s, 0 < cntS (l :: ls) n s → lo ≤ s ∧ s < lo + m) : specF (l :: ls) (enumF (l :: ls) n) = spV (l :: ls) n lo m := by
 obtain ⟨h1, h2, h3⟩ := specF_lk (l := l) (ls := ls) hE
 refine lkS_uniq h1 (spV_asc _ _ _ _) h2 (fun p hp => by have := spV_mem.1 hp; omega) fun s => ?_
 rw [h3, enumF_filter s hl]
 by_cases c : 0 < cntS (l :: ls) n s
 ·have : (s, (cntS (l :: ls) n s : Int)) ∈ spV (l :: ls) n lo m := spV_mem.2 ⟨hb s c, c, rfl⟩
  exact (lkS_mem (spV_asc _ _ _ _) this).symm
 ·rw [lkS_not fun p hp q => by
   have := (spV_mem.1 hp).2.1
   rw [q] at this; exact c this]
  have : cntS (l :: ls) n s = 0 := by omega
  unfold cntS at this
  rw [this]; rfl
def sumP (q : List (Int × Int)) : Int := (q.map (·.2)).sum
theorem sumP_ins {x : Int} : ∀ {q : List (Int × Int)}, (∀ p ∈ q, 0 < p.2 ∧ p.2 ≤ 1000000000) → sumP (insS x q) = sumP q + 1
 | [], _ => rfl
 |(y, c) :: q, h => by
  have hc := h (y, c) (by simp)
  simp only at hc
  have ih := sumP_ins (x := x) (q := q) fun p hp => h p (by simp [hp])
  unfold sumP at ih ⊢
  rw [insS]
  split
  ·rw [List.map_cons, List.sum_cons, ih, List.map_cons, List.sum_cons]; omega
  ·split
   ·rw [List.map_cons, List.sum_cons, List.map_cons, List.sum_cons]
    show IntKind.wrap .i64 (c + 1) + _ = _
    rw [wrapZs (by omega) (by omega)]; omega
   ·rw [List.map_cons, List.sum_cons]; omega
theorem sumP_fold (g : List Int → Int) : ∀ (D : List (List Int)) (q : List (Int × Int)) (N : Nat), AscP q → (∀ p ∈ q, 0 < p.2) → (∀ s, 0 ≤ lkS q s ∧ lkS q s ≤ N) → N + D.length ≤ 1000000000 →
  sumP (D.foldl (fun q f => insS (g f) q) q) = sumP q + D.length
 | [], q, N, h1, h2, _, _ => by simp
 | f :: D, q, N, h1, h2, h3, h4 => by
  rw [List.length_cons] at h4
  have hs : ∀ s, lkS (insS (g f) q) s = if g f = s then lkS q (g f) + 1 else lkS q s := fun s => by
   rw [lkS_ins h1]
   have := h3 (g f)
   rw [wrapZs (by omega) (by omega)]
  have hb : ∀ p ∈ q, 0 < p.2 ∧ p.2 ≤ 1000000000 := fun p hp => by
   have := lkS_mem h1 hp
   have := h3 p.1
   have := h2 p hp
   omega
  have := sumP_fold g D (insS (g f) q) (N + 1) (insS_asc h1) (insS_pos hb) (fun s => by
   rw [hs]
   have := h3 s
   have := h3 (g f)
   split <;> omega) (by omega)
  rw [List.foldl_cons, this, sumP_ins hb, List.length_cons]; omega
theorem sumP_spec {l : List Int} {ls : List (List Int)} {D : List (List Int)} (hD : D.length ≤ 1000000000) : sumP (specF (l :: ls) D) = D.length := by
 have := sumP_fold (fun f => yL l f) D [] 0 .nil (by simp) (by simp [lkS]) (by omega)
 rw [specF, this]; simp [sumP]
end Go.Ev
namespace Go.Ev
theorem perms_pre {n : Nat} : ∀ {r : Nat} {pre f : List Int}, f ∈ perms n r pre → ∃ t, f = pre ++ t
 | 0, pre, f, h => by
  simp [enumG] at h; exact ⟨[], by simp [h]⟩
 | r + 1, pre, f, h => by
  rw [perms_succ] at h
  obtain ⟨x, _, hx⟩ := List.mem_flatMap.1 h
  by_cases c : x ∈ pre
  ·simp [c] at hx
  ·rw [if_neg c] at hx
   obtain ⟨t, ht⟩ := perms_pre hx
   exact ⟨x :: t, by simp [ht]⟩
theorem perms_full {n : Nat} : ∀ {t pre : List Int}, (pre ++ t).Nodup → (∀ x ∈ t, 1 ≤ x ∧ x ≤ (n : Int)) → pre ++ t ∈ perms n t.length pre
 | [], pre, _, _ => by simp [enumG]
 | x :: t, pre, h, hb => by
  rw [List.length_cons, perms_succ]
  have hx := hb x (by simp)
  refine List.mem_flatMap.2 ⟨x, List.mem_map.2 ⟨(x - 1).toNat, List.mem_range.2 (by omega), by omega⟩, ?_⟩
  have hx2 : x ∉ pre := fun q => (List.nodup_append.1 h).2.2 x q x (by simp) rfl
  rw [if_neg hx2]
  have e : pre ++ x :: t = (pre ++ [x]) ++ t := by simp
  rw [e] at h ⊢
  exact perms_full h fun y hy => hb y (by simp [hy])
theorem perms_iff {n : Nat} {f : List Int} : f ∈ perms n n [] ↔ f.length = n ∧ Nrm f := by
 constructor
 ·exact perms_nrm
 ·rintro ⟨rfl, h1, h2⟩
  have := perms_full (n := f.length) (t := f) (pre := []) (by simpa using h1) h2
  simpa using this
theorem lexLt_app (pre : List Int) {x y : Int} {s t : List Int} (h : x < y) : lexLt (pre ++ x :: s) (pre ++ y :: t) = true := by
 induction pre with
 | nil => rw [List.nil_append, List.nil_append, lexLt, if_neg (by omega)]; simpa using h
 | cons a p ih => rw [List.cons_append, List.cons_append, lexLt, if_pos rfl, ih]
theorem upTo_lt (n : Nat) : (upTo n).Pairwise (· < ·) := by
 rw [List.pairwise_map]
 exact List.pairwise_lt_range.imp (by intro a b h; omega)
theorem perms_asc {n : Nat} : ∀ (r : Nat) (pre : List Int), (perms n r pre).Pairwise fun a b => lexLt a b = true
 | 0, pre => by simp [enumG]
 | r + 1, pre => by
  rw [perms_succ, List.pairwise_flatMap]
  refine ⟨fun x _ => ?_, (upTo_lt n).imp fun {x y} hxy a ha b hb => ?_⟩
  ·by_cases c : x ∈ pre
   ·simp [c]
   ·rw [if_neg c]; exact perms_asc r _
  ·by_cases c : x ∈ pre
   ·simp [c] at ha
   ·by_cases d : y ∈ pre
    ·simp [d] at hb
    ·rw [if_neg c] at ha
     rw [if_neg d] at hb
     obtain ⟨s, rfl⟩ := perms_pre ha
     obtain ⟨t, rfl⟩ := perms_pre hb
     have := lexLt_app pre (s := s) (t := t) hxy
     simpa using this
theorem enumN_asc {n : Nat} {lines : List (List Int)} {s : Int} (hl : ∀ l ∈ lines, AscL n l) : (jD lines s n n []).Pairwise fun a b => lexLt a b = true := by
 rw [enumN_perms hl]
 exact (perms_asc n []).filter _
theorem agrZ_full {n : Nat} {lines : List (List Int)} {s : Int} {f : List Int} (hl : ∀ l ∈ lines, AscL n l) (hf : f.length = n) : agrZ lines s f = true ↔ ∀ l ∈ lines, yL l f = s := by
 simp only [agrZ, List.all_eq_true, Bool.or_eq_true, decide_eq_true_eq]
 constructor
 ·intro h l hm
  rcases h l hm with q | q
  ·have := (hl l hm).2.2 _ (last_memZ (hl l hm).1)
   omega
  ·exact q
 ·intro h l hm; exact .inr (h l hm)
theorem enumN_iff {n : Nat} {lines : List (List Int)} {s : Int} {f : List Int} (hl : ∀ l ∈ lines, AscL n l) : f ∈ jD lines s n n [] ↔ (f.length = n ∧ Nrm f) ∧ ∀ l ∈ lines, yL l f = s := by
 rw [enumN_perms hl, List.mem_filter, perms_iff]
 constructor
 ·rintro ⟨h1, h2⟩; exact ⟨h1, (agrZ_full hl h1.1).1 h2⟩
 ·rintro ⟨h1, h2⟩; exact ⟨h1, (agrZ_full hl h1.1).2 h2⟩
end Go.Ev
namespace Go.Ev
def incZ (v : Int) : Int := IntKind.wrap .i64 (v + 1)
def incT (A : List (List Int)) (c : Nat) (x : Int) : List (List Int) := A.set c ((A.getD c []).set (x - 1).toNat (incZ ((A.getD c []).getD (x - 1).toNat 0)))
def addFi (A : List (List Int)) (fl : List Int) : Nat → List (List Int)
 | 0 => A
 | i + 1 => incT (addFi A fl i) i (fl.getD i 0)
def addF (A : List (List Int)) (fl : List Int) : List (List Int) := addFi A fl fl.length
def zeroT (n : Nat) : List (List Int) := List.replicate n (List.replicate n 0)
def gC (n : Nat) (fs : List (List Int)) : List (List Int) := fs.foldl addF (zeroT n)
def Sq (n : Nat) (A : List (List Int)) : Prop := A.length = n ∧ ∀ r ∈ A, r.length = n
theorem Sq.get {n c : Nat} {A : List (List Int)} (h : Sq n A) (hc : c < n) : A[c]? = some (A.getD c []) ∧ (A.getD c []).length = n := by
 have h1 := h.1
 rw [List.getD_eq_getElem?_getD, List.getElem?_eq_getElem (by omega)]
 exact ⟨rfl, h.2 _ (List.getElem_mem _)⟩
theorem Sq.inc {n c : Nat} {A : List (List Int)} {x : Int} (h : Sq n A) (hc : c < n) : Sq n (incT A c x) := by
 refine ⟨by simp [incT, h.1], fun r hr => ?_⟩
 rcases List.mem_or_eq_of_mem_set hr with q | rfl
 ·exact h.2 r q
 ·rw [List.length_set]; exact (h.get hc).2
theorem Sq.fi {n : Nat} {A : List (List Int)} {fl : List Int} (h : Sq n A) : ∀ i, i ≤ n → Sq n (addFi A fl i)
 | 0, _ => h
 | i + 1, hi => (Sq.fi h i (by omega)).inc (by omega)
theorem Sq.zero (n : Nat) : Sq n (zeroT n) := ⟨by simp [zeroT], fun r hr => by simp [zeroT] at hr; rw [hr.2]; simp⟩
abbrev stpD (A : List (List Int)) (fl : List Int) : List (List Int) × Bool := (addF A fl, true)
theorem foldD : ∀ (l : List (List Int)) (A : List (List Int)), jZ stpD A l = (l.foldl addF A, true)
 | [], A => rfl
 | x :: l, A => by rw [jZ, if_pos rfl, foldD l]; rfl
def ent (A : List (List Int)) (c x : Nat) : Int := (A.getD c []).getD x 0
theorem getD_set (l : List Int) (k j : Nat) (v : Int) : (l.set k v).getD j 0 = if k = j ∧ k < l.length then v else l.getD j 0 := by
 rw [List.getD_eq_getElem?_getD, List.getElem?_set]
 by_cases e : k = j
 ·subst e
  by_cases h : k < l.length
  ·simp [h]
  ·simp [h, List.getD_eq_getElem?_getD]
 ·simp [e, List.getD_eq_getElem?_getD]
theorem getD_setT (l : List (List Int)) (k j : Nat) (v : List Int) : (l.set k v).getD j [] = if k = j ∧ k < l.length then v else l.getD j [] := by
 rw [List.getD_eq_getElem?_getD, List.getElem?_set]
 by_cases e : k = j
 ·subst e
  by_cases h : k < l.length
  ·simp [h]
  ·simp [h, List.getD_eq_getElem?_getD]
 ·simp [e, List.getD_eq_getElem?_getD]
theorem ent_inc {n : Nat} {A : List (List Int)} (hA : Sq n A) {c : Nat} {v : Int} (hc : c < n) (hv : 1 ≤ v ∧ v ≤ (n : Int)) (c' x : Nat) : ent (incT A c v) c' x = if c = c' ∧ v = (x : Int) + 1 then incZ (ent A c x) else ent A c' x := by
 obtain ⟨g1, g2⟩ := hA.get hc
 rw [ent, incT, getD_setT]
 by_cases e : c = c'
 ·subst e
  rw [if_pos ⟨rfl, by rw [hA.1]; exact hc⟩, getD_set]
  by_cases e2 : v = (x : Int) + 1
  ·rw [if_pos ⟨by omega, by omega⟩, if_pos ⟨rfl, e2⟩, show (v - 1).toNat = x by omega]; rfl
  ·rw [if_neg (by omega), if_neg (by simp [e2])]; rfl
 ·rw [if_neg (by simp [e]), if_neg (by simp [e])]; rfl
theorem ent_fi {n : Nat} {A : List (List Int)} {f : List Int} (hA : Sq n A) (hf : f.length = n) (hb : ∀ v ∈ f, 1 ≤ v ∧ v ≤ (n : Int)) : ∀ i, i ≤ n → ∀ c x, ent (addFi A f i) c x = if c < i ∧ f.getD c 0 = (x : Int) + 1 then incZ (ent A c x) else ent A c x
 | 0, _, c, x => by simp [addFi]
 | i + 1, hi, c, x => by
  have hx : f[i]? = some (f.getD i 0) := by rw [List.getD_eq_getElem?_getD, List.getElem?_eq_getElem (by omega)]; rfl
  rw [addFi, ent_inc (hA.fi i (by omega)) (by omega) (hb _ (List.mem_of_getElem? hx)), ent_fi hA hf hb i (by omega), ent_fi hA hf hb i (by omega)]
  by_cases e : i = c
  ·subst e
   by_cases e2 : f.getD i 0 = (x : Int) + 1
   ·rw [if_pos ⟨rfl, e2⟩, if_neg (by omega), if_pos ⟨by omega, e2⟩]
   ·rw [if_neg (fun q => e2 q.2), if_neg (by omega), if_neg (fun q => e2 q.2)]
  ·rw [if_neg (by simp [e])]
   by_cases e2 : c < i ∧ f.getD c 0 = (x : Int) + 1
   ·rw [if_pos e2, if_pos ⟨by omega, e2.2⟩]
   ·rw [if_neg e2, if_neg (by omega)]
theorem ent_f {n : Nat} {A : List (List Int)} {f : List Int} (hA : Sq n A) (hf : f.length = n) (hb : ∀ v ∈ f, 1 ≤ v ∧ v ≤ (n : Int)) {c x : Nat} (hc : c < n) : ent (addF A f) c x = if f.getD c 0 = (x : Int) + 1 then incZ (ent A c x) else ent A c x := by
 rw [addF, hf, ent_fi hA hf hb n (Nat.le_refl _)]
 by_cases e : f.getD c 0 = (x : Int) + 1
 ·rw [if_pos ⟨hc, e⟩, if_pos e]
 ·rw [if_neg (fun q => e q.2), if_neg e]
abbrev inN (n : Nat) (D : List (List Int)) : Prop := ∀ f ∈ D, f.length = n ∧ ∀ v ∈ f, 1 ≤ v ∧ v ≤ (n : Int)
theorem ent_fold {n : Nat} {c x : Nat} (hc : c < n) : ∀ (D : List (List Int)) (A : List (List Int)) (N : Nat), Sq n A → inN n D → 0 ≤ ent A c x ∧ ent A c x ≤ N → N + D.length ≤ 1000000000 →
  ent (D.foldl addF A) c x = ent A c x + ((D.filter fun f => decide (f.getD c 0 = (x : Int) + 1)).length : Int)
 | [], A, N, _, _, _, _ => by simp
 | f :: D, A, N, hA, hD, h1, h2 => by
  rw [List.length_cons] at h2
  obtain ⟨f1, f2⟩ := hD f (by simp)
  have e := ent_f hA f1 f2 (x := x) hc
  have hw : incZ (ent A c x) = ent A c x + 1 := wrapZs (by omega) (by omega)
  have hs : Sq n (addF A f) := hA.fi _ (by omega)
  rw [List.foldl_cons, ent_fold hc D (addF A f) (N + 1) hs (fun g hg => hD g (by simp [hg])) (by rw [e]; split <;> omega) (by omega), e, List.filter_cons]
  by_cases q : f.getD c 0 = (x : Int) + 1
  ·simp only [q, decide_true, if_true, List.length_cons]; omega
  ·simp only [q, decide_false, if_false, Bool.false_eq_true]
theorem ent_dist {n : Nat} {D : List (List Int)} (hD : inN n D) (hl : D.length ≤ 1000000000) {c x : Nat} (hc : c < n) : ent (gC n D) c x = ((D.filter fun f => decide (f.getD c 0 = (x : Int) + 1)).length : Int) := by
 have hz : ent (zeroT n) c x = 0 := by
  have e : (List.replicate n (List.replicate n (0 : Int))).getD c [] = List.replicate n 0 := by rw [List.getD_eq_getElem?_getD, List.getElem?_replicate, if_pos hc]; rfl
  rw [ent, zeroT, e, List.getD_eq_getElem?_getD, List.getElem?_replicate]
  split <;> rfl
 rw [gC, ent_fold hc D (zeroT n) 0 (.zero n) hD (by rw [hz]; simp) (by omega), hz]; omega
theorem enumN_in {n : Nat} {lines : List (List Int)} {s : Int} (hl : ∀ l ∈ lines, AscL n l) : inN n (jD lines s n n []) := fun f hf => by
 obtain ⟨⟨h1, h2⟩, _⟩ := (enumN_iff hl).1 hf
 exact ⟨h1, fun v hv => by have := h2.2 v hv; omega⟩
theorem sq_dist {n : Nat} {D : List (List Int)} (hD : inN n D) : Sq n (gC n D) := by
 have : ∀ (D A : List (List Int)), inN n D → Sq n A → Sq n (D.foldl addF A) := by
  intro D
  induction D with
  | nil => intro A _ h; exact h
  | cons f D ih =>
   intro A hD h
   exact ih _ (fun g hg => hD g (by simp [hg])) (h.fi _ (by have := (hD f (by simp)).1; omega))
 exact this D _ hD (.zero n)
theorem ent_sum {n : Nat} {D : List (List Int)} (hD : inN n D) (hl : D.length ≤ 1000000000) {c : Nat} (hc : c < n) : ((List.range n).map fun x => ent (gC n D) c x).sum = D.length := by
 have e : (List.range n).map (fun x => ent (gC n D) c x) = (List.range n).map fun (x : Nat) => (((D.filter fun f => decide (f.getD c 0 = (x : Int) + 1)).length : Nat) : Int) := List.map_congr_left fun x _ => ent_dist hD hl hc
 rw [e]
 clear e hl
 have key : ∀ (D : List (List Int)), (∀ f ∈ D, 1 ≤ f.getD c 0 ∧ f.getD c 0 ≤ (n : Int)) → ((List.range n).map fun (x : Nat) => (((D.filter fun f => decide (f.getD c 0 = (x : Int) + 1)).length : Nat) : Int)).sum = (D.length : Int) := by
  intro D
  induction D with
  | nil =>
   intro _
   have : ∀ l : List Nat, (l.map fun _ : Nat => (0 : Int)).sum = 0 := by
    intro l
    induction l with
    | nil => rfl
    | cons a l ih => rw [List.map_cons, List.sum_cons, ih]; rfl
   simpa using this _
  | cons f D ih =>
   intro h
   have ih := ih fun g hg => h g (by simp [hg])
   have hf := h f (by simp)
   have one : ∀ (m : Nat) (a : Nat → Int), ((List.range m).map fun (x : Nat) => (if f.getD c 0 = (x : Int) + 1 then (1 : Int) else 0) + a x).sum = ((List.range m).map a).sum + if f.getD c 0 ≤ (m : Int) then 1 else 0 := by
    intro m
    induction m with
    | zero => intro a; rw [if_neg (by omega)]; rfl
    | succ m ihm =>
     intro a
     rw [List.range_succ, List.map_append, List.sum_append, ihm, List.map_append, List.sum_append]
     simp only [List.map_cons, List.map_nil, List.sum_cons, List.sum_nil]
     by_cases c1 : f.getD c 0 ≤ (m : Int)
     ·rw [if_pos c1, if_neg (by omega), if_pos (by omega)]; omega
     ·rw [if_neg c1]
      by_cases c2 : f.getD c 0 = (m : Int) + 1
      ·rw [if_pos c2, if_pos (by omega)]; omega
      ·rw [if_neg c2, if_neg (by omega)]; omega
   have e2 : (List.range n).map (fun (x : Nat) => ((((f :: D).filter fun f => decide (f.getD c 0 = (x : Int) + 1)).length : Nat) : Int)) = (List.range n).map fun (x : Nat) => (if f.getD c 0 = (x : Int) + 1 then (1 : Int) else 0) + (((D.filter fun f => decide (f.getD c 0 = (x : Int) + 1)).length : Nat) : Int) := List.map_congr_left fun x _ => by
    rw [List.filter_cons]
    by_cases q : f.getD c 0 = (x : Int) + 1
    ·simp only [q, decide_true, if_true, List.length_cons]; omega
    ·simp only [q, decide_false, if_false, Bool.false_eq_true]; omega
   rw [e2, one, ih, if_pos hf.2, List.length_cons]; omega
 refine key D fun f hf => ?_
 obtain ⟨h1, h2⟩ := hD f hf
 have hx : f[c]? = some (f.getD c 0) := by rw [List.getD_eq_getElem?_getD, List.getElem?_eq_getElem (by omega)]; rfl
 exact h2 _ (List.mem_of_getElem? hx)
end Go.Ev
namespace Go.Ev
open Go Go.Proofs
variable {B : Nat}
abbrev tI (A : List (List Int)) : List (List AV) := A.map fun r => r.map I
theorem tI_get {A : List (List Int)} {c : Nat} {r : List Int} (h : A[c]? = some r) : (tI A)[c]? = some (r.map I) := by rw [List.getElem?_map, h]; rfl
noncomputable abbrev F53.tm (cells : Int) (lines : List (List Int)) (s : Int) (bx b6 : Pa) (x7 x13 x14 : AV) : T AV := F53.fr (.agg [I cells, encT lines]) (I s) (.ptr bx 0) .nils (I 0) (I 0) (.ptr b6 0) x7 .undef .undef .undef (.bool false) (I cells) x13 x14 (.fn 136 (.of 136) [.fp [I cells, encT lines], .fp [I s]]) .undef .undef .undef .undef .undef
def F53.LC (n : Nat) (lines : List (List Int)) (s : Int) (bx b6 tb id : Pa) (x7 x13 x14 : AV) (go : Bool) (A : List (List Int)) (L : List Ob) : Prop :=
 Sq n A ∧ ∃ rs, (∀ c, c < n → ∃ r, rs[c]? = some (some r)) ∧ L = [.raw id (.loop .ready .none (F53.tm n lines s bx b6 x7 x13 x14) [.of 16] F53.b12 F53.b13), .tab tb rs (tI A), .arr b6 [.sl tb 0 n (some n) 1], .arr bx [I n, encT lines]]
theorem F53.yc {h0 : T Blk} {n : Nat} {lines : List (List Int)} {s : Int} {bx b6 tb id : Pa} {x7 x13 x14 : AV} (hn : n ≤ 9) (f bu bf be bp bg : Pa) : YC B h0 n lines s f bu bf be bp bg id (F53.LC n lines s bx b6 tb id x7 x13 x14) stpD := by
 rintro A fl m h nx K L hfl hrg ⟨hA, rs, hrs, rfl⟩ H hK
 refine by_round (fns := tbl) dreg 1000 fun hf => ?_
 rw [F53.y13 (getLoop H (k := 6) rfl) rfl]
 have H1 := H.setRaw (k := 6) rfl (b' := .loop .busy .none (F53.tm n lines s bx b6 x7 x13 x14) [.of 16] F53.b12 F53.b13) (by intro e; cases e)
 simp only [zM]
 refine F53.L15 (fun m' x19 h' nx' => ∃ i : Nat, x19 = I i ∧ n - i = m' ∧ i ≤ n ∧ nx' = nx ∧ Hp h0 h' nx (Gn n lines s f bu bf be bp bg id fl m ++ [.raw id (.loop .busy .none (F53.tm n lines s bx b6 x7 x13 x14) [.of 16] F53.b12 F53.b13), .tab tb rs (tI (addFi A fl i)), .arr b6 [.sl tb 0 n (some n) 1], .arr bx [I n, encT lines]])) (m := n) (by omega) ⟨0, rfl, by omega, by omega, rfl, H1⟩ ?_
 rintro m' z9 z10 z19 z20 h2 nx2 R ⟨i, rfl, rfl, hi, rfl, H2⟩ hR
 simp only [sLss]
 by_cases hlt : i < n
 case neg =>
  simp only [show ¬ (i : Int) < (n : Int) by omega, decide_false, zB]
  obtain rfl : i = n := by omega
  refine H2.rend (k := 6) rfl fun h3 H3 => ?_
  have e : addF A fl = addFi A fl i := by rw [addF, hfl]
  have e2 : stpD A fl = (addFi A fl i, true) := by rw [stpD, e]
  rw [e2] at hK
  exact hK _ _ _ ⟨hA.fi i (Nat.le_refl _), rs, hrs, rfl⟩ H3
 simp only [show (i : Int) < (n : Int) by omega, decide_true, zC]
 have hx : fl[i]? = some (fl.getD i 0) := by rw [List.getD_eq_getElem?_getD, List.getElem?_eq_getElem (by omega)]; rfl
 obtain ⟨q1, q2⟩ := hrg _ (List.mem_of_getElem? hx)
 have hSq := hA.fi (fl := fl) i hi
 obtain ⟨g1, g2⟩ := hSq.get hlt
 obtain ⟨r, hr⟩ := hrs i hlt
 have hrow := tI_get g1
 have hj : (((addFi A fl i).getD i []).map I)[(fl.getD i 0 - 1).toNat]? = some (I (((addFi A fl i).getD i []).getD (fl.getD i 0 - 1).toNat 0)) := by
  rw [List.getElem?_map, List.getD_eq_getElem?_getD (l := (addFi A fl i).getD i []), List.getElem?_eq_getElem (by omega)]
  try rfl
 rw [sIx (i := i) rfl hlt, H2.load (k := 0) rfl (getI hx), H2.load (k := 8) (i := 0) rfl rfl, sIx (i := i) rfl hlt, H2.tabLoad (w := n) (k := 7) rfl hrow hr (by rw [List.length_map]; exact g2), sSub (by omega), sIx (i := (fl.getD i 0 - 1).toNat) (by omega) (by omega), H2.cellLoad (k := 7) rfl hrow hr hj, sAddW, sIx (i := (fl.getD i 0 - 1).toNat) (by omega) (by omega)]
 refine H2.cellStore (k := 7) rfl hrow hr (by rw [List.length_map]; omega) rfl fun h3 H3 => ?_
 try rw [sAdd (by omega)]
 refine hR _ _ _ _ _ _ _ (by omega) ⟨i + 1, rfl, rfl, by omega, rfl, H3.cast ?_⟩
 have e : tI (addFi A fl (i + 1)) = (tI (addFi A fl i)).set i ((((addFi A fl i).getD i []).map I).set (fl.getD i 0 - 1).toNat (I (IntKind.wrap .i64 (((addFi A fl i).getD i []).getD (fl.getD i 0 - 1).toNat 0 + 1)))) := by
  show tI (incT (addFi A fl i) i (fl.getD i 0)) = _
  rw [incT, tI, List.map_set, List.map_set]; rfl
 rw [e]; rfl
theorem dist53 {n : Nat} {lines : List (List Int)} {s : Int} (hw : ∀ q ∈ lines, q.length ≤ 1000) (he : smErr n lines = 0) (hsy : yR n lines = 0) (hn9 : n ≤ 9) (hs : -9223372036854775808 ≤ s ∧ s ≤ 9223372036854775807) :
  Pure Tryz.prog B 53 [.agg [I n, encT lines], I s] (· = .tup [encT (gC n (jD lines s n n [])), I 0]) := by
 obtain ⟨n', hn, g1, g2, g3, g4⟩ := sys_ok hsy
 obtain rfl : n = n' := by omega
 refine yV fun h nx K H0 hK => zP zZ dreg 1000 fun hf => ?_
 rw [F53.go]
 refine H0.box (l := [I n, encT lines]) rfl fun bx h1 nx1 H1 => ?_
 rw [H1.loadN (k := 0) (n := 2) rfl rfl]
 refine small106 (fun q hq => Nat.le_trans (hw q hq) (by omega)) _ _ _ _ ?_
 rintro _ rfl _
 rw [he]
 simp only [sNeq, decide_true, Bool.not_true, zB]
 rw [sFx, H1.load (k := 0) (i := 0) rfl rfl]
 refine H1.mk1 n rfl rfl (by omega) (by decide) fun tb h2 nx2 H2 => ?_
 refine H2.asTab.alloc fun b6 h3 nx3 H3 => ?_
 refine H3.store (k := 0) rfl (by simp) rfl fun h4 H4 => ?_
 rw [H4.load (k := 0) (i := 0) rfl rfl]
 simp only [zM]
 have hz : List.replicate n (I 0) = (List.replicate n (0 : Int)).map I := by simp
 refine F53.L2 (fun m x7 x13 h' nx' => ∃ (i : Nat) (rs : List (Option Pa)), x13 = I i ∧ m = n - i ∧ i ≤ n ∧ (∀ p, i ≤ p → p < n → rs[p]? = some none) ∧ (∀ p, p < i → ∃ r, rs[p]? = some (some r)) ∧ rs.length = n ∧ Hp h h' nx' [.arr b6 [.sl tb 0 n (some n) 1], .tab tb rs (rowL n fun p => if p < i then (List.replicate n (0 : Int)).map I else []), .arr bx [I n, encT lines]]) (m := n) (by omega)
  ⟨0, List.replicate n none, rfl, by simp, by omega, fun p _ hp => by simp [hp], fun p hp => by omega, by simp, by simpa [rowL_const] using H4⟩ ?_
 rintro m x7 x13 x14 h5 nx5 R ⟨i, rs, rfl, rfl, hi, hrs, hrs2, hrl, H5⟩ hR
 simp only [sLss]
 by_cases hlt : i < n
 ·simp only [show (i : Int) < (n : Int) by omega, decide_true, zC]
  rw [H5.load (k := 0) (i := 0) rfl rfl, sFx, H5.load (k := 2) (i := 0) rfl rfl]
  refine H5.mk1 n rfl rfl (by omega) (by decide) fun r h6 nx6 H6 => ?_
  simp only [zD]
  rw [H6.load (k := 1) (i := 0) rfl rfl, zD, sIx (i := i) rfl hlt]
  rw [hz] at H6
  refine H6.putRow (w := n) (by simp) (k := 1) rfl (hrs i (Nat.le_refl _) hlt) fun h7 H7 => ?_
  try rw [sAdd (by omega)]
  refine hR (n - (i + 1)) _ _ _ _ _ (by omega) ⟨i + 1, rs.set i (some r), rfl, rfl, by omega, fun p h1 h2 => ?_, fun p hp => ?_, by simp [hrl], H7.cast ?_⟩
  ·rw [List.getElem?_set_ne (by omega)]; exact hrs p (by omega) h2
  ·by_cases e : p = i
   ·subst e; exact ⟨r, by rw [List.getElem?_set, if_pos rfl, if_pos (by omega)]⟩
   ·rw [List.getElem?_set_ne (by omega)]; exact hrs2 p (by omega)
  ·simp only [List.set_cons_zero, List.set_cons_succ, rowL_set]
   congr 2
   congr 1
   refine rowL_congr fun p _ => ?_
   by_cases e : p = i
   ·subst e; simp
   ·simp only [if_neg e]
    by_cases e2 : p < i
    ·rw [if_pos e2, if_pos (by omega)]
    ·rw [if_neg e2, if_neg (by omega)]
 ·simp only [show ¬ (i : Int) < (n : Int) by omega, decide_false, zB]
  obtain rfl : i = n := by omega
  have et : (rowL i fun p => if p < i then (List.replicate i (0 : Int)).map I else []) = tI (zeroT i) := by
   rw [rowL_congr (d' := fun _ => (List.replicate i (0 : Int)).map I) fun p hp => if_pos hp, ← rowL_const]
   simp [tI, zeroT]
  rw [et] at H5
  rw [F53.k9, H5.loadN (k := 2) (n := 2) rfl rfl]
  refine normal107 _ _ _ _ ?_
  rintro _ rfl _
  have H6 : Hp h h5 nx5 [.tab tb rs (tI (zeroT i)), .arr b6 [.sl tb 0 i (some i) 1], .arr bx [I i, encT lines]] := H5.perm (.swap _ _ _)
  refine H6.rf (g := 136) (p := .of 136) (cap := [.fp [I i, encT lines], .fp [I s]]) rfl fun id h7 nx7 H7 => ?_
  refine normal136 (LC := F53.LC i lines s bx b6 tb id x7 (I i) (.bool false)) (stp := stpD) (st := zeroT i) hn9 (by omega) (fun l hl => ⟨g4 l hl, hw l hl⟩) hs (fun f bu bf be bp bg => F53.yc hn9 f bu bf be bp bg) ⟨.zero i, rs, hrs2, rfl⟩ H7 fun h8 nx8 L' hL' H8 => ?_
  rw [foldD] at hL'
  obtain ⟨hSq, rs', _, rfl⟩ := hL'
  refine H8.rfEnd fun h9 H9 => ?_
  rw [rfEnd_on, F53.k22, H9.load (k := 1) (i := 0) rfl rfl]
  refine hK _ _ _ _ _ H9 (uN (H9.frzTab (k := 0) rfl (Nat.le_refl _) (by simp [hSq.1]) (fun l hl v hv => by
   obtain ⟨r, _, rfl⟩ := List.mem_map.1 hl
   obtain ⟨x, _, rfl⟩ := List.mem_map.1 hv
   rfl)) (yB rfl)) ?_
  show AV.tup [AV.lst 1 _ _, _] = AV.tup [AV.lst 1 _ _, _]
  have e1 : (gC i (jD lines s i i [])).length = i := hSq.1
  rw [e1]
  simp [tI, gC, Function.comp_def]
end Go.Ev
namespace Go.Ev
open Go Go.Proofs
variable {B : Nat}
def wrapN (k : Nat) : Int := IntKind.wrap .i64 (k : Int)
theorem wrapN_succ (k : Nat) : IntKind.wrap .i64 (wrapN k + 1) = wrapN (k + 1) := by
 have := wrap_sub (k : Int) (-1)
 rw [show (IntKind.wrap .i64 (k : Int) - -1) = wrapN k + 1 by rw [wrapN]; omega, show ((k : Int) - -1) = ((k + 1 : Nat) : Int) by omega] at this
 exact this
abbrev rowsV (n : Nat) (rows : List (Pa × Option Nat)) : List AV := rows.map fun r => .sl r.1 0 n r.2 1
abbrev rowsO (rows : List (Pa × Option Nat)) (D : List (List Int)) : List Ob := List.zipWith (fun r fl => Ob.arr r.1 (fl.map I)) rows D
structure TL (n : Nat) (lines : List (List Int)) (s : Int) (most : Nat) (tb : Pa) (D : List (List Int)) (t : AV) (L : List Ob) : Prop where
 ex : ∃ (o : Option Pa) (rs : List (Option Pa)) (rows : List (Pa × Option Nat)) (sv : AV) (S : List Ob), t = .agg [I s, .bool false, I most, I (wrapN D.length), sv, rowV o 1 rows.length, .sl tb 0 n (some n) 1] ∧
  L = .gro o 1 rows.length (rowsV n rows) :: .tab tb rs (tI (gC n D)) :: (S ++ rowsO rows (D.take most)) ∧ rows.length = (D.take most).length ∧ (∀ r ∈ rows, capLe n r.2) ∧ (∀ c, c < n → ∃ r, rs[c]? = some (some r)) ∧
  ((sv = .nils ∧ S = [] ∧ (lines = [] ∨ D = [])) ∨ ∃ id c, sv = .sl id 0 1 none 2 ∧ S = [.arr id [I s, I c]] ∧ lines ≠ [])
theorem Sq.fold {n : Nat} : ∀ (l A : List (List Int)), Sq n A → (∀ f ∈ l, f.length = n) → Sq n (l.foldl addF A)
 | [], A, h, _ => h
 | f :: l, A, h, hl => by
  rw [List.foldl_cons]
  refine Sq.fold l _ ?_ fun x hx => hl x (by simp [hx])
  rw [addF, hl f (by simp)]
  exact h.fi n (Nat.le_refl _)
theorem Sq.dist {n : Nat} {D : List (List Int)} (h : ∀ f ∈ D, f.length = n) : Sq n (gC n D) := Sq.fold D _ (.zero n) h
end Go.Ev
namespace Go.Ev
open Go Go.Proofs
variable {B : Nat}
end Go.Ev
namespace Go.Ev
open Go Go.Proofs
variable {B : Nat}
theorem frz_aggS {N : Pa → Prop} {O : AV → Prop} {hh : T Blk} {l : List AV} (hs : l.all scal = true) (h : ∀ v ∈ l, Frz True N O hh v v) : Frz True N O hh (.agg l) (.agg l) :=
 .agg _ _ rfl hs fun i v v' h1 h2 => by rw [h1] at h2; cases h2; exact h v (List.mem_of_getElem? h1)
theorem frz_own {h' h : T Blk} {id : Pa} {off ln esz : Nat} {cap : Option Nat} (hl : T.get .no id h' ≠ .no) : FrzN h' h (.sl id off ln cap esz) (.sl id off ln cap esz) := .old _ (.inr (.inr (.inr ⟨id, off, ln, cap, esz, rfl, hl⟩)))
variable {n most : Nat} {lines : List (List Int)} {s : Int} {tb us : Pa} {h0 : T Blk} {M : List Ob}
theorem TL.cells {D : List (List Int)} {t : AV} {L : List Ob} (h : TL n lines s most tb D t L) : ∃ a b c d e, t = .agg [I s, .bool false, a, b, c, d, e] ∧ t.cells = some [I s, .bool false, a, b, c, d, e] := by
 obtain ⟨o, rs, rows, sv, S, rfl, rfl, hrl, hcap, hrs, hsp⟩ := h.ex
 refine ⟨_, _, _, _, _, rfl, ?_⟩
 rcases hsp with ⟨rfl, _⟩ | ⟨id, c, rfl, _⟩ <;> cases o <;> rfl
theorem TL.frz {D : List (List Int)} {t : AV} {L A C : List Ob} {h' h : T Blk} {nx : Pa} (hT : TL n lines s most tb D t L) (H : Hp h0 h' nx (A ++ (L ++ C))) : FrzN h' h t t := by
 obtain ⟨o, rs, rows, sv, S, rfl, rfl, hrl, hcap, hrs, hsp⟩ := hT.ex
 have live : ∀ x : Ob, x ∈ (A ++ ((.gro o 1 rows.length (rowsV n rows) :: .tab tb rs (tI (gC n D)) :: (S ++ rowsO rows (D.take most))) ++ C)) → ∀ id ∈ x.names, T.get .no id h' ≠ .no := fun x hx id hid => (H.own x hx).live id hid
 have hrow : FrzN h' h (rowV o 1 rows.length) (rowV o 1 rows.length) := by
  cases o with
  | none => exact .nils
  | some id => exact frz_own (live (.gro (some id) 1 rows.length (rowsV n rows)) (by simp) id (by simp [Ob.names]))
 have htb : FrzN h' h (.sl tb 0 n (some n) 1) (.sl tb 0 n (some n) 1) := frz_own (live (.tab tb rs (tI (gC n D))) (by simp) tb (by simp [Ob.names]))
 have hsv : FrzN h' h sv sv ∧ scal sv = true := by
  rcases hsp with ⟨rfl, _⟩ | ⟨id, c, rfl, rfl, _⟩
  ·exact ⟨.nils, rfl⟩
  ·exact ⟨frz_own (live (.arr id [I s, I c]) (by simp) id (by simp [Ob.names])), rfl⟩
 have hrs' : scal (rowV o 1 rows.length) = true := by cases o <;> rfl
 refine frz_aggS (by simp only [List.all_cons, List.all_nil, hsv.2, hrs', Bool.and_true]; rfl) fun v hv => ?_
 simp only [List.mem_cons, List.not_mem_nil, or_false] at hv
 rcases hv with rfl | rfl | rfl | rfl | rfl | rfl | rfl
 ·exact .int _ _
 ·exact .bool _
 ·exact .int _ _
 ·exact .int _ _
 ·exact hsv.1
 ·exact hrow
 ·exact htb
end Go.Ev
namespace Go.Ev
open Go Go.Proofs
variable {B : Nat}
theorem fixdI2 {l : List Int} : ∀ v ∈ l.map I, fixd v = true := fun v hv => by obtain ⟨x, _, rfl⟩ := List.mem_map.1 hv; rfl
theorem TL.fix {n most : Nat} {lines : List (List Int)} {s : Int} {tb : Pa} {D : List (List Int)} {t : AV} {L A C : List Ob} {h0 h : T Blk} {nx : Pa} (hT : TL n lines s most tb D t L) (hD : ∀ f ∈ D, f.length = n) (H : Hp h0 h nx (A ++ (L ++ C))) :
  ∃ sv, FrzN h0 h t (.agg [I s, .bool false, I most, I (wrapN D.length), sv, encT (D.take most), encT (gC n D)]) ∧ (sv = .nils ∨ ∃ c, sv = .lst 2 1 [I s, I c]) := by
 obtain ⟨o, rs, rows, sv, S, rfl, rfl, hrl, hcap, hrs, hsp⟩ := hT.ex
 have idx : ∀ x : Ob, x ∈ (A ++ ((.gro o 1 rows.length (rowsV n rows) :: .tab tb rs (tI (gC n D)) :: (S ++ rowsO rows (D.take most))) ++ C)) → ∃ k : Nat, (A ++ ((.gro o 1 rows.length (rowsV n rows) :: .tab tb rs (tI (gC n D)) :: (S ++ rowsO rows (D.take most))) ++ C))[k]? = some x := fun x hx => List.mem_iff_getElem?.1 hx
 have hSq := Sq.dist (n := n) hD
 have hrow : ∀ (i : Nat) v v', (rowsV n rows)[i]? = some v → ((D.take most).map encI)[i]? = some v' → FrzN h0 h v v' := by
  intro i v v' q1 q2
  rw [List.getElem?_map] at q1 q2
  cases e1 : rows[i]? with
  | none => rw [e1] at q1; cases q1
  | some r =>
   cases e2 : (D.take most)[i]? with
   | none => rw [e2] at q2; cases q2
   | some fl =>
    rw [e1] at q1; rw [e2] at q2
    have q1 := Option.some.inj q1
    have q2 := Option.some.inj q2
    subst q1 q2
    have hfl : fl.length = n := hD fl (List.mem_of_mem_take (List.mem_of_getElem? e2))
    have hm : Ob.arr r.1 (fl.map I) ∈ rowsO rows (D.take most) := List.mem_iff_getElem?.2 ⟨i, by rw [rowsO, List.getElem?_zipWith, e1, e2]⟩
    obtain ⟨k, hk⟩ := idx (.arr r.1 (fl.map I)) (by simp only [List.mem_append, List.mem_cons]; exact .inr (.inl (.inr (.inr (.inr hm)))))
    have := H.frzArr hk (hcap r (List.mem_of_getElem? e1)) (e := 1) (by simp [hfl]) fixdI2
    have e3 : AV.lst 1 n (fl.map I) = encI fl := by rw [← hfl]
    rw [e3] at this; exact this
 have hlist : FrzN h0 h (rowV o 1 rows.length) (encT (D.take most)) := by
  obtain ⟨k, hk⟩ := idx (.gro o 1 rows.length (rowsV n rows)) (by simp)
  have own := H.own _ (List.mem_of_getElem? hk)
  cases o with
  | none =>
   obtain ⟨_, q⟩ := own
   have : D.take most = [] := List.eq_nil_of_length_eq_zero (by omega)
   rw [this]; exact .lnils 1
  | some id =>
   obtain ⟨t, g1, g2, g3⟩ := own
   have harr : HasArr h id (rowsV n rows) := ⟨true, t, by rw [g1, g2], by rw [g2]; exact g3⟩
   have hoff := H.off id (List.mem_flatMap.2 ⟨_, List.mem_of_getElem? hk, by simp [Ob.names]⟩)
   have := HasArr.frzE (N := fun id => T.get Blk.no id h0 = .no) (O := fun v => (∃ id off, v = .ptr id off ∧ T.get Blk.no id h0 ≠ .no) ∨ (∃ id, v = .yld id ∧ T.get Blk.no id h0 ≠ .no) ∨ (∃ id, v = .map id ∧ T.get Blk.no id h0 ≠ .no) ∨ (∃ id off ln cap esz, v = .sl id off ln cap esz ∧ T.get Blk.no id h0 ≠ .no)) (cap := none) (e := 1) (n := rows.length) (l' := (D.take most).map encI) harr hoff trivial (by simp) (by rw [List.length_map, List.length_map, hrl]) (List.all_eq_true.2 fun v hv => by obtain ⟨x, _, rfl⟩ := List.mem_map.1 hv; rfl) hrow
   rw [hrl] at this ⊢
   exact this
 have htab : FrzN h0 h (.sl tb 0 n (some n) 1) (encT (gC n D)) := by
  obtain ⟨k, hk⟩ := idx (.tab tb rs (tI (gC n D))) (by simp)
  have := H.frzTab hk (cap := some n) (n := n) (Nat.le_refl _) (by simp [hSq.1]) (fun l hl v hv => by
   obtain ⟨r, _, rfl⟩ := List.mem_map.1 hl
   obtain ⟨x, _, rfl⟩ := List.mem_map.1 hv
   rfl)
  have e : AV.lst 1 n ((tI (gC n D)).map fun l => AV.lst 1 l.length l) = encT (gC n D) := by
   show _ = AV.lst 1 _ _
   rw [hSq.1]
   simp [tI, Function.comp_def]
  rw [e] at this; exact this
 have hsv : ∃ sv', FrzN h0 h sv sv' ∧ (sv' = .nils ∨ ∃ c, sv' = .lst 2 1 [I s, I c]) := by
  rcases hsp with ⟨rfl, _⟩ | ⟨id, c, rfl, rfl, _⟩
  ·exact ⟨.nils, .nils, .inl rfl⟩
  ·obtain ⟨k, hk⟩ := idx (.arr id [I s, I c]) (by simp)
   exact ⟨_, H.frzArr hk (cap := none) (n := 1) (e := 2) trivial rfl (fun v hv => by simp only [List.mem_cons, List.not_mem_nil, or_false] at hv; rcases hv with rfl | rfl <;> rfl), .inr ⟨c, rfl⟩⟩
 obtain ⟨sv', hs1, hs2⟩ := hsv
 refine ⟨sv', .agg _ _ rfl (by rcases hs2 with rfl | ⟨c, rfl⟩ <;> rfl) fun i v v' q1 q2 => ?_, hs2⟩
 match i with
 | 0 => simp only [List.getElem?_cons_zero, Option.some.injEq] at q1 q2; subst q1 q2; exact .int _ _
 | 1 => simp only [List.getElem?_cons_succ, List.getElem?_cons_zero, Option.some.injEq] at q1 q2; subst q1 q2; exact .bool _
 | 2 => simp only [List.getElem?_cons_succ, List.getElem?_cons_zero, Option.some.injEq] at q1 q2; subst q1 q2; exact .int _ _
 | 3 => simp only [List.getElem?_cons_succ, List.getElem?_cons_zero, Option.some.injEq] at q1 q2; subst q1 q2; exact .int _ _
 | 4 => simp only [List.getElem?_cons_succ, List.getElem?_cons_zero, Option.some.injEq] at q1 q2; subst q1 q2; exact hs1
 | 5 => simp only [List.getElem?_cons_succ, List.getElem?_cons_zero, Option.some.injEq] at q1 q2; subst q1 q2; exact hlist
 | 6 => simp only [List.getElem?_cons_succ, List.getElem?_cons_zero, Option.some.injEq] at q1 q2; subst q1 q2; exact htab
 | i + 7 => simp at q1
end Go.Ev
namespace Go.Ev
open Go Go.Proofs
variable {B : Nat}
theorem sGW_tf2 (op : KW3 → OP) (h : T Blk) (nx : Pa) (k : KW3) : sGW (.bool true) false op h nx k = k .undef h nx := nr rfl
theorem sGW_ff2 (op : KW3 → OP) (h : T Blk) (nx : Pa) (k : KW3) : sGW (.bool false) false op h nx k = op k := nr rfl
theorem light62 {n : Nat} {lines : List (List Int)} (hm : lines.length ≤ 1000) (hl : ∀ l ∈ lines, AscL n l ∧ l.length ≤ 1000) : Pure Tryz.prog B 62 [.agg [I n, encT lines]] (fun v => ∃ b, v = .bool b) := by
 refine yV fun h nx K H0 hK => zP zZ dreg 100000 fun hf => ?_
 rw [F62.go]
 refine H0.box (l := [I n, encT lines]) rfl fun bx h1 nx1 H1 => ?_
 have ret : ∀ b, K (.bool b) h1 nx1 = .ok True := fun b => hK _ _ _ _ _ H1 (yB rfl) ⟨b, rfl⟩
 rw [sFx, H1.load (k := 0) (i := 0) rfl rfl]
 simp only [sLeq]
 have go : ∀ z6, IR.run F62.b2 (CS Tryz.prog B) 100000 (fnO F62.res K) (IR.run F62.b9 (CS Tryz.prog B) 100000 (fnO F62.res K) (retK F62.res K)) (F62.fr (.agg [I n, encT lines]) (.ptr bx 0) (.bool false) (I 0) (I 0) .undef z6 .undef .undef) h1 nx1 = .ok True := by
  intro z6
  refine F62.L2 (fun m x3 x4 h' nx' => ∃ i c : Nat, x3 = I c ∧ x4 = I i ∧ m = lines.length - i ∧ i ≤ lines.length ∧ c ≤ i ∧ h' = h1 ∧ nx' = nx1) (m := lines.length) (by omega) ⟨0, 0, rfl, rfl, by omega, by omega, by omega, rfl, rfl⟩ ?_
  rintro m x3 x4 x5 x7 x8 _ _ R ⟨i, c, rfl, rfl, rfl, hi, hc, rfl, rfl⟩ hR
  rw [sFx, H1.load (k := 0) (i := 0 + 1) rfl rfl]
  simp only [zF, sLss]
  by_cases hlt : i < lines.length
  ·simp only [show (i : Int) < (lines.length : Int) by omega, decide_true, zC]
   have hx : lines[i]? = some lines[i] := List.getElem?_eq_getElem hlt
   obtain ⟨ha, hlw⟩ := hl _ (List.getElem_mem hlt)
   have hpos : 0 < lines[i].length := List.length_pos_iff.2 ha.1
   have hg : lines[i][lines[i].length - 1]? = some (lines[i][lines[i].length - 1]'(by omega)) := List.getElem?_eq_getElem (by omega)
   rw [sFx, H1.load (k := 0) (i := 0 + 1) rfl rfl, sIxL rfl hlt, ldL (getT hx)]
   simp only [zF]
   rw [sSub (by omega), sIxL (i := lines[i].length - 1) (by omega) (by omega), ldL (getI hg)]
   simp only [sLeq]
   by_cases c5 : lines[i][lines[i].length - 1]'(by omega) ≤ 5
   ·simp only [c5, decide_true, zC]
    rw [sAdd (by omega), sAdd (by omega)]
    exact hR _ _ _ _ _ _ _ _ (by omega) ⟨i + 1, c + 1, rfl, rfl, rfl, by omega, by omega, rfl, rfl⟩
   ·simp only [c5, decide_false, zB]
    rw [sAdd (by omega)]
    exact hR _ _ _ _ _ _ _ _ (by omega) ⟨i + 1, c, rfl, rfl, rfl, by omega, by omega, rfl, rfl⟩
  ·simp only [show ¬ (i : Int) < (lines.length : Int) by omega, decide_false, zB]
   rw [F62.k9]
   simp only [sGeq]
   exact ret _
 by_cases c6 : (n : Int) ≤ 6
 ·simp only [c6, decide_true, yE, zK, zC]
  exact ret _
 ·simp only [c6, decide_false, zY, sFx]
  rw [H1.load (k := 0) (i := 0) rfl rfl]
  simp only [sGtr, zI]
  by_cases c9 : (9 : Int) < (n : Int)
  ·simp only [c9, decide_true, zC]
   exact ret _
  ·simp only [c9, decide_false, zB]
   exact go _
end Go.Ev
namespace Go.Ev
open Go Go.Proofs
variable {B : Nat}
theorem sort152 {h0 h : T Blk} {nx p : Pa} {L : List Ob} {k n : Nat} {o : Option Pa} {l : List Int} {K : Kw Prop} (hj : ∀ B, JOk Tryz.prog B hookS) (H : Hp h0 h nx L) (hk : L[k]? = some (.gro o 1 n (l.map I))) (hn : n ≤ 1000000)
  (hK : ∀ h', Hp h0 h' nx (L.set k (.gro o 1 n ((srt l).map I))) → K (.tup []) h' nx = .ok True) : (CS Tryz.prog B).fn 152 p [rowV o 1 n] h nx K = .ok True := by
 have own := H.own _ (List.mem_of_getElem? hk)
 cases o with
 | none =>
  obtain ⟨q1, rfl⟩ := own
  obtain rfl : l = [] := by simpa using q1
  refine CS_hook (hj B) (v := .tup []) (h2 := h) rfl (hK h (H.cast ?_))
  have e : (srt ([] : List Int)).map I = [] := by simp [srt]
  rw [e, (getSplit hk).2]; exact (getSplit hk).1
 | some id =>
  obtain ⟨t, h1, h2, h3⟩ := own
  rw [Nat.mul_one] at h1 h2 h3
  have e1 : sortJ (.sl id 0 n none 1) h = some (T.set Blk.no (Blk.cells true n (jF ((srt l).map I) t 0)) id h) := by
   show (match T.get Blk.no id h with
    | .cells op m t => bif Nat.beq 1 1 && Nat.ble (0 + n) m && Nat.ble n 1000000 then (match intsA (yS t 0 n) with
     | some l => some (T.set Blk.no (Blk.cells op m (jF ((srt l).map I) t 0)) id h)
     | none => none) else none
    | _ => none) = _
   rw [h1]
   show (bif Nat.beq 1 1 && Nat.ble (0 + n) n && Nat.ble n 1000000 then (match intsA (yS t 0 n) with
     | some l => some (T.set Blk.no (Blk.cells true n (jF ((srt l).map I) t 0)) id h)
     | none => none) else none) = _
   rw [Nat.ble_eq_true_of_le (by omega), Nat.ble_eq_true_of_le hn, h3, intsA_map]; rfl
  have e2 : hookS 152 [rowV (some id) 1 n] h = some (.tup [], T.set Blk.no (Blk.cells true n (jF ((srt l).map I) t 0)) id h) := by
   show (match sortJ (.sl id 0 n none 1) h with
    | some h => some ((.tup [] : AV), h)
    | none => none) = _
   rw [e1]
  refine CS_hook (hj B) e2 (hK _ (H.upd hk (by simp [Ob.names]) rfl ⟨_, by rw [T.get_set_same, Nat.mul_one], by simpa using h2, ?_⟩))
  have := rdList_wr t [] ((srt l).map I) 0 rfl
  rw [Nat.zero_add, List.nil_append] at this
  have hl : ((srt l).map I).length = n := by simpa using h2
  rw [hl] at this
  rw [Nat.mul_one]; exact this
theorem sorted125 {l : List Int} (hj : ∀ B, JOk Tryz.prog B hookS) (hl : l.length ≤ 100000) : Pure Tryz.prog B 125 [.fn 153 (.of 153) [.fp [encI l]]] (· = encI (srt l)) := by
 refine yV fun h nx K H0 hK => zP zZ dreg 100 fun hf => ?_
 rw [F125.go]
 refine jI (p := .of 151) (K := fun v1 h2 n3 => (CS Tryz.prog B).fn 152 (.of 152) [v1] h2 n3 fun v4 h5 n6 => K v1 h5 n6) (zP zZ dreg 100 fun hf => ?_) fun _ _ _ _ q => q
 rw [F151.go]
 refine append173 hl H0 fun o h1 nx1 H1 => ?_
 refine sort152 hj H1 (k := 0) rfl (by omega) fun h2 H2 => ?_
 refine hK _ _ _ _ _ H2 (H2.frzGro (k := 0) rfl (by intro v hv; obtain ⟨t, _, rfl⟩ := List.mem_map.1 hv; rfl)) ?_
 show _ = AV.lst 1 _ _
 rw [srt_length]
def loS (d : List Int) : Int := wsum (fun i => (d.length : Int) - i) d d.length
def hiS (d : List Int) : Int := wsum (fun i => (i : Int) + 1) d d.length
def bndV (cells : Nat) (lines : List (List Int)) : AV := .tup [I ((loS (srt (degS cells lines)) + lines.length - 1).tdiv lines.length), I ((hiS (srt (degS cells lines))).tdiv lines.length)]
theorem quo_bd {a : Int} {n : Nat} (h : 0 ≤ a) (hn : 0 < n) : 0 ≤ a.tdiv n ∧ a.tdiv n ≤ a := by
 rw [Int.tdiv_eq_ediv_of_nonneg h]
 exact ⟨Int.ediv_nonneg h (by omega), Int.ediv_le_self _ h⟩
theorem sQuoN {a : Int} {n : Nat} {K : AV → OP} (h : 0 ≤ a) (h2 : a ≤ 9223372036854775807) (hn : 0 < n) : sBin .quo .int (I a) (I (n : Int)) K = K (I (a.tdiv n)) := by
 obtain ⟨q1, q2⟩ := quo_bd h hn
 have e : sBin .quo .int (I a) (I (n : Int)) K = (bif ieq (n : Int) 0 then Out.no 5 else intK (IntKind.wrap .i64 (a.tdiv n)) fun z => K (.int .i64 z)) := rfl
 rw [e, ieq_eq]
 have hb : ((n : Int) == 0) = false := by simp; omega
 rw [hb, cond_false, gY, uL (by omega)]
theorem bounds83 {cells : Nat} {lines : List (List Int)} (hj : ∀ B, JOk Tryz.prog B hookS) (h0 : 0 < lines.length) (hcl : cells ≤ 256) (hn : lines.length ≤ 128) (hl : ∀ l ∈ lines, l.length ≤ 1000 ∧ ∀ c ∈ l, 0 ≤ c ∧ c < (cells : Int)) : Pure Tryz.prog B 83 [.agg [I cells, encT lines]] (· = bndV cells lines) := by
 refine yV fun h nx K H0 hK => zP zZ dreg 10000000 fun hf => ?_
 rw [F83.go]
 refine H0.box (l := [I cells, encT lines]) rfl fun bx h1 nx1 H1 => ?_
 rw [H1.loadN (k := 0) (n := 2) rfl rfl]
 refine deg95 hcl hn hl _ _ _ _ ?_
 rintro _ rfl _
 refine values126 _ _ _ _ ?_
 rintro _ rfl _
 refine sorted125 hj (by rw [jW]; omega) _ _ _ _ ?_
 rintro _ rfl _
 simp only [zF]
 have hM : Bd (srt (degS cells lines)) 128000 := (degS_bd (W := 1000) fun l hm => ⟨(hl l hm).1, fun c hc => by have := (hl l hm).2 c hc; omega⟩).srt.mono (by omega)
 have hlen : (srt (degS cells lines)).length = cells := by rw [srt_length, jW]
 unfold bndV at hK
 generalize srt (degS cells lines) = d at *
 have hf1 : ∀ j, j < d.length → 0 ≤ (j : Int) + 1 ∧ (j : Int) + 1 ≤ ((256 : Nat) : Int) := fun j hj => by omega
 have hf2 : ∀ j, j < d.length → 0 ≤ (d.length : Int) - j ∧ (d.length : Int) - j ≤ ((256 : Nat) : Int) := fun j hj => by omega
 refine F83.L1 (fun m z5 z6 z12 h' nx' => ∃ i : Nat, z12 = I i ∧ z5 = I (wsum (fun i => (d.length : Int) - i) d i) ∧ z6 = I (wsum (fun i => (i : Int) + 1) d i) ∧ d.length - i = m ∧ i ≤ d.length ∧ h' = h1 ∧ nx' = nx1) (m := d.length) (by omega) ⟨0, rfl, rfl, rfl, by omega, by omega, rfl, rfl⟩ ?_
 rintro m z5 z6 z7 z8 z12 z13 h1 nx1 R ⟨i, rfl, rfl, rfl, rfl, hi, rfl, rfl⟩ hR
 obtain ⟨w1, w2⟩ := wsum_bd hM hf1 i hi
 obtain ⟨w3, w4⟩ := wsum_bd hM hf2 i hi
 simp (disch := omega) only [sAdd, sSub, sMul, sEql, sNeq, sLss, sLeq, sGtr, sGeq, zK, zI, zC, zB, yC, zY, yE, yF, zO, yD, yA, yI, zT, zS, zR, zF, zM, zJ, zD, decide_true, decide_false, Bool.not_true, Bool.not_false, zV]
 by_cases hlt : i < d.length
 ·simp only [show (i : Int) < (d.length : Int) by omega, decide_true, zC]
  have hx : d[i]? = some (d.getD i 0) := by rw [List.getD_eq_getElem?_getD, List.getElem?_eq_getElem hlt]; rfl
  obtain ⟨a1, a2⟩ := wsum_step hM hf1 hlt
  obtain ⟨a3, a4⟩ := wsum_step hM hf2 hlt
  rw [sIxL rfl hlt, ldL (getI hx)]
  rw [sMul (by omega), sAdd (by omega), sMul (by omega), sAdd (by omega)]
  try rw [sAdd (by omega)]
  exact hR _ _ _ _ _ _ _ _ _ (by omega) ⟨i + 1, rfl, rfl, rfl, rfl, by omega, rfl, rfl⟩
 ·simp only [show ¬ (i : Int) < (d.length : Int) by omega, decide_false, zB]
  obtain rfl : i = d.length := by omega
  rw [F83.k8, sFx, H1.load (k := 0) (i := 0 + 1) rfl rfl]
  simp only [zF]
  rw [sAdd (by omega), sSub (by omega), sQuoN (by omega) (by omega) h0, sQuoN (by omega) (by omega) h0]
  exact hK _ _ _ _ _ H1 (uN (yB rfl) (yB rfl)) rfl
end Go.Ev
namespace Go.Ev
open Go Go.Proofs
variable {B : Nat}
def flat2 (q : List (Int × Int)) : List AV := q.flatMap fun p => [I p.1, I p.2]
abbrev encP (q : List (Int × Int)) : AV := .lst 2 q.length (flat2 q)
theorem flat2_app (a b : List (Int × Int)) : flat2 (a ++ b) = flat2 a ++ flat2 b := by simp [flat2]
theorem flat2_drop : ∀ (q : List (Int × Int)) (i : Nat), (flat2 q).drop (i * 2) = flat2 (q.drop i)
 | q, 0 => by simp
 | [], i + 1 => by simp [flat2]
 | p :: q, i + 1 => by
  rw [List.drop_succ_cons, ← flat2_drop q i, show (i + 1) * 2 = i * 2 + 1 + 1 by omega]
  rfl
theorem flat2_mem {q : List (Int × Int)} : ∀ v ∈ flat2 q, ∃ x, v = I x := fun v hv => by
 obtain ⟨p, _, h⟩ := List.mem_flatMap.1 hv
 simp only [List.mem_cons, List.not_mem_nil, or_false] at h
 rcases h with rfl | rfl
 ·exact ⟨_, rfl⟩
 ·exact ⟨_, rfl⟩
theorem fixd_flat2 {q : List (Int × Int)} : ∀ v ∈ flat2 q, fixd v = true := fun v hv => by obtain ⟨x, rfl⟩ := flat2_mem v hv; rfl
theorem fixd_encP (q : List (Int × Int)) : fixd (encP q) = true := fixd_all fixd_flat2
theorem jC {q : List (Int × Int)} {i : Nat} (h : i < q.length) : (flat2 q).drop (i * 2) = I q[i].1 :: I q[i].2 :: (flat2 q).drop ((i + 1) * 2) := by
 rw [flat2_drop, flat2_drop, List.drop_eq_getElem_cons h]; rfl
def loB (n : Nat) (lines : List (List Int)) : Int := (loS (srt (degS n lines)) + lines.length - 1).tdiv lines.length
def hiB (n : Nat) (lines : List (List Int)) : Int := (hiS (srt (degS n lines))).tdiv lines.length
theorem AscL.len {n : Nat} {l : List Int} (h : AscL n l) : l.length ≤ n := by
 obtain ⟨t, ht⟩ := sub_perm l ((List.range n).map fun (i : Nat) => (i : Int)) (h.2.1.imp fun {x y} q e => by omega) fun x hx => by
  have := h.2.2 x hx
  exact List.mem_map.2 ⟨x.toNat, List.mem_range.2 (by omega), by omega⟩
 have := ht.length_eq
 simp at this
 omega
theorem bnd_bd {n : Nat} {lines : List (List Int)} (h0 : 0 < lines.length) (hn : n ≤ 9) (hm : lines.length ≤ 128) (hl : ∀ l ∈ lines, AscL n l) : 0 ≤ loB n lines ∧ loB n lines ≤ 200000 ∧ 0 ≤ hiB n lines ∧ hiB n lines ≤ 200000 := by
 have hM : Bd (srt (degS n lines)) 1152 := (degS_bd (W := 9) fun l hm => ⟨Nat.le_trans (hl l hm).len hn, fun c hc => by have := (hl l hm).2.2 c hc; omega⟩).srt.mono (by omega)
 have hlen : (srt (degS n lines)).length = n := by rw [srt_length, jW]
 unfold loB hiB loS hiS
 generalize srt (degS n lines) = d at *
 have hf1 : ∀ j, j < d.length → 0 ≤ (j : Int) + 1 ∧ (j : Int) + 1 ≤ ((9 : Nat) : Int) := fun j hj => by omega
 have hf2 : ∀ j, j < d.length → 0 ≤ (d.length : Int) - j ∧ (d.length : Int) - j ≤ ((9 : Nat) : Int) := fun j hj => by omega
 obtain ⟨w1, w2⟩ := wsum_bd hM hf1 d.length (Nat.le_refl _)
 obtain ⟨w3, w4⟩ := wsum_bd hM hf2 d.length (Nat.le_refl _)
 obtain ⟨q1, q2⟩ := quo_bd (a := wsum (fun i => (d.length : Int) - i) d d.length + lines.length - 1) (by omega) h0
 obtain ⟨q3, q4⟩ := quo_bd (a := wsum (fun i => (i : Int) + 1) d d.length) (by omega) h0
 refine ⟨q1, ?_, q3, ?_⟩ <;> (have : d.length ≤ 9 := by omega) <;> omega
def stpC (k : Nat) (_ : List Int) : Nat × Bool := (k + 1, true)
theorem foldC : ∀ (l : List (List Int)) (k : Nat), jZ stpC k l = (k + l.length, true)
 | [], k => rfl
 | x :: l, k => by
  show jZ stpC (k + 1) l = _
  rw [foldC l, List.length_cons]
  congr 1; omega
def F113.LC (tm : T AV) (b7 id : Pa) (X : List Ob) (_ : Bool) (k : Nat) (L : List Ob) : Prop := L = .raw id (.loop .ready .none tm [.of 10] F113.b9 F113.b10) :: .arr b7 [I (wrapN k)] :: X
theorem F113.yc {h0 : T Blk} {n : Nat} {lines : List (List Int)} {s : Int} {b7 id : Pa} {X : List Ob} {x0 x1 x2 x3 x4 x5 x6 x8 x9 x10 x11 : AV} (f bu bf be bp bg : Pa) : YC B h0 n lines s f bu bf be bp bg id (F113.LC (F113.fr x0 x1 x2 x3 x4 x5 x6 (.ptr b7 0) x8 x9 x10 x11) b7 id X) stpC := by
 rintro k fl m h nx K L hfl hrg rfl H hK
 refine by_round (fns := tbl) dreg 100 fun hf => ?_
 rw [F113.y10 (getLoop H (k := 6) rfl) rfl]
 have H1 := H.setRaw (k := 6) rfl (b' := .loop .busy .none (F113.fr x0 x1 x2 x3 x4 x5 x6 (.ptr b7 0) x8 x9 x10 x11) [.of 10] F113.b9 F113.b10) (by intro e; cases e)
 rw [H1.load (k := 7) (i := 0) rfl rfl, sAddW, wrapN_succ]
 refine H1.store (k := 7) rfl (by simp) rfl fun h2 H2 => ?_
 refine H2.rend (k := 6) rfl fun h3 H3 => ?_
 exact hK _ _ _ rfl H3
theorem spectrum113 {n : Nat} {lines : List (List Int)} (hj : ∀ B, JOk Tryz.prog B hookS) (h0 : 0 < lines.length) (hn9 : n ≤ 9) (hm : lines.length ≤ 128) (hl : ∀ l ∈ lines, AscL n l ∧ l.length ≤ 1000) : Pure Tryz.prog B 113 [.agg [I n, encT lines]] (· = encP (spV lines n (loB n lines) (hiB n lines + 1 - loB n lines).toNat)) := by
 refine yV fun h nx K H0 hK => zP zZ dreg 100000000 fun hf => ?_
 obtain ⟨d1, d2, d3, d4⟩ := bnd_bd h0 hn9 hm fun l h => (hl l h).1
 rw [F113.go]
 refine H0.box (l := [I n, encT lines]) rfl fun bx h1 nx1 H1 => ?_
 rw [H1.loadN (k := 0) (n := 2) rfl rfl]
 refine bounds83 hj h0 (by omega) hm (fun l h => ⟨(hl l h).2, (hl l h).1.2.2⟩) _ _ _ _ ?_
 rintro _ rfl _
 unfold bndV
 simp only [yD, yA]
 rw [show (loS (srt (degS n lines)) + lines.length - 1).tdiv lines.length = loB n lines from rfl, show (hiS (srt (degS n lines))).tdiv lines.length = hiB n lines from rfl]
 generalize loB n lines = lo at *
 generalize hiB n lines = hi at *
 have hcnt : ∀ s, cntS lines n s ≤ 1000000000 := fun s => Nat.le_trans (enum_len n []) (Nat.le_trans (Nat.pow_le_pow_left hn9 n) (Nat.le_trans (Nat.pow_le_pow_right (by omega) hn9) (by decide)))
 refine F113.L1 (fun m x3 x6 x10 x11 h' nx' => ∃ (i : Nat) (o : Option Pa) (X : List Ob), x6 = I (lo + i) ∧ m = (hi + 1 - lo).toNat - i ∧ i ≤ (hi + 1 - lo).toNat ∧ x3 = rowV o 2 (spV lines n lo i).length ∧ Hp h h' nx' (.gro o 2 (spV lines n lo i).length (flat2 (spV lines n lo i)) :: .arr bx [I n, encT lines] :: X)) (m := (hi + 1 - lo).toNat) (by omega)
  ⟨0, none, [], by simp, by omega, by omega, rfl, H1.addGro 2⟩ ?_
 rintro m x3 x6 x7 x8 x9 x10 x11 h2 nx2 R ⟨i, o, X, rfl, rfl, hi', rfl, H2⟩ hR
 simp only [sLeq]
 have hsl := spV_len lines n lo i
 by_cases hlt : lo + i ≤ hi
 case neg =>
  simp only [hlt, decide_false, zB]
  rw [F113.k14]
  obtain rfl : i = (hi + 1 - lo).toNat := by omega
  exact hK _ _ _ _ _ H2 (H2.frzGro (k := 0) rfl fixd_flat2) rfl
 simp only [hlt, decide_true, zC]
 refine H2.alloc fun b7 h3 nx3 H3 => ?_
 refine H3.store (k := 0) rfl (by simp) rfl fun h4 H4 => ?_
 rw [H4.loadN (k := 2) (n := 2) rfl rfl]
 refine normal107 _ _ _ _ ?_
 rintro _ rfl _
 have H4' : Hp h h4 nx3 (.arr b7 [I (wrapN 0)] :: .gro o 2 (spV lines n lo i).length (flat2 (spV lines n lo i)) :: .arr bx [I n, encT lines] :: X) := H4
 refine H4'.rf (g := 136) (p := .of 136) (cap := [.fp [I n, encT lines], .fp [I (lo + i)]]) rfl fun id h5 nx5 H5 => ?_
 refine normal136 (LC := F113.LC _ b7 id (.gro o 2 (spV lines n lo i).length (flat2 (spV lines n lo i)) :: .arr bx [I n, encT lines] :: X)) (stp := stpC) (st := 0) hn9 (by omega) hl (by omega) (fun f bu bf be bp bg => F113.yc f bu bf be bp bg) rfl H5 fun h6 nx6 L' hL' H6 => ?_
 rw [foldC] at hL'
 simp only [Nat.zero_add] at hL'
 unfold F113.LC at hL'
 subst hL'
 refine H6.rfEnd fun h7 H7 => ?_
 show Ev.rfEnd _ _ .ready .none _ h7 nx6 = _
 rw [rfEnd_on, F113.k12, H7.load (k := 0) (i := 0) rfl rfl]
 have hwc : wrapN (jD lines (lo + (i : Int)) n n []).length = ((cntS lines n (lo + i) : Nat) : Int) := uL (by have : (jD lines (lo + (i : Int)) n n []).length ≤ 1000000000 := hcnt (lo + i); omega)
 rw [hwc]
 have hC := hcnt (lo + i)
 simp only [sGtr]
 have e1 : lo + (i : Int) + 1 = lo + ((i + 1 : Nat) : Int) := by omega
 by_cases c : 0 < cntS lines n (lo + i)
 ·simp only [show (0 : Int) < ((cntS lines n (lo + i) : Nat) : Int) by omega, decide_true, zC]
  rw [H7.load (k := 0) (i := 0) rfl rfl, hwc]
  have eb : ∀ (x y : Int) (K' : AV → OP), sBuild [(I 0), (I 0)] [(0, 1, I x), (1, 1, I y)] K' = K' (.agg [I x, I y]) := fun x y K' => nr rfl
  rw [eb]
  refine H7.bslice (l := [I (lo + i), I (cntS lines n (lo + i))]) rfl fun b8 h8 nx8 H8 => ?_
  refine H8.appN (k := 2) (o := o) (c := 1) (new := [I (lo + i), I (cntS lines n (lo + i))]) rfl (HasArr.rd (l := [I (lo + i), I (cntS lines n (lo + i))]) (n := 1) (e := 2) (H8.own _ (List.mem_cons_self ..)) rfl) rfl rfl (by decide) (by decide) (by omega) fun o' h9 nx9 _ H9 => ?_
  rw [F113.k13, sAdd (by omega), e1]
  have es : spV lines n lo (i + 1) = spV lines n lo i ++ [(lo + (i : Int), ((cntS lines n (lo + i) : Nat) : Int))] := by
   rw [spV_succ, spF, if_pos c]; rfl
  have H10 := H9.drop.drop
  refine hR _ _ _ _ _ _ _ _ _ _ (by omega) ⟨i + 1, o', X, rfl, rfl, by omega, by rw [es]; simp, H10.cast ?_⟩
  rw [es, flat2_app]
  simp [flat2]
 ·simp only [show ¬ (0 : Int) < ((cntS lines n (lo + i) : Nat) : Int) by omega, decide_false, zB]
  rw [F113.k13, sAdd (by omega), e1]
  have es : spV lines n lo (i + 1) = spV lines n lo i := by
   rw [spV_succ, spF, if_neg c]; simp
  refine hR _ _ _ _ _ _ _ _ _ _ (by omega) ⟨i + 1, o, X, rfl, rfl, by omega, by rw [es], ?_⟩
  rw [es]
  exact H7.drop
end Go.Ev
namespace Go.Ev
open Go Go.Proofs
variable {B : Nat}
end Go.Ev
namespace Go.Ev
open Go Go.Proofs
variable {B : Nat}
theorem sAx1 {K : AV → OP} {id : Pa} {off : Nat} : yY 1 2 (.ptr id off) (I 1) K = K (.ptr id (off + 1)) := by
 show (bif Nat.ble (1 + 1) 2 then natK (off + 1 * 1) (fun o => K (.ptr id o)) else .no 14) = _
 rw [Nat.ble_eq_true_of_le (by omega), yN]; simp
end Go.Ev
namespace Go.Ev
open Go Go.Proofs
variable {B : Nat}
variable {n : Nat} {lines : List (List Int)} {us : Pa} {h0 : T Blk} {M : List Ob}
end Go.Ev
namespace Go.Ev
def dot : List Int → List Int → Int
 | x :: xs, y :: ys => x * y + dot xs ys
 | _, _ => 0
theorem dot_zip : ∀ (xs ys : List Int), dot xs ys = ((xs.zip ys).map fun p => p.1 * p.2).sum
 | [], ys => rfl
 | _ :: _, [] => rfl
 | x :: xs, y :: ys => by rw [dot, dot_zip xs ys]; rfl
theorem isum_perm {l l' : List Int} (h : l.Perm l') : l.sum = l'.sum := by
 induction h with
 | nil => rfl
 | cons x _ ih => rw [List.sum_cons, List.sum_cons, ih]
 | swap x y l => simp only [List.sum_cons]; omega
 | trans _ _ i1 i2 => exact i1.trans i2
def insI (y : Int) : List Int → List Int
 | [] => [y]
 | z :: zs => if y ≤ z then y :: z :: zs else z :: insI y zs
theorem insI_perm (y : Int) : ∀ zs : List Int, (insI y zs).Perm (y :: zs)
 | [] => .refl _
 | z :: zs => by
  rw [insI]
  split
  ·exact .refl _
  ·exact ((insI_perm y zs).cons z).trans (.swap _ _ _)
theorem insI_asc (y : Int) : ∀ {zs : List Int}, zs.Pairwise (· ≤ ·) → (insI y zs).Pairwise (· ≤ ·)
 | [], _ => by simp [insI]
 | z :: zs, h => by
  obtain ⟨h1, h2⟩ := List.pairwise_cons.1 h
  rw [insI]
  split
  ·rename_i c
   refine List.pairwise_cons.2 ⟨fun a ha => ?_, h⟩
   rcases List.mem_cons.1 ha with rfl | ha
   ·exact c
   ·have := h1 a ha; omega
  ·refine List.pairwise_cons.2 ⟨fun a ha => ?_, insI_asc y h2⟩
   rcases List.mem_cons.1 ((insI_perm y zs).mem_iff.1 ha) with rfl | ha
   ·omega
   ·exact h1 a ha
theorem dot_ins (y : Int) : ∀ (zs xs : List Int) (x : Int), (x :: xs).Pairwise (· ≤ ·) → xs.length = zs.length → dot (x :: xs) (y :: zs) ≤ dot (x :: xs) (insI y zs)
 | [], xs, x, _, _ => by rw [insI]; omega
 | z :: zs, [], x, _, h => by simp at h
 | z :: zs, x1 :: xs, x, hp, hl => by
  obtain ⟨h1, h2⟩ := List.pairwise_cons.1 hp
  rw [insI]
  split
  ·omega
  ·have ih := dot_ins y zs xs x1 h2 (by simpa using hl)
   have hx := h1 x1 (by simp)
   have hm : 0 ≤ (x1 - x) * (y - z) := Int.mul_nonneg (by omega) (by omega)
   have e : (x1 - x) * (y - z) = x1 * y - x1 * z - x * y + x * z := by
    rw [Int.sub_mul, Int.mul_sub, Int.mul_sub]; omega
   simp only [dot] at ih ⊢
   omega
def isrt : List Int → List Int
 | [] => []
 | y :: ys => insI y (isrt ys)
theorem isrt_perm : ∀ l : List Int, (isrt l).Perm l
 | [] => .refl _
 | y :: ys => (insI_perm y _).trans ((isrt_perm ys).cons y)
theorem isrt_asc : ∀ l : List Int, (isrt l).Pairwise (· ≤ ·)
 | [] => .nil
 | y :: ys => insI_asc y (isrt_asc ys)
theorem dot_isrt : ∀ (ys xs : List Int), xs.Pairwise (· ≤ ·) → xs.length = ys.length → dot xs ys ≤ dot xs (isrt ys)
 | [], xs, _, _ => by rw [isrt]; omega
 | y :: ys, [], _, h => by simp at h
 | y :: ys, x :: xs, hp, hl => by
  have ih := dot_isrt ys xs (List.pairwise_cons.1 hp).2 (by simpa using hl)
  have := dot_ins y (isrt ys) xs x hp (by rw [(isrt_perm ys).length_eq]; simpa using hl)
  rw [isrt]
  simp only [dot] at this ⊢
  omega
theorem dot_le (d f : List Int) (h : d.length = f.length) : dot d f ≤ dot (srt d) (srt f) := by
 let ps := (d.zip f).mergeSort fun a b => decide (a.1 ≤ b.1)
 have hp : ps.Perm (d.zip f) := List.mergeSort_perm _ _
 have hs : ps.Pairwise fun a b => a.1 ≤ b.1 := (List.pairwise_mergeSort (le := fun a b : Int × Int => decide (a.1 ≤ b.1)) (by intro a b c; simp; omega) (by intro a b; simp; omega) (d.zip f)).imp (by intro a b h; simpa using h)
 have e1 : ps.map (·.1) = srt d := srt_unique (by
  have := hp.map (·.1)
  rwa [List.map_fst_zip (by omega)] at this) (List.pairwise_map.2 hs)
 have p2 : (ps.map (·.2)).Perm f := by
  have := hp.map (·.2)
  rwa [List.map_snd_zip (by omega)] at this
 have e3 : dot d f = dot (ps.map (·.1)) (ps.map (·.2)) := by
  have hz : ∀ l : List (Int × Int), dot (l.map (·.1)) (l.map (·.2)) = (l.map fun p => p.1 * p.2).sum := by
   intro l
   induction l with
   | nil => rfl
   | cons p l ih => rw [List.map_cons, List.map_cons, dot, ih]; rfl
  rw [hz, dot_zip]
  exact (isum_perm (hp.map _)).symm
 have hle := dot_isrt (ps.map (·.2)) (ps.map (·.1)) (List.pairwise_map.2 hs) (by simp)
 rw [e3]
 have e4 : isrt (ps.map (·.2)) = srt f := srt_unique ((isrt_perm _).trans p2) (isrt_asc _)
 rw [e4, e1] at hle
 rw [e1]; exact hle
theorem dot_wsum (g : Nat → Int) (d : List Int) : ∀ i, i ≤ d.length → dot (d.take i) ((List.range i).map g) = wsum g d i
 | 0, _ => by simp [dot, wsum]
 | i + 1, h => by
  have hx : d[i]? = some d[i] := List.getElem?_eq_getElem h
  have app : ∀ (xs ys : List Int) (x y : Int), xs.length = ys.length → dot (xs ++ [x]) (ys ++ [y]) = dot xs ys + x * y := by
   intro xs
   induction xs with
   | nil => intro ys x y h; obtain rfl : ys = [] := List.eq_nil_of_length_eq_zero h.symm; simp [dot]
   | cons a xs ih =>
    intro ys x y h
    cases ys with
    | nil => simp at h
    | cons b ys => rw [List.cons_append, List.cons_append, dot, ih ys x y (by simpa using h), dot]; omega
  rw [List.range_succ, List.map_append, List.take_add_one, hx]
  show dot (d.take i ++ [d[i]]) (_ ++ [g i]) = _
  rw [app _ _ _ _ (by simp; omega), dot_wsum g d i (by omega), wsum, List.getD_eq_getElem?_getD, hx]; rfl
theorem dot_compl (N : Int) : ∀ (d f : List Int), d.length = f.length → dot d (f.map fun x => N - x) = N * d.sum - dot d f
 | [], [], _ => by simp [dot]
 | [], _ :: _, h => by simp at h
 | _ :: _, [], h => by simp at h
 | x :: d, y :: f, h => by
  rw [List.map_cons, dot, dot, dot_compl N d f (by simpa using h), List.sum_cons, Int.mul_sub, Int.mul_add, Int.mul_comm x N]; omega
theorem dot_set : ∀ (d f : List Int) (k : Nat) (v : Int), k < d.length → d.length = f.length → dot (d.set k v) f = dot d f + (v - d.getD k 0) * f.getD k 0
 | [], _, _, _, h, _ => by simp at h
 | _ :: _, [], _, _, _, h => by simp at h
 | x :: d, y :: f, 0, v, _, _ => by
  simp only [List.set_cons_zero, dot, List.getD_cons_zero, Int.sub_mul]; omega
 | x :: d, y :: f, k + 1, v, h, h2 => by
  simp only [List.set_cons_succ, dot, List.getD_cons_succ, dot_set d f k v (by simpa using h) (by simpa using h2)]; omega
theorem dot_line : ∀ (l d f : List Int), (∀ c ∈ l, c.toNat < d.length) → d.length = f.length → dot (l.foldl incr d) f = dot d f + yL l f
 | [], d, f, _, _ => by simp [yL]
 | c :: l, d, f, h, hl => by
  rw [List.foldl_cons, dot_line l (incr d c) f (fun x hx => by rw [incr_length]; exact h x (by simp [hx])) (by rw [incr_length]; exact hl), incr, dot_set _ _ _ _ (h c (by simp)) hl]
  have e : d.getD c.toNat 0 + 1 - d.getD c.toNat 0 = 1 := by omega
  rw [e]
  simp only [yL, List.map_cons, List.sum_cons]; omega
theorem dot_deg {n : Nat} {lines : List (List Int)} {f : List Int} (hl : ∀ l ∈ lines, AscL n l) (hf : f.length = n) : dot (degS n lines) f = (lines.map fun l => yL l f).sum := by
 have key : ∀ (ls : List (List Int)) (d : List Int), (∀ l ∈ ls, AscL n l) → d.length = n → dot (ls.foldl (fun d l => l.foldl incr d) d) f = dot d f + (ls.map fun l => yL l f).sum := by
  intro ls
  induction ls with
  | nil => intro d _ _; simp
  | cons l ls ih =>
   intro d h hd
   rw [List.foldl_cons, ih _ (fun x hx => h x (by simp [hx])) (by rw [gN]; exact hd), dot_line l d f (fun c hc => by have := (h l (by simp)).2.2 c hc; omega) (by omega)]
   simp only [List.map_cons, List.sum_cons]; omega
 rw [degS, key lines _ hl (by simp)]
 have : ∀ (k : Nat) (f : List Int), dot (List.replicate k 0) f = 0 := by
  intro k
  induction k with
  | zero => intro f; rfl
  | succ k ih =>
   intro f
   cases f with
   | nil => rfl
   | cons y f => rw [List.replicate_succ, dot, ih]; simp
 rw [this]; omega
theorem sum_all {lines : List (List Int)} {f : List Int} {s : Int} (h : ∀ l ∈ lines, yL l f = s) : (lines.map fun l => yL l f).sum = lines.length * s := by
 induction lines with
 | nil => simp
 | cons l ls ih =>
  rw [List.map_cons, List.sum_cons, h l (by simp), ih fun x hx => h x (by simp [hx]), List.length_cons, Int.natCast_add, Int.add_mul]; simp; omega
theorem sum_bounds {n : Nat} {lines : List (List Int)} {f : List Int} {s : Int} (h0 : 0 < lines.length) (hl : ∀ l ∈ lines, AscL n l) (hf : f.length = n) (hn : Nrm f) (hs : ∀ l ∈ lines, yL l f = s) :
  (lines.length : Int) * s ≤ wsum (fun i => (i : Int) + 1) (srt (degS n lines)) n ∧ wsum (fun i => (n : Int) - i) (srt (degS n lines)) n ≤ lines.length * s := by
 have e := dot_deg hl hf
 rw [sum_all hs] at e
 have hdl : (degS n lines).length = n := jW n lines
 generalize hd : degS n lines = d at *
 have hsl : (srt d).length = n := by rw [srt_length]; exact hdl
 have e1 : srt f = upTo n := by rw [(nrm_iff f).2 hn, hf]
 have w1 : dot (srt d) (upTo n) = wsum (fun i => (i : Int) + 1) (srt d) n := by
  have := dot_wsum (fun i => (i : Int) + 1) (srt d) n (by omega)
  rwa [List.take_of_length_le (by omega)] at this
 have w2 : dot (srt d) ((List.range n).map fun (i : Nat) => (n : Int) - i) = wsum (fun i => (n : Int) - i) (srt d) n := by
  have := dot_wsum (fun i => (n : Int) - i) (srt d) n (by omega)
  rwa [List.take_of_length_le (by omega)] at this
 have hup : (srt d).sum = d.sum := isum_perm (srt_perm d)
 have e2 : (List.range n).map (fun (i : Nat) => (n : Int) - i) = (upTo n).map fun x => ((n : Int) + 1) - x := by
  rw [List.map_map]
  exact List.map_congr_left fun i _ => by simp; omega
 constructor
 ·have := dot_le d f (by omega)
  rw [e1, w1] at this
  omega
 ·have hg : Nrm (f.map fun x => ((n : Int) + 1) - x) := by
   refine ⟨List.pairwise_map.2 (hn.1.imp fun {a b} q e => q (by omega)), fun x hx => ?_⟩
   obtain ⟨y, hy, rfl⟩ := List.mem_map.1 hx
   have := hn.2 y hy
   rw [List.length_map]; omega
  have e3 : srt (f.map fun x => ((n : Int) + 1) - x) = upTo n := by rw [(nrm_iff _).2 hg, List.length_map, hf]
  have := dot_le d (f.map fun x => ((n : Int) + 1) - x) (by simp; omega)
  rw [e3, dot_compl _ _ _ (by omega)] at this
  have c2 := dot_compl ((n : Int) + 1) (srt d) (upTo n) (by simp; omega)
  rw [← e2, w2, hup] at c2
  omega
theorem tdiv_le {a s : Int} {m : Nat} (hm : 0 < m) (ha : 0 ≤ a) (h : (m : Int) * s ≤ a) : s ≤ a.tdiv m := by
 rw [Int.tdiv_eq_ediv_of_nonneg ha]
 exact (Int.le_ediv_iff_mul_le (by omega)).2 (by rw [Int.mul_comm]; exact h)
theorem le_tdiv {a s : Int} {m : Nat} (hm : 0 < m) (ha : 0 ≤ a) (h : a ≤ m * s) : (a + m - 1).tdiv m ≤ s := by
 rw [Int.tdiv_eq_ediv_of_nonneg (by omega)]
 have : (a + m - 1) / (m : Int) < s + 1 := (Int.ediv_lt_iff_lt_mul (by omega)).2 (by rw [Int.add_mul, Int.mul_comm s]; omega)
 omega
end Go.Ev
namespace Go.Ev
open Go Go.Proofs
variable {B : Nat}
theorem bounds26 {cells : Nat} {lines : List (List Int)} (hj : ∀ B, JOk Tryz.prog B hookS) (hw : ∀ q ∈ lines, q.length ≤ 1000) (hs : yR cells lines = 0) (h0 : 0 < lines.length) : Pure Tryz.prog B 26 [.agg [I cells, encT lines]] (fun v => ∃ a b, bndV cells lines = .tup [a, b] ∧ v = .tup [a, b, I 0]) := by
 obtain ⟨n, hn, g1, g2, g3, g4⟩ := sys_ok hs
 obtain rfl : cells = n := by omega
 have hw6 : ∀ q ∈ lines, q.length ≤ 1000000 := fun q hq => Nat.le_trans (hw q hq) (by omega)
 refine yV fun h nx K H0 hK => zP zZ dreg 1000 fun hf => ?_
 rw [F26.go]
 refine H0.box (l := [I cells, encT lines]) rfl fun bx h1 nx1 H1 => ?_
 rw [H1.loadN (k := 0) (n := 2) rfl rfl, sFx, H1.load (k := 0) (i := 0 + 1) rfl rfl]
 simp only [zF, sEql]
 refine sys81 hw6 _ _ _ _ ?_
 rintro _ rfl _
 simp only [zD, zF]
 rw [H1.load (k := 0) (i := 0 + 1) rfl rfl]
 simp only [zD, sFx, zF]
 refine whenB82 _ _ _ _ _ _ ?_
 rintro _ rfl _
 refine H1.bslice (l := [I (yR cells lines), I (if decide ((lines.length : Int) = 0) then 12 else 0)]) rfl fun id h4 nx4 H4 => ?_
 refine own_plain (l := [yR cells lines, if decide ((lines.length : Int) = 0) then 12 else 0]) H4 (k := 0) rfl (fun B => first80 (by simp)) (fun v hv => by rw [hv]; exact .int _ _) ?_
 rintro _ rfl
 have ef : jT [yR cells lines, if decide ((lines.length : Int) = 0) then 12 else 0] = 0 := by
  have : ¬ (lines.length : Int) = 0 := by omega
  have h2 : lines ≠ [] := by intro q; simp [q] at h0
  simp [jT, hs, h2]
 rw [ef]
 simp only [sNeq, decide_true, Bool.not_true, zB]
 rw [H4.loadN (k := 1) (n := 2) rfl rfl]
 refine bounds83 hj h0 (by omega) (by omega) (fun l hl => ⟨hw l hl, (g4 l hl).2.2⟩) _ _ _ _ ?_
 rintro _ rfl _
 unfold bndV
 simp only [yD, yA]
 exact hK _ _ _ _ _ H4 (frz_tup3 (yB rfl) (yB rfl) (yB rfl)) ⟨_, _, rfl, rfl⟩
end Go.Ev
namespace Go.Ev
open Go Go.Proofs
variable {B : Nat}
theorem cnt_bd {n : Nat} {lines : List (List Int)} {s : Int} (h0 : 0 < lines.length) (hl : ∀ l ∈ lines, AscL n l) (hc : 0 < cntS lines n s) : loB n lines ≤ s ∧ s ≤ hiB n lines := by
 obtain ⟨f, hf⟩ : ∃ f, f ∈ jD lines s n n [] := by
  unfold cntS at hc
  exact List.exists_mem_of_length_pos hc
 obtain ⟨⟨f1, f2⟩, f3⟩ := (enumN_iff hl).1 hf
 obtain ⟨b1, b2⟩ := sum_bounds h0 hl f1 f2 f3
 have hM : Bd (srt (degS n lines)) (lines.length * n) := (degS_bd (W := n) fun l hm => ⟨(hl l hm).len, fun c hc => by have := (hl l hm).2.2 c hc; omega⟩).srt
 have hlen : (srt (degS n lines)).length = n := by rw [srt_length, jW]
 unfold loB hiB loS hiS
 rw [hlen]
 generalize srt (degS n lines) = d at *
 have w1 := wsum_bd (F := n) hM (f := fun i => (i : Int) + 1) (n := n) (fun j hj => by omega) n (Nat.le_refl _)
 have w2 := wsum_bd (F := n) hM (f := fun i => (n : Int) - i) (n := n) (fun j hj => by omega) n (Nat.le_refl _)
 exact ⟨le_tdiv h0 w2.1 b2, tdiv_le h0 w1.1 b1⟩
def spL (n : Nat) (lines : List (List Int)) : List (Int × Int) := spV lines n (loB n lines) (hiB n lines + 1 - loB n lines).toNat
theorem spL_def (n : Nat) (lines : List (List Int)) : spV lines n (loB n lines) (hiB n lines + 1 - loB n lines).toNat = spL n lines := rfl
theorem factF_le {n : Nat} (h : n ≤ 9) : factF n ≤ 362880 := by
 have : n = 0 ∨ n = 1 ∨ n = 2 ∨ n = 3 ∨ n = 4 ∨ n = 5 ∨ n = 6 ∨ n = 7 ∨ n = 8 ∨ n = 9 := by omega
 rcases this with rfl | rfl | rfl | rfl | rfl | rfl | rfl | rfl | rfl | rfl <;> decide
theorem enumF_len {n : Nat} {lines : List (List Int)} (hn : n ≤ 9) (hl : ∀ l ∈ lines, AscL n l) : (enumF lines n).length ≤ 362880 := by
 rw [enumF_perms hl]
 refine Nat.le_trans (List.length_filter_le _ _) ?_
 rw [perms_len (by simp) (by simp) (by simp)]
 exact factF_le hn
theorem enumF_nil (n : Nat) : (enumF [] n).length = factF n := by
 have e : (perms n n []).filter (fun f => agF f [] none) = perms n n [] := List.filter_eq_self.2 fun f _ => rfl
 rw [enumF_perms (by simp), e, perms_len (by simp) (by simp) (by simp)]
theorem spL_eq {n : Nat} {lines : List (List Int)} (h0 : 0 < lines.length) (hn : n ≤ 9) (hl : ∀ l ∈ lines, AscL n l) : specF lines (enumF lines n) = spL n lines := by
 cases lines with
 | nil => simp at h0
 | cons l ls =>
  refine spec_eq hl (Nat.le_trans (enumF_len hn hl) (by omega)) fun s hs => ?_
  have := cnt_bd h0 hl hs
  omega
theorem spL_sum {n : Nat} {lines : List (List Int)} (h0 : 0 < lines.length) (hn : n ≤ 9) (hl : ∀ l ∈ lines, AscL n l) : sumP (spL n lines) = (enumF lines n).length := by
 rw [← spL_eq h0 hn hl]
 cases lines with
 | nil => simp at h0
 | cons l ls => exact sumP_spec (Nat.le_trans (enumF_len hn hl) (by omega))
theorem spL_pos {n : Nat} {lines : List (List Int)} : ∀ p ∈ spL n lines, 0 < p.2 := fun p hp => by have := spV_mem.1 hp; omega
theorem sumP_pos : ∀ {q : List (Int × Int)}, (∀ p ∈ q, 0 < p.2) → 0 ≤ sumP q
 | [], _ => by simp [sumP]
 | p :: q, h => by
  have := h p (by simp)
  have := sumP_pos (q := q) fun x hx => h x (by simp [hx])
  unfold sumP at this ⊢
  rw [List.map_cons, List.sum_cons]; omega
theorem sumP_app (a b : List (Int × Int)) : sumP (a ++ b) = sumP a + sumP b := by simp [sumP]
theorem sumP_take {q : List (Int × Int)} (h : ∀ p ∈ q, 0 < p.2) (i : Nat) : 0 ≤ sumP (q.take i) ∧ sumP (q.take i) ≤ sumP q := by
 have e := sumP_app (q.take i) (q.drop i)
 rw [List.take_append_drop] at e
 have h1 := sumP_pos fun p hp => h p (List.mem_of_mem_take (i := i) hp)
 have h2 := sumP_pos fun p hp => h p (List.mem_of_mem_drop (i := i) hp)
 omega
def spErr (cells : Int) (lines : List (List Int)) : Int := if smErr cells lines ≠ 0 then smErr cells lines else if lines.length = 0 then 12 else 0
theorem spectrum63 {cells : Int} {lines : List (List Int)} (hj : ∀ B, JOk Tryz.prog B hookS) (hw : ∀ q ∈ lines, q.length ≤ 1000) : Pure Tryz.prog B 63 [.agg [I cells, encT lines]] (· = if spErr cells lines ≠ 0 then .tup [.nils, I (spErr cells lines)] else .tup [encP (spL cells.toNat lines), I 0]) := by
 refine yV fun h nx K H0 hK => zP zZ dreg 1000 fun hf => ?_
 have hw6 : ∀ q ∈ lines, q.length ≤ 1000000 := fun q hq => Nat.le_trans (hw q hq) (by omega)
 rw [F63.go]
 refine H0.box (l := [I cells, encT lines]) rfl fun bx h1 nx1 H1 => ?_
 rw [H1.loadN (k := 0) (n := 2) rfl rfl, sFx, H1.load (k := 0) (i := 0 + 1) rfl rfl]
 simp only [zF, sEql]
 refine small106 hw6 _ _ _ _ ?_
 rintro _ rfl _
 simp only [zD, zF]
 rw [H1.load (k := 0) (i := 0 + 1) rfl rfl]
 simp only [zD, sFx, zF]
 refine whenB82 _ _ _ _ _ _ ?_
 rintro _ rfl _
 refine H1.bslice (l := [I (smErr cells lines), I (if decide ((lines.length : Int) = 0) then 12 else 0)]) rfl fun id h4 nx4 H4 => ?_
 refine own_plain (l := [smErr cells lines, if decide ((lines.length : Int) = 0) then 12 else 0]) H4 (k := 0) rfl (fun B => first80 (by simp)) (fun v hv => by rw [hv]; exact .int _ _) ?_
 rintro _ rfl
 have ef : jT [smErr cells lines, if decide ((lines.length : Int) = 0) then 12 else 0] = spErr cells lines := by
  by_cases c : smErr cells lines = 0
  ·by_cases c2 : lines.length = 0
   ·simp [jT, spErr, c, c2]
   ·have : ¬ (lines.length : Int) = 0 := by omega
    simp [jT, spErr, c, c2]
  ·simp [jT, spErr, c]
 rw [ef]
 by_cases he : spErr cells lines = 0
 case neg =>
  rw [if_pos he] at hK
  simp only [sNeq, he, decide_false, Bool.not_false, zC]
  exact hK _ _ _ _ _ H4 (uN (yB rfl) (yB rfl)) rfl
 rw [if_neg (by simp [he])] at hK
 simp only [sNeq, he, decide_true, Bool.not_true, zB]
 have hse : smErr cells lines = 0 := by
  by_cases c : smErr cells lines = 0
  ·exact c
  ·rw [spErr, if_pos c] at he; exact absurd he c
 have h0 : 0 < lines.length := by
  by_cases c : lines.length = 0
  ·rw [spErr, if_neg (by simp [hse]), if_pos c] at he; cases he
  ·omega
 have hs : yR cells lines = 0 := by
  by_cases c : yR cells lines = 0
  ·exact c
  ·rw [smErr_eq, if_pos c] at hse; exact absurd hse c
 have c9 : ¬ 9 < cells := by
  intro c
  rw [smErr_eq, if_neg (by simp [hs]), if_pos c] at hse; cases hse
 obtain ⟨n, rfl, g1, g2, g3, g4⟩ := sys_ok hs
 rw [H4.loadN (k := 1) (n := 2) rfl rfl]
 refine spectrum113 hj h0 (by omega) (by omega) (fun l hl => ⟨g4 l hl, hw l hl⟩) _ _ _ _ ?_
 rintro _ rfl _
 rw [Int.toNat_natCast, ← spL_def] at hK
 exact hK _ _ _ _ _ H4 (uN (yB (fixd_encP _)) (yB rfl)) rfl
theorem sMul2 {a b : Nat} {K : AV → OP} (h : a * b ≤ 9223372036854775807) : sBin .mul .int (I (a : Int)) (I (b : Int)) K = K (I ((a * b : Nat) : Int)) := by
 rw [sMul (by rw [← Int.natCast_mul]; omega), Int.natCast_mul]
theorem total64 {n : Nat} {lines : List (List Int)} (hj : ∀ B, JOk Tryz.prog B hookS) (hw : ∀ q ∈ lines, q.length ≤ 1000) (he : smErr n lines = 0) (hs : yR n lines = 0) (hn9 : n ≤ 9) : Pure Tryz.prog B 64 [.agg [I n, encT lines]] (· = .tup [I ((enumF lines n).length : Int), I 0]) := by
 obtain ⟨n', hn, g1, g2, g3, g4⟩ := sys_ok hs
 obtain rfl : n = n' := by omega
 refine yV fun h nx K H0 hK => zP zZ dreg 100000000 fun hf => ?_
 have hw6 : ∀ q ∈ lines, q.length ≤ 1000000 := fun q hq => Nat.le_trans (hw q hq) (by omega)
 rw [F64.go]
 refine H0.box (l := [I n, encT lines]) rfl fun bx h1 nx1 H1 => ?_
 rw [H1.loadN (k := 0) (n := 2) rfl rfl]
 refine small106 hw6 _ _ _ _ ?_
 rintro _ rfl _
 rw [he]
 simp only [sNeq, decide_true, Bool.not_true, zB, sFx]
 rw [H1.load (k := 0) (i := 0 + 1) rfl rfl]
 simp only [zF, sEql]
 by_cases h0 : lines.length = 0
 ·obtain rfl : lines = [] := List.eq_nil_of_length_eq_zero h0
  simp only [List.length_nil, show ((0 : Nat) : Int) = 0 from rfl, decide_true, zC]
  rw [enumF_nil] at hK
  refine F64.L2 (fun m z5 z6 h' nx' => ∃ k : Nat, z5 = I (factF (k + 1) : Nat) ∧ z6 = I ((k + 2 : Nat) : Int) ∧ m = n - (k + 1) ∧ k + 1 ≤ n ∧ h' = h1 ∧ nx' = nx1) (m := n - 1) (by omega) ⟨0, rfl, rfl, rfl, by omega, rfl, rfl⟩ ?_
  rintro m z5 z6 z11 h2 nx2 R ⟨k, rfl, rfl, rfl, hk, rfl, rfl⟩ hR
  rw [sFx, H1.load (k := 0) (i := 0) rfl rfl]
  simp only [sLeq]
  by_cases c : k + 2 ≤ n
  ·simp only [show ((k + 2 : Nat) : Int) ≤ (n : Int) by omega, decide_true, zC]
   have hf := factF_le (n := k + 1) (by omega)
   have hm : factF (k + 1) * (k + 2) ≤ 362880 * 11 := Nat.mul_le_mul hf (by omega)
   rw [sMul2 (by omega), sAdd (by omega)]
   refine hR _ _ _ _ _ _ (by omega) ⟨k + 1, ?_, by congr 1, rfl, by omega, rfl, rfl⟩
   rw [show factF (k + 1 + 1) = (k + 1 + 1) * factF (k + 1) from rfl, Nat.mul_comm]
  ·simp only [show ¬ ((k + 2 : Nat) : Int) ≤ (n : Int) by omega, decide_false, zB]
   rw [F64.k9]
   obtain rfl : n = k + 1 := by omega
   exact hK _ _ _ _ _ H1 (uN (yB rfl) (yB rfl)) rfl
 simp only [show ¬ (lines.length : Int) = 0 by omega, decide_false, zB]
 have hl := fun l hm => g4 l hm
 rw [F64.k10, H1.loadN (k := 0) (n := 2) rfl rfl]
 refine spectrum113 hj (by omega) (by omega) (by omega) (fun l hm => ⟨g4 l hm, hw l hm⟩) _ _ _ _ ?_
 rintro _ rfl _
 have hsum := spL_sum (by omega) hn9 hl
 have hpos := spL_pos (n := n) (lines := lines)
 have hE := enumF_len hn9 hl
 have hlen : (spL n lines).length ≤ 400000 := by
  have h1 := spV_len lines n (loB n lines) (hiB n lines + 1 - loB n lines).toNat
  have h2 := bnd_bd (by omega) hn9 g3 hl
  exact Nat.le_trans h1 (by omega)
 rw [spL_def]
 generalize spL n lines = q at *
 simp only [zF]
 refine F64.L11 (fun m z7 z14 h' nx' => ∃ (i : Nat) (X : List Ob), z7 = I (sumP (q.take i)) ∧ z14 = I i ∧ m = q.length - i ∧ i ≤ q.length ∧ Hp h h' nx' X) (m := q.length) (by omega) ⟨0, _, rfl, rfl, rfl, by omega, H1⟩ ?_
 rintro m z7 z8 z14 z15 h2 nx2 R ⟨i, X, rfl, rfl, rfl, hi, H2⟩ hR
 simp only [sLss]
 by_cases c : i < q.length
 ·simp only [show (i : Int) < (q.length : Int) by omega, decide_true, zC]
  rw [sIxL rfl c, jC c, sLoadN_fp2]
  refine H2.alloc fun b3 h3 nx3 H3 => ?_
  refine H3.storeN (k := 0) (n := 2) rfl rfl rfl fun h4 H4 => ?_
  have e1 : sumP (q.take (i + 1)) = sumP (q.take i) + q[i].2 := by
   rw [List.take_add_one, List.getElem?_eq_getElem c, sumP_app]; simp [sumP]
  have b1 := sumP_take hpos i
  have b2 := sumP_take hpos (i + 1)
  rw [sAx1, H4.load (k := 0) (i := 0 + 1) rfl rfl, sAdd (by omega), sAdd (by omega), ← e1]
  exact hR _ _ _ _ _ _ _ (by omega) ⟨i + 1, _, rfl, rfl, rfl, by omega, H4⟩
 ·simp only [show ¬ (i : Int) < (q.length : Int) by omega, decide_false, zB]
  obtain rfl : i = q.length := by omega
  rw [F64.k18, List.take_length, hsum]
  exact hK _ _ _ _ _ H2 (uN (yB rfl) (yB rfl)) rfl
end Go.Ev
namespace Go.Ev
end Go.Ev
namespace Go.Ev
end Go.Ev
namespace Go.Ev
end Go.Ev
namespace Go.Ev
end Go.Ev
namespace Go.Ev
end Go.Ev
namespace Go.Ev
open Go Go.Proofs
variable {B : Nat}
theorem before74 {a b : List Int} (ha : a.length ≤ 1000000) (hb : b.length ≤ 1000000) : Pure Tryz.prog B 74 [encI a, encI b] (· = .bool (lexLt a b)) := by
 intro p h nx K hK
 refine zP zZ dreg 10000000 fun hf => ?_
 rw [F74.go]
 refine F74.L1 (fun m z3 h' nx' => ∃ i : Nat, z3 = I i ∧ a.length - i = m ∧ i ≤ a.length ∧ i ≤ b.length ∧ h' = h ∧ nx' = nx ∧ a.take i = b.take i) (m := a.length) (by omega) ⟨0, rfl, rfl, by omega, by omega, rfl, rfl, rfl⟩ ?_
 rintro m z2 z3 z4 z5 h1 nx1 R ⟨i, rfl, rfl, hi, hib, rfl, rfl, htk⟩ hR
 have hsk := lexLt_skip i a b htk hi hib
 simp (disch := omega) only [sAdd, sSub, sMul, sEql, sNeq, sLss, sLeq, sGtr, sGeq, zK, zI, zC, zB, yC, zY, yE, yF, zO, yD, yA, yI, zT, zS, zR, zF, zM, zJ, zD, decide_true, decide_false, Bool.not_true, Bool.not_false, zV]
 have out : (a.length ≤ i ∨ b.length ≤ i) → ∀ w4, IR.run F74.b8 (CS Tryz.prog B) 10000000 (fnO F74.res K) (retK F74.res K) (F74.fr (encI a) (encI b) z2 (I i) w4 z5) h1 nx1 = .ok True := by
  intro ho w4
  rw [F74.k8]
  simp (disch := omega) only [sAdd, sSub, sMul, sEql, sNeq, sLss, sLeq, sGtr, sGeq, zK, zI, zC, zB, yC, zY, yE, yF, zO, yD, yA, yI, zT, zS, zR, zF, zM, zJ, zD, decide_true, decide_false, Bool.not_true, Bool.not_false, zV]
  refine hK _ ?_ hf
  rw [hsk]
  by_cases c1 : b.length ≤ i
  ·rw [List.drop_of_length_le c1]
   have : lexLt (a.drop i) [] = false := by cases a.drop i <;> rfl
   rw [this, decide_eq_false (by omega)]
  ·rw [List.drop_of_length_le (show a.length ≤ i by omega), List.drop_eq_getElem_cons (show i < b.length by omega), lexLt, decide_eq_true (by omega)]
 by_cases hla : i < a.length
 case neg =>
  simp only [show ¬ (i : Int) < (a.length : Int) by omega, decide_false, yF, zI, zB]
  exact out (.inl (by omega)) _
 simp only [show (i : Int) < (a.length : Int) by omega, decide_true, yC, zF, sLss, zK]
 by_cases hlb : i < b.length
 case neg =>
  simp only [show ¬ (i : Int) < (b.length : Int) by omega, decide_false, zB]
  exact out (.inr (by omega)) _
 simp only [show (i : Int) < (b.length : Int) by omega, decide_true, zC]
 have hx : a[i]? = some a[i] := List.getElem?_eq_getElem hla
 have hxb : b[i]? = some b[i] := List.getElem?_eq_getElem hlb
 rw [List.drop_eq_getElem_cons hla, List.drop_eq_getElem_cons hlb, lexLt] at hsk
 rw [F74.k4, sIxL rfl hla, ldL (getI hx), sIxL rfl hlb, ldL (getI hxb)]
 simp only [sNeq]
 by_cases c : a[i] = b[i]
 ·simp only [c, decide_true, Bool.not_true, zB]
  try rw [sAdd (by omega)]
  refine hR _ _ _ _ _ _ _ (by omega) ⟨i + 1, rfl, rfl, by omega, by omega, rfl, rfl, ?_⟩
  rw [List.take_add_one, List.take_add_one, htk, hx, hxb, c]
 ·simp only [c, decide_false, Bool.not_false, zC]
  rw [sIxL rfl hla, ldL (getI hx), sIxL rfl hlb, ldL (getI hxb)]
  simp only [sLss]
  exact hK _ (by rw [hsk, if_neg c]) hf
end Go.Ev
namespace Go.Ev
open Go Go.Proofs
variable {B : Nat}
theorem isNormal38 {f : List Int} (hl : f.length ≤ 100000) : Pure Tryz.prog B 38 [encI f] (· = .bool (decide (srt f = upTo f.length))) := by
 intro p h nx K hK
 refine zP zZ dreg 10000000 fun hf => ?_
 rw [F38.go]
 refine sorted85 hl _ _ _ _ ?_
 rintro _ rfl _
 have hlen := srt_length f
 have hul : (upTo f.length).length = f.length := by simp
 refine F38.L1 (fun m z3 h' nx' => ∃ i : Nat, z3 = I i ∧ f.length - i = m ∧ i ≤ f.length ∧ h' = h ∧ nx' = nx ∧ (srt f).take i = (upTo f.length).take i) (m := f.length) (by omega) ⟨0, rfl, rfl, by omega, rfl, rfl, rfl⟩ ?_
 rintro m z1 z3 z4 z5 _ _ R ⟨i, rfl, rfl, hi, rfl, rfl, htk⟩ hR
 simp only [zF, sLss]
 by_cases hlt : i < f.length
 ·simp only [show (i : Int) < ((srt f).length : Int) by omega, decide_true, zC]
  have hx : (srt f)[i]? = some (srt f)[i] := List.getElem?_eq_getElem (by omega)
  have hu : (upTo f.length)[i]? = some ((i : Int) + 1) := by simp [List.getElem?_map, hlt]
  rw [sIxL rfl (by omega), ldL (getI hx), sAdd (by omega)]
  simp only [sNeq]
  by_cases c : (srt f)[i] = (i : Int) + 1
  ·simp only [c, decide_true, Bool.not_true, zB]
   try rw [sAdd (by omega)]
   refine hR _ _ _ _ _ _ _ (by omega) ⟨i + 1, rfl, rfl, by omega, rfl, rfl, ?_⟩
   rw [List.take_add_one, List.take_add_one, htk, hx, hu, c]
  ·simp only [c, decide_false, Bool.not_false, zC]
   refine hK _ ?_ hf
   rw [decide_eq_false]
   intro q
   have h9 : (srt f)[i]? = some ((i : Int) + 1) := by rw [q]; exact hu
   rw [hx] at h9
   exact c (Option.some.inj h9)
 ·simp only [show ¬ (i : Int) < ((srt f).length : Int) by omega, decide_false, zB]
  rw [F38.k8]
  rw [List.take_of_length_le (by omega), List.take_of_length_le (by omega)] at htk
  exact hK _ (by rw [decide_eq_true htk]) hf
end Go.Ev
namespace Go.Ev
open Go Go.Proofs
variable {B : Nat}
theorem gW_tt (op : KW3 → OP) (h : T Blk) (nx : Pa) (k : KW3) : sGW (.bool true) true op h nx k = op k := nr rfl
theorem gW_ft (op : KW3 → OP) (h : T Blk) (nx : Pa) (k : KW3) : sGW (.bool false) true op h nx k = k .undef h nx := nr rfl
theorem few44 {cells a b : Int} {lines : List (List Int)} (ha : a ≤ 1000) (hb : b ≤ 1000000) : Pure Tryz.prog B 44 [.agg [I cells, encT lines], I a, I b] (· = .bool (decide (((lines.length : Int) ≤ b ∧ ∀ l ∈ lines, (l.length : Int) ≤ a) ∧ yR cells lines = 0 ∧ cells ≤ a))) := by
 refine yV fun h nx K H0 hK => zP zZ dreg 1000 fun hf => ?_
 rw [F44.go]
 refine H0.box (l := [I cells, encT lines]) rfl fun bx h1 nx1 H1 => ?_
 rw [H1.loadN (k := 0) (n := 2) rfl rfl]
 refine short25 hb _ _ _ _ ?_
 rintro _ rfl _
 have ret : ∀ b', b' = decide (((lines.length : Int) ≤ b ∧ ∀ l ∈ lines, (l.length : Int) ≤ a) ∧ yR cells lines = 0 ∧ cells ≤ a) → K (.bool b') h1 nx1 = .ok True := fun b' hb' => hK _ _ _ _ _ H1 (yB rfl) (by rw [hb'])
 by_cases hsh : (lines.length : Int) ≤ b ∧ ∀ l ∈ lines, (l.length : Int) ≤ a
 case neg =>
  rw [decide_eq_false hsh]
  simp only [yF, gW_ft, zI]
  exact ret _ (by simp [hsh])
 rw [decide_eq_true hsh]
 have hw : ∀ q ∈ lines, q.length ≤ 1000000 := fun q hq => by have := hsh.2 q hq; omega
 simp only [yC, gW_tt]
 rw [H1.loadN (k := 0) (n := 2) rfl rfl]
 refine sysErr27 hw _ _ _ _ ?_
 rintro _ rfl _
 simp only [sEql, zK]
 by_cases hs : yR cells lines = 0
 case neg =>
  simp only [hs, decide_false, yF, zI]
  exact ret _ (by simp [hs])
 simp only [hs, decide_true, yC, sFx]
 rw [H1.load (k := 0) (i := 0) rfl rfl]
 simp only [sLeq, zK]
 exact ret _ (decide_eq_decide.2 ⟨fun q => ⟨hsh, hs, q⟩, fun q => q.2.2⟩)
end Go.Ev
namespace Go.Ev
open Go Go.Proofs
variable {B : Nat}
end Go.Ev
namespace Go.Ev
open Go Go.Proofs
variable {B : Nat}
theorem sAxF0 {a b : AV} {l : List AV} {K : AV → OP} : yY 1 2 (.fp (a :: b :: l)) (I 0) K = K (.fp (a :: b :: l)) := nr rfl
theorem sAxF1 {a b : AV} {l : List AV} {K : AV → OP} : yY 1 2 (.fp (a :: b :: l)) (I 1) K = K (.fp (b :: l)) := nr rfl
theorem sLdF {a : AV} {l : List AV} {h : T Blk} {K : AV → OP} : zA (.fp (a :: l)) h K = K a := nr rfl
theorem getD_so {l : List Int} {i : Nat} (h : i < l.length) : l[i]? = some (l.getD i 0) := by
 rw [List.getD_eq_getElem?_getD, List.getElem?_eq_getElem h]; rfl
end Go.Ev
namespace Go.Ev
open Go Go.Proofs
variable {B : Nat}
theorem numbers118 {f : List Int} (hl : f.length ≤ 100000) (hb : ∀ v ∈ f, 0 ≤ v ∧ v ≤ 9) : Pure Tryz.prog B 118 [encI f] (· = I 0) := by
 intro p h nx K hK
 refine zP zZ dreg 10000000 fun hf => ?_
 rw [F118.go]
 refine F118.L1 (fun m z2 h' nx' => ∃ i : Nat, z2 = I i ∧ f.length - i = m ∧ i ≤ f.length ∧ h' = h ∧ nx' = nx) (m := f.length) (by omega) ⟨0, rfl, rfl, by omega, rfl, rfl⟩ ?_
 rintro m z1 z2 z3 z4 _ _ R ⟨i, rfl, rfl, hi, rfl, rfl⟩ hR
 simp (disch := omega) only [sAdd, sSub, sMul, sEql, sNeq, sLss, sLeq, sGtr, sGeq, zK, zI, zC, zB, yC, zY, yE, yF, zO, yD, yA, yI, zT, zS, zR, zF, zM, zJ, zD, decide_true, decide_false, Bool.not_true, Bool.not_false, zV]
 by_cases hlt : i < f.length
 ·simp only [show (i : Int) < (f.length : Int) by omega, decide_true, zC]
  have hx : f[i]? = some f[i] := List.getElem?_eq_getElem hlt
  have hv := hb _ (List.getElem_mem hlt)
  rw [sIxL rfl hlt, ldL (getI hx)]
  simp only [sLss, show ¬ f[i] < -999999999 by omega, decide_false, zY]
  rw [sIxL rfl hlt, ldL (getI hx)]
  simp only [sGtr, show ¬ (999999999 : Int) < f[i] by omega, decide_false, zI, zB]
  try rw [sAdd (by omega)]
  exact hR _ _ _ _ _ _ _ (by omega) ⟨i + 1, rfl, rfl, by omega, rfl, rfl⟩
 ·simp only [show ¬ (i : Int) < (f.length : Int) by omega, decide_false, zB]
  rw [F118.k8]
  exact hK _ rfl hf
theorem check71 {n : Nat} {lines : List (List Int)} {f : List Int} (hn : f.length = n) (hn9 : n ≤ 9) (hb : ∀ v ∈ f, 0 ≤ v ∧ v ≤ 9) : Pure Tryz.prog B 71 [.agg [I n, encT lines], encI f] (· = I 0) := by
 refine yV fun h nx K H0 hK => zP zZ dreg 1000 fun hf => ?_
 rw [F71.go]
 refine H0.box (l := [I n, encT lines]) rfl fun bx h1 nx1 H1 => ?_
 simp only [zF, sFx]
 rw [H1.load (k := 0) (i := 0) rfl rfl]
 simp only [sNeq, hn, decide_true, Bool.not_true, zB]
 refine numbers118 (by omega) hb _ _ _ _ ?_
 rintro _ rfl _
 exact hK _ _ _ _ _ H1 (yB rfl) rfl
theorem sumOf120 {l f : List Int} (hl : l.length ≤ 1000000) (hc : ∀ c ∈ l, 0 ≤ c ∧ c < (f.length : Int)) (hf9 : ∀ v ∈ f, 0 ≤ v ∧ v ≤ 9) : Pure Tryz.prog B 120 [encI l, encI f] (· = I (yL l f)) := by
 intro p h nx K hK
 refine zP zZ dreg 10000000 fun hf => ?_
 rw [F120.go]
 refine F120.L1 (fun m z3 z4 h' nx' => ∃ i : Nat, z4 = I i ∧ z3 = I (yL (l.take i) f) ∧ l.length - i = m ∧ i ≤ l.length ∧ h' = h ∧ nx' = nx) (m := l.length) (by omega) ⟨0, rfl, rfl, rfl, by omega, rfl, rfl⟩ ?_
 rintro m z3 z4 z5 _ _ R ⟨i, rfl, rfl, rfl, hi, rfl, rfl⟩ hR
 simp (disch := omega) only [sAdd, sSub, sMul, sEql, sNeq, sLss, sLeq, sGtr, sGeq, zK, zI, zC, zB, yC, zY, yE, yF, zO, yD, yA, yI, zT, zS, zR, zF, zM, zJ, zD, decide_true, decide_false, Bool.not_true, Bool.not_false, zV]
 by_cases hlt : i < l.length
 ·simp only [show (i : Int) < (l.length : Int) by omega, decide_true, zC]
  have hx : l[i]? = some l[i] := List.getElem?_eq_getElem hlt
  obtain ⟨c0, c1⟩ := hc _ (List.getElem_mem hlt)
  have hv : f[(l[i]).toNat]? = some (f.getD (l[i]).toNat 0) := by rw [List.getD_eq_getElem?_getD, List.getElem?_eq_getElem (by omega)]; rfl
  rw [sIxL rfl hlt, ldL (getI hx), sIxL (i := (l[i]).toNat) (by omega) (by omega), ldL (getI hv)]
  have hs : yL (l.take (i + 1)) f = yL (l.take i) f + f.getD (l[i]).toNat 0 := by
   rw [List.take_add_one, hx, Option.toList_some, lsum_snoc]
  have hb := lsum_bd (M := 9) (fun v hv => by have := hf9 v hv; omega) (l.take (i + 1))
  rw [List.length_take] at hb
  rw [sAdd (by omega)]
  try rw [sAdd (by omega)]
  exact hR _ _ _ _ _ _ (by omega) ⟨i + 1, rfl, by rw [hs], rfl, by omega, rfl, rfl⟩
 ·simp only [show ¬ (i : Int) < (l.length : Int) by omega, decide_false, zB]
  rw [F120.k8]
  refine hK _ ?_ hf
  rw [List.take_of_length_le (by omega)]
theorem sums73 {n : Nat} {lines : List (List Int)} {f : List Int} (hn : f.length = n) (hm : lines.length ≤ 1000) (hl : ∀ l ∈ lines, AscL n l ∧ l.length ≤ 1000) (hb : ∀ v ∈ f, 0 ≤ v ∧ v ≤ 9) : Pure Tryz.prog B 73 [.agg [I n, encT lines], encI f] (· = encI (lines.map fun l => yL l f)) := by
 refine yV fun h nx K H0 hK => zP zZ dreg 10000 fun hf => ?_
 rw [F73.go]
 refine H0.box (l := [I n, encT lines]) rfl fun bx h1 nx1 H1 => ?_
 refine F73.L1 (fun m z4 z5 h' nx' => ∃ (i : Nat) (o : Option Pa), z5 = I i ∧ lines.length - i = m ∧ i ≤ lines.length ∧ z4 = rowV o 1 i ∧ Hp h h' nx' [.gro o 1 i (((lines.take i).map fun l => yL l f).map I), .arr bx [I n, encT lines]]) (m := lines.length) (by omega) ⟨0, none, rfl, rfl, by omega, rfl, H1.addGro 1⟩ ?_
 rintro m z4 z5 z6 h2 nx2 R ⟨i, o, rfl, rfl, hi, rfl, H2⟩ hR
 rw [sFx, H2.load (k := 1) (i := 0 + 1) rfl rfl]
 simp only [zF, sLss]
 by_cases hlt : i < lines.length
 ·simp only [show (i : Int) < (lines.length : Int) by omega, decide_true, zC]
  have hx : lines[i]? = some lines[i] := List.getElem?_eq_getElem hlt
  obtain ⟨ha, hw⟩ := hl _ (List.getElem_mem hlt)
  rw [sFx, H2.load (k := 1) (i := 0 + 1) rfl rfl, sIxL rfl hlt, ldL (getT hx)]
  refine sumOf120 (by omega) (fun c hc => by rw [hn]; exact ha.2.2 c hc) hb _ _ _ _ ?_
  rintro _ rfl _
  refine H2.bslice (l := [I (yL lines[i] f)]) rfl fun e3 h3 nx3 H3 => ?_
  refine H3.appN (k := 1) (o := o) (c := 1) (new := [I (yL lines[i] f)]) rfl (HasArr.rd (l := [I (yL lines[i] f)]) (n := 1) (H3.own _ (List.mem_cons_self ..)) rfl) rfl rfl (by decide) (by decide) (by omega) fun o' h4 nx4 _ H4 => ?_
  rw [sAdd (by omega)]
  have H5 := H4.drop
  refine hR _ _ _ _ _ _ (by omega) ⟨i + 1, o', rfl, rfl, by omega, rfl, H5.cast ?_⟩
  have e : lines.take (i + 1) = lines.take i ++ [lines[i]] := by rw [List.take_add_one, hx]; rfl
  rw [e, List.map_append, List.map_append]; rfl
 ·simp only [show ¬ (i : Int) < (lines.length : Int) by omega, decide_false, zB]
  obtain rfl : i = lines.length := by omega
  rw [F73.k8]
  rw [List.take_length] at H2
  refine hK _ _ _ _ _ H2 (H2.frzGro (k := 0) rfl (by intro v hv; obtain ⟨x, _, rfl⟩ := List.mem_map.1 hv; rfl)) ?_
  show AV.lst 1 _ _ = AV.lst 1 _ _
  simp
theorem isMagic72 {n : Nat} {lines : List (List Int)} {f : List Int} {s : Int} (hn : f.length = n) (hm : lines.length ≤ 1000) (hl : ∀ l ∈ lines, AscL n l ∧ l.length ≤ 1000) (hb : ∀ v ∈ f, 0 ≤ v ∧ v ≤ 9) (hs : ∀ l ∈ lines, yL l f = s) : Pure Tryz.prog B 72 [.agg [I n, encT lines], encI f] (· = .bool true) := by
 refine yV fun h nx K H0 hK => zP zZ dreg 1000 fun hf => ?_
 rw [F72.go]
 refine H0.box (l := [I n, encT lines]) rfl fun bx h1 nx1 H1 => ?_
 rw [H1.loadN (k := 0) (n := 2) rfl rfl]
 have first : Pure Tryz.prog B 119 [.agg [I n, encT lines], encI f] (· = I (-1)) := by
  refine yV fun h nx K H0 hK => zP zZ dreg 10000 fun hf => ?_
  rw [F119.go]
  refine H0.box (l := [I n, encT lines]) rfl fun bx h1 nx1 H1 => ?_
  rw [H1.loadN (k := 0) (n := 2) rfl rfl]
  refine sums73 hn hm hl hb _ _ _ _ ?_
  rintro _ rfl _
  have hq : ∀ (i : Nat), i < lines.length → (lines.map fun l => yL l f)[i]? = some s := fun i hi => by
   rw [List.getElem?_map, List.getElem?_eq_getElem hi]
   exact congrArg some (hs _ (List.getElem_mem hi))
  have hlen : (lines.map fun l => yL l f).length = lines.length := by simp
  generalize (lines.map fun l => yL l f) = q at hq hlen
  refine F119.L1 (fun m z5 h' nx' => ∃ i : Nat, z5 = I i ∧ lines.length - i = m ∧ i ≤ lines.length ∧ h' = h1 ∧ nx' = nx1) (m := lines.length) (by omega) ⟨0, rfl, rfl, by omega, rfl, rfl⟩ ?_
  rintro m z3 z5 z6 z7 h1 nx1 R ⟨i, rfl, rfl, hi, rfl, rfl⟩ hR
  simp only [zF, sLss, hlen]
  by_cases hlt : i < lines.length
  ·simp only [show (i : Int) < (lines.length : Int) by omega, decide_true, zC]
   rw [sIxL rfl (by omega), ldL (getI (hq i hlt)), sIxL (i := 0) (j := 0) rfl (by omega), ldL (getI (hq 0 (by omega)))]
   simp only [sNeq, decide_true, Bool.not_true, zB]
   rw [sAdd (by omega)]
   exact hR _ _ _ _ _ _ _ (by omega) ⟨i + 1, rfl, rfl, by omega, rfl, rfl⟩
  ·simp only [show ¬ (i : Int) < (lines.length : Int) by omega, decide_false, zB]
   rw [F119.k8]
   exact hK _ _ _ _ _ H1 (yB rfl) rfl
 refine first _ _ _ _ ?_
 rintro _ rfl _
 simp only [sLss, show (-1 : Int) < 0 by omega, decide_true]
 exact hK _ _ _ _ _ H1 (yB rfl) rfl
end Go.Ev
namespace Go.Ev
open Go Go.Proofs
variable {B : Nat}
theorem F17.c23 {N : Nat} {C : Calls Prop} {O : Outs Prop} {K : Ks Prop} {h : T Blk} {nx : Pa} {x0 x1 x2 x3 x4 x5 x6 x7 x8 x9 x10 x11 x12 x13 x14 x15 x16 x17 x18 x19 x20 x21 x22 x24 x25 x26 x27 x28 x29 x30 : AV} : IR.run (.cond (.t (.of 23)) (.seq (.reg [.q (.of 2) (.mv (.c (.bool false)))]) .ret) .skip) C N O K (F17.fr x0 x1 x2 x3 x4 x5 x6 x7 x8 x9 x10 x11 x12 x13 x14 x15 x16 x17 x18 x19 x20 x21 x22 (.bool false) x24 x25 x26 x27 x28 x29 x30) h nx = K (F17.fr x0 x1 x2 x3 x4 x5 x6 x7 x8 x9 x10 x11 x12 x13 x14 x15 x16 x17 x18 x19 x20 x21 x22 (.bool false) x24 x25 x26 x27 x28 x29 x30) h nx := by kernel_rfl
theorem F17.c27 {N : Nat} {C : Calls Prop} {O : Outs Prop} {K : Ks Prop} {h : T Blk} {nx : Pa} {x0 x1 x2 x3 x4 x5 x6 x7 x8 x9 x10 x11 x12 x13 x14 x15 x16 x17 x18 x19 x20 x21 x22 x23 x24 x25 x26 x28 x29 x30 : AV} : IR.run (.cond (.t (.of 27)) (.seq (.reg [.q (.of 2) (.mv (.c (.bool false)))]) .ret) .skip) C N O K (F17.fr x0 x1 x2 x3 x4 x5 x6 x7 x8 x9 x10 x11 x12 x13 x14 x15 x16 x17 x18 x19 x20 x21 x22 x23 x24 x25 x26 (.bool false) x28 x29 x30) h nx = K (F17.fr x0 x1 x2 x3 x4 x5 x6 x7 x8 x9 x10 x11 x12 x13 x14 x15 x16 x17 x18 x19 x20 x21 x22 x23 x24 x25 x26 (.bool false) x28 x29 x30) h nx := by kernel_rfl
theorem F17.r3a {q : List (Int × Int)} {i : Nat} (ci : i < q.length) (hi : q.length ≤ 1000000) (hasc : AscP q) {C : Calls Prop} {K : Ks Prop} {h : T Blk} {nx : Pa} {x0 x1 x2 x3 x4 x6 x7 x8 x9 x10 x12 x13 x14 x15 x16 x17 x18 x19 x20 x21 x22 x23 x24 x25 x26 x27 x28 x29 x30 s1 s2 s4 s5 s6 s7 s8 s9 s10 s11 s12 s13 s14 s15 s16 s17 s18 s19 s20 s21 s22 s23 s24 s25 s26 s27 : AV} : evD F17.r3 [] C ⟨(F17.fr x0 x1 x2 x3 x4 (encP q) x6 x7 x8 x9 x10 (I (i : Int)) x12 x13 x14 x15 x16 x17 x18 x19 x20 x21 x22 x23 x24 x25 x26 x27 x28 x29 x30), (.bool (decide ((0 : Int) < (i : Int)))) :: s1 :: s2 :: (.bool false) :: s4 :: s5 :: s6 :: s7 :: s8 :: s9 :: s10 :: s11 :: s12 :: s13 :: s14 :: s15 :: s16 :: s17 :: s18 :: s19 :: s20 :: s21 :: s22 :: s23 :: s24 :: s25 :: s26 :: s27 :: []⟩ h nx (fun tm h nx => K tm.v h nx) = K (F17.fr x0 x1 x2 x3 x4 (encP q) x6 x7 x8 x9 x10 (I (i : Int)) x12 x13 x14 x15 x16 x17 x18 x19 x20 x21 x22 (.bool false) x24 x25 x26 x27 x28 x29 x30) h nx := by
 by_cases c : 0 < i
 ·rw [decide_eq_true (show (0 : Int) < (i : Int) by omega), F17.r3_t, sIxL rfl ci, jC ci, sAxF0, sLdF, sSub (by omega), show (i : Int) - 1 = ((i - 1 : Nat) : Int) by omega]
  have cj : i - 1 < q.length := by omega
  have hlt : q[i - 1].1 < q[i].1 := List.pairwise_iff_getElem.1 hasc (i - 1) i cj ci (by omega)
  rw [sIxL rfl cj, jC cj, sAxF0, sLdF]
  simp only [sLeq, show ¬ q[i].1 ≤ q[i - 1].1 by omega, decide_false]
  rw [F17.r4_f, zK]
 ·rw [decide_eq_false (show ¬ (0 : Int) < (i : Int) by omega), F17.r3_f, F17.r4_f, zI]
theorem F17.r10a {E : List (List Int)} {i : Nat} (ci : i < E.length) (hi : E.length ≤ 1000000) (hw : ∀ f ∈ E, f.length ≤ 1000000) (hasc : E.Pairwise fun a b => lexLt a b = true) {K : Ks Prop} {h : T Blk} {nx : Pa} {x0 x1 x2 x3 x4 x5 x6 x7 x8 x9 x10 x11 x13 x14 x15 x17 x18 x19 x20 x21 x22 x23 x24 x25 x26 x27 x28 x29 x30 s1 s2 s4 s5 s6 s7 s8 s9 s10 s11 s12 s13 s14 s15 s16 s17 s18 s19 s20 s21 s22 s23 s24 s25 s26 s27 s28 s29 s30 s31 s32 s33 s34 s35 s36 s37 s38 s39 s40 s41 s42 s43 s44 s45 s46 s47 s48 s49 s50 s51 s52 s53 : AV} (hK : K (F17.fr x0 x1 x2 x3 x4 x5 x6 x7 x8 x9 x10 x11 (encT E) x13 x14 x15 (I (i : Int)) x17 x18 x19 x20 x21 x22 x23 x24 x25 x26 (.bool false) x28 x29 x30) h nx = .ok True) : evD F17.r10 [] (CS Tryz.prog B) ⟨(F17.fr x0 x1 x2 x3 x4 x5 x6 x7 x8 x9 x10 x11 (encT E) x13 x14 x15 (I (i : Int)) x17 x18 x19 x20 x21 x22 x23 x24 x25 x26 x27 x28 x29 x30), (.bool (decide ((0 : Int) < (i : Int)))) :: s1 :: s2 :: (.bool false) :: s4 :: s5 :: s6 :: s7 :: s8 :: s9 :: s10 :: s11 :: s12 :: s13 :: s14 :: s15 :: s16 :: s17 :: s18 :: s19 :: s20 :: s21 :: s22 :: s23 :: s24 :: s25 :: s26 :: s27 :: s28 :: s29 :: s30 :: s31 :: s32 :: s33 :: s34 :: s35 :: s36 :: s37 :: s38 :: s39 :: s40 :: s41 :: s42 :: s43 :: s44 :: s45 :: s46 :: s47 :: s48 :: s49 :: s50 :: s51 :: s52 :: s53 :: []⟩ h nx (fun tm h nx => K tm.v h nx) = .ok True := by
 by_cases c : 0 < i
 ·have cj : i - 1 < E.length := by omega
  have hlt : lexLt E[i - 1] E[i] = true := List.pairwise_iff_getElem.1 hasc (i - 1) i cj ci (by omega)
  have hx : E[i]? = some E[i] := List.getElem?_eq_getElem ci
  have hy : E[i - 1]? = some E[i - 1] := List.getElem?_eq_getElem cj
  rw [decide_eq_true (show (0 : Int) < (i : Int) by omega), F17.r10_t, sSub (by omega), show (i : Int) - 1 = ((i - 1 : Nat) : Int) by omega, sIxL rfl cj, ldL (getT hy), sIxL rfl ci, ldL (getT hx)]
  refine before74 (hw _ (List.getElem_mem cj)) (hw _ (List.getElem_mem ci)) _ _ _ _ ?_
  rintro _ rfl _
  rw [hlt, zO, Bool.not_true, F17.r11_f, zK]
  exact hK
 ·rw [decide_eq_false (show ¬ (0 : Int) < (i : Int) by omega), F17.r10_f, F17.r11_f, zI]
  exact hK
def psum (A : List (List Int)) (c x : Nat) : Int := ((List.range x).map fun j => ent A c j).sum
theorem psum_succ (A : List (List Int)) (c x : Nat) : psum A c (x + 1) = psum A c x + ent A c x := by
 rw [psum, List.range_succ, List.map_append, List.sum_append]; simp [psum]
theorem psum_bd {n : Nat} {D : List (List Int)} (hD : inN n D) (hl : D.length ≤ 1000000000) {c : Nat} (hc : c < n) : ∀ x, x ≤ n → 0 ≤ psum (gC n D) c x ∧ psum (gC n D) c x ≤ D.length := by
 have hp : ∀ x, 0 ≤ ent (gC n D) c x := fun x => by rw [ent_dist hD hl hc]; omega
 have h0 : ∀ x, 0 ≤ psum (gC n D) c x := fun x => by
  induction x with
  | zero => simp [psum]
  | succ x ih => rw [psum_succ]; have := hp x; omega
 have hm : ∀ k x, psum (gC n D) c x ≤ psum (gC n D) c (x + k) := fun k x => by
  induction k with
  | zero => simp
  | succ k ih => rw [← Nat.add_assoc, psum_succ]; have := hp (x + k); omega
 intro x hx
 have := hm (n - x) x
 rw [show x + (n - x) = n by omega] at this
 have e := ent_sum hD hl hc
 have e2 : psum (gC n D) c n = D.length := e
 exact ⟨h0 x, by omega⟩
theorem law17 {cells : Int} {lines : List (List Int)} (hj : ∀ B, JOk Tryz.prog B hookS) (haw : ∀ {B}, Pure Tryz.prog B 18 [] (· = .bool true)) : Pure Tryz.prog B 17 [.agg [I cells, encT lines]] (· = .bool true) := by
 refine yV fun h nx K H0 hK => zP zZ dreg 1000000 fun hf => ?_
 rw [F17.go]
 refine H0.box (l := [I cells, encT lines]) rfl fun bx h1 nx1 H1 => ?_
 have awk : ∀ (h : T Blk) (nx : Pa) (Z : Kw Prop), Z (.bool true) h nx = .ok True → (CS Tryz.prog B).fn 18 (.of 18) [] h nx Z = .ok True := fun h nx Z hZ => haw _ _ _ _ fun v hv _ => by rw [hv]; exact hZ
 have ret : K (.bool true) h1 nx1 = .ok True := hK _ _ _ _ _ H1 (yB rfl) rfl
 rw [H1.loadN (k := 0) (n := 2) rfl rfl]
 refine few44 (by omega) (by omega) _ _ _ _ ?_
 rintro _ rfl _
 by_cases hfew : ((lines.length : Int) ≤ 12 ∧ ∀ l ∈ lines, (l.length : Int) ≤ 9) ∧ yR cells lines = 0 ∧ cells ≤ 9
 case neg =>
  rw [decide_eq_false hfew]
  simp only [zO, Bool.not_false, yE, sGW_tf2, zK, zC]
  exact awk _ _ _ ret
 rw [decide_eq_true hfew]
 obtain ⟨⟨s1, s2⟩, hs, s3⟩ := hfew
 obtain ⟨w, rfl, g1, g2, g3, g4⟩ := sys_ok hs
 have hw9 : w ≤ 9 := by omega
 have hw : ∀ q ∈ lines, q.length ≤ 1000 := fun q hq => by have := s2 q hq; omega
 simp only [zO, Bool.not_true, zY]
 rw [H1.loadN (k := 0) (n := 2) rfl rfl, sGW_ff2]
 refine light62 (by omega) (fun l hl => ⟨g4 l hl, hw l hl⟩) _ _ _ _ ?_
 rintro _ ⟨b, rfl⟩ _
 cases b with
 | false =>
  simp only [zO, zI, Bool.not_false, yE, zK, zC]
  exact awk _ _ _ ret
 | true =>
 simp only [zO, zI, Bool.not_true, zY, sFx]
 rw [H1.load (k := 0) (i := 0 + 1) rfl rfl]
 simp only [zF, sEql, zI]
 by_cases h0 : lines.length = 0
 ·simp only [show (lines.length : Int) = 0 by omega, decide_true, zC]
  exact awk _ _ _ ret
 simp only [show ¬ (lines.length : Int) = 0 by omega, decide_false, zB]
 have hsm : smErr w lines = 0 := by rw [smErr_eq, if_neg (by simp [hs]), if_neg (by omega)]
 have hsp : spErr w lines = 0 := by rw [spErr, if_neg (by simp [hsm]), if_neg h0]
 have hl : ∀ l ∈ lines, AscL w l := g4
 have hl2 : ∀ l ∈ lines, AscL w l ∧ l.length ≤ 1000 := fun l hm => ⟨g4 l hm, hw l hm⟩
 rw [F17.k1, H1.loadN (k := 0) (n := 2) rfl rfl]
 refine total64 hj hw hsm hs hw9 _ _ _ _ ?_
 rintro _ rfl _
 simp only [yD, yA]
 rw [H1.loadN (k := 0) (n := 2) rfl rfl]
 refine spectrum63 hj hw _ _ _ _ ?_
 rintro _ rfl _
 rw [if_neg (by simp [hsp]), Int.toNat_natCast]
 simp only [yD, yA]
 rw [H1.loadN (k := 0) (n := 2) rfl rfl]
 refine bounds26 hj hw hs (by omega) _ _ _ _ ?_
 rintro _ ⟨a, b, hab, rfl⟩ _
 have hab2 : a = I (loB w lines) ∧ b = I (hiB w lines) := by
  unfold bndV at hab
  simp only [AV.tup.injEq, List.cons.injEq, and_true] at hab
  exact ⟨hab.1.symm, hab.2.symm⟩
 obtain ⟨rfl, rfl⟩ := hab2
 simp only [yD, yA, yI]
 rw [sAdd (by omega), sAdd (by omega)]
 simp only [sNeq, show (0 : Int) + 0 + 0 = 0 by omega, decide_true, Bool.not_true, zB]
 have hbb := bnd_bd (by omega) hw9 g3 hl
 have hmem : ∀ p ∈ spL w lines, (loB w lines ≤ p.1 ∧ p.1 ≤ hiB w lines) ∧ 0 < p.2 ∧ ((jD lines p.1 w w []).length : Int) = p.2 := fun p hp => by
  have h := spV_mem.1 hp
  refine ⟨by omega, by omega, h.2.2.symm⟩
 have hsum := spL_sum (by omega) hw9 hl
 have hpos := spL_pos (n := w) (lines := lines)
 have hasc : AscP (spL w lines) := spV_asc _ _ _ _
 have hcnt : ∀ s, (jD lines s w w []).length ≤ 362880 := fun s => by
  rw [enumN_perms hl]
  refine Nat.le_trans (List.length_filter_le _ _) ?_
  rw [perms_len (by simp) (by simp) (by simp)]
  exact factF_le hw9
 have hE := enumF_len hw9 hl
 have hlen : (spL w lines).length ≤ 200001 := Nat.le_trans (spV_len _ _ _ _) (by omega)
 generalize spL w lines = q at *
 generalize loB w lines = lo at *
 generalize hiB w lines = ub at *
 refine F17.L3 (fun mm x10 x11 h' nx' => ∃ i : Nat, x10 = I (sumP (q.take i)) ∧ x11 = I i ∧ q.length - i = mm ∧ i ≤ q.length ∧ h' = h1 ∧ nx' = nx1) (m := q.length) (by omega) ⟨0, rfl, rfl, rfl, by omega, rfl, rfl⟩ ?_
 rintro mm z2 z10 z11 z12 z13 z14 z15 z16 z17 z18 z19 z22 z23 z24 z25 z26 z27 z28 z29 z30 h2 nx2 R ⟨i, rfl, rfl, rfl, hi, rfl, rfl⟩ hR3
 simp only [zF, sLss]
 by_cases ci : i < q.length
 case neg =>
  simp only [show ¬ (i : Int) < (q.length : Int) by omega, decide_false, zB]
  rw [F17.k36, List.take_of_length_le (by omega), hsum]
  simp only [sEql, decide_true, zK]
  rw [sGW_tt]
  exact awk _ _ _ ret
 simp only [show (i : Int) < (q.length : Int) by omega, decide_true, zC]
 obtain ⟨⟨m1, m2⟩, m3, m4⟩ := hmem _ (List.getElem_mem ci)
 have b1 := sumP_take hpos i
 have b2 := sumP_take hpos (i + 1)
 have e1 : sumP (q.take (i + 1)) = sumP (q.take i) + q[i].2 := by
  rw [List.take_add_one, List.getElem?_eq_getElem ci, sumP_app]; simp [sumP]
 have hcn := hcnt q[i].1
 rw [sIxL rfl ci, jC ci, sAxF1, sLdF, sAdd (by omega), ← e1, sIxL rfl ci, jC ci, sAxF0, sLdF]
 simp only [sLss, show ¬ q[i].1 < lo by omega, decide_false]
 rw [F17.r0_f, sIxL rfl ci, jC ci, sAxF0, sLdF]
 simp only [sGtr, show ¬ ub < q[i].1 by omega, decide_false]
 rw [F17.r1_f, sIxL rfl ci, jC ci, sAxF1, sLdF]
 simp only [sLss, show ¬ q[i].2 < 1 by omega, decide_false]
 rw [F17.r2_f]
 simp only [sGtr]
 rw [F17.r3a ci (by omega) hasc, F17.c23]
 have next : ∀ (x2 x12 x13 x14 x15 x16 x17 x18 x19 x22 x23 x24 x25 x26 x27 x28 x29 x30 : AV) {E0 : Ks Prop}, IR.run F17.b35 (CS Tryz.prog B) 1000000 ((fnO F17.res K).blk 0 E0) R (F17.fr (.agg [I w, encT lines]) (.ptr bx 0) x2 (I ((enumF lines w).length : Int)) (I 0) (encP q) (I 0) (I lo) (I ub) (I 0) (I (sumP (q.take (i + 1)))) (I (i : Int)) x12 x13 x14 x15 x16 x17 x18 x19 (.bool false) (.bool false) x22 x23 x24 x25 x26 x27 x28 x29 x30) h2 nx2 = .ok True := by
  intro x2 x12 x13 x14 x15 x16 x17 x18 x19 x22 x23 x24 x25 x26 x27 x28 x29 x30 E0
  rw [F17.k35, sAdd (by omega)]
  exact hR3 _ _ _ _ _ _ _ _ _ _ _ _ _ _ _ _ _ _ _ _ _ _ _ (by omega) ⟨i + 1, rfl, rfl, rfl, by omega, rfl, rfl⟩
 rw [F17.k9, H1.loadN (k := 0) (n := 2) rfl rfl, sIxL rfl ci, jC ci, sAxF0, sLdF]
 have hsb : -9223372036854775808 ≤ q[i].1 ∧ q[i].1 ≤ 9223372036854775807 := by omega
 refine fillings52 hw hsm hs hw9 hsb _ _ _ _ ?_
 rintro _ rfl _
 have hin := enumN_in (s := q[i].1) hl
 have hmm := fun f => (enumN_iff (f := f) (s := q[i].1) hl).1
 have hea := enumN_asc (s := q[i].1) hl
 have hcn := hcnt q[i].1
 have hsq := sq_dist hin
 have hps := fun c hc x hx => psum_bd hin (by omega) (c := c) hc x hx
 have htot := fun c hc => ent_sum hin (by omega) (c := c) hc
 by_cases c1024 : (jD lines q[i].1 w w []).length ≤ 1024
 case neg =>
  rw [if_neg c1024]
  simp only [yD, yA]
  rw [H1.loadN (k := 0) (n := 2) rfl rfl, sIxL rfl ci, jC ci, sAxF0, sLdF]
  refine dist53 hw hsm hs hw9 hsb _ _ _ _ ?_
  rintro _ rfl _
  simp only [yD, yA, sEql, decide_true, yC]
  rw [sIxL rfl ci, jC ci, sAxF1, sLdF]
  simp only [sGtr, show (1024 : Int) < q[i].2 by omega, decide_true, zK, zC]
  exact next _ _ _ _ _ _ _ _ _ _ _ _ _ _ _ _ _ _
 rw [if_pos c1024]
 simp only [yD, yA]
 rw [H1.loadN (k := 0) (n := 2) rfl rfl, sIxL rfl ci, jC ci, sAxF0, sLdF]
 refine dist53 hw hsm hs hw9 hsb _ _ _ _ ?_
 rintro _ rfl _
 generalize jD lines q[i].1 w w [] = E at *
 generalize hD : gC w E = D at *
 simp only [yD, yA, sEql, show ¬ (0 : Int) = 5 by omega, decide_false, yF, zI, zB]
 rw [F17.k10]
 simp only [sNeq, decide_true, Bool.not_true, zY, zI, zF]
 rw [sIxL rfl ci, jC ci, sAxF1, sLdF]
 simp only [sNeq, m4, decide_true, Bool.not_true, zY, zI, zF, sFx]
 rw [H1.load (k := 0) (i := 0) rfl rfl]
 simp only [sNeq, hsq.1, decide_true, Bool.not_true, zI, zB]
 rw [F17.k11]
 refine F17.L12 (fun mm x16 h' nx' => ∃ k : Nat, x16 = I k ∧ E.length - k = mm ∧ k ≤ E.length ∧ h' = h2 ∧ nx' = nx2) (m := E.length) (by omega) ⟨0, rfl, rfl, by omega, rfl, rfl⟩ ?_
 rintro mm z2 z16 z26 z27 h3 nx3 R12 ⟨k, rfl, rfl, hk, rfl, rfl⟩ hR12
 simp only [zF, sLss]
 by_cases ck : k < E.length
 ·simp only [show (k : Int) < (E.length : Int) by omega, decide_true, zC]
  have hx : E[k]? = some E[k] := List.getElem?_eq_getElem ck
  obtain ⟨⟨f1, f2⟩, f3⟩ := hmm _ (List.getElem_mem ck)
  have f4 : ∀ v ∈ E[k], 0 ≤ v ∧ v ≤ 9 := fun v hv => by have := f2.2 v hv; omega
  rw [sIxL rfl ck, ldL (getT hx)]
  simp only [zF, sFx]
  rw [H1.load (k := 0) (i := 0) rfl rfl]
  simp only [sNeq, f1, decide_true, Bool.not_true]
  rw [F17.r5_f, sIxL rfl ck, ldL (getT hx)]
  refine isNormal38 (by omega) _ _ _ _ ?_
  rintro _ rfl _
  rw [decide_eq_true ((nrm_iff _).2 f2), zO, Bool.not_true, F17.r6_f, H1.loadN (k := 0) (n := 2) rfl rfl, sIxL rfl ck, ldL (getT hx)]
  refine check71 f1 hw9 f4 _ _ _ _ ?_
  rintro _ rfl _
  simp only [sNeq, decide_true, Bool.not_true]
  rw [F17.r7_f, H1.loadN (k := 0) (n := 2) rfl rfl, sIxL rfl ck, ldL (getT hx)]
  refine isMagic72 f1 (by omega) hl2 f4 f3 _ _ _ _ ?_
  rintro _ rfl _
  rw [zO, Bool.not_true, F17.r8_f, H1.loadN (k := 0) (n := 2) rfl rfl, sIxL rfl ck, ldL (getT hx), sIxL rfl ci, jC ci, sAxF0, sLdF]
  refine sums73 f1 (by omega) hl2 f4 _ _ _ _ ?_
  rintro _ rfl _
  have hs0 : (lines.map fun l => yL l E[k])[0]? = some q[i].1 := by
   rw [List.getElem?_map, List.getElem?_eq_getElem (by omega)]
   exact congrArg some (f3 _ (List.getElem_mem _))
  rw [sLdF, zD, sAxF0, zD, sIxL rfl ci, jC ci]
  simp only [zD]
  rw [sIxL (i := 0) (j := 0) rfl (by simp; omega), ldL (getI hs0)]
  simp only [sNeq, decide_true, Bool.not_true]
  rw [F17.r9_f]
  simp only [sGtr]
  refine F17.r10a ck (by omega) (fun f hf => by have := (hmm f hf).1.1; omega) hea ?_
  rw [F17.c27, F17.k18, sAdd (by omega)]
  exact hR12 _ _ _ _ _ _ _ (by omega) ⟨k + 1, rfl, rfl, by omega, rfl, rfl⟩
 simp only [show ¬ (k : Int) < (E.length : Int) by omega, decide_false, zB]
 rw [F17.k19]
 refine F17.L20 (fun mm x17 h' nx' => ∃ c : Nat, x17 = I c ∧ w - c = mm ∧ c ≤ w ∧ h' = h3 ∧ nx' = nx3) (m := w) (by omega) ⟨0, rfl, rfl, by omega, rfl, rfl⟩ ?_
 rintro mm z2 z17 z18 z19 z28 z29 z30 h4 nx4 R20 ⟨c, rfl, rfl, hc, rfl, rfl⟩ hR20
 rw [sFx, H1.load (k := 0) (i := 0) rfl rfl]
 simp only [sLss]
 by_cases cc : c < w
 case neg =>
  simp only [show ¬ (c : Int) < (w : Int) by omega, decide_false, zB]
  exact next _ _ _ _ _ _ _ _ _ _ _ _ _ _ _ _ _ _
 simp only [show (c : Int) < (w : Int) by omega, decide_true, zC]
 obtain ⟨a1, a2⟩ := hsq.get cc
 have hps := hps c cc
 have htot := htot c cc
 refine F17.L26 (fun mm x18 x19 h' nx' => ∃ x : Nat, x18 = I (psum D c x) ∧ x19 = I x ∧ w - x = mm ∧ x ≤ w ∧ h' = h4 ∧ nx' = nx4) (m := w) (by omega) ⟨0, rfl, rfl, rfl, by omega, rfl, rfl⟩ ?_
 rintro mm z18 z19 z29 h5 nx5 R26 ⟨x, rfl, rfl, rfl, hx, rfl, rfl⟩ hR26
 rw [sIxL rfl (by rw [hsq.1]; exact cc), ldL (getT a1)]
 simp only [zF, sLss, a2]
 by_cases cx : x < w
 ·simp only [show (x : Int) < (w : Int) by omega, decide_true, zC]
  have p1 := hps x hx
  have p2 := hps (x + 1) (by omega)
  have e1 : (D.getD c [])[x]? = some (ent D c x) := by rw [ent]; exact getD_so (by omega)
  rw [psum_succ] at p2
  rw [sIxL rfl (by rw [hsq.1]; exact cc), ldL (getT a1), sIxL rfl (by omega), ldL (getI e1), sAdd (by omega), sAdd (by omega)]
  exact hR26 _ _ _ _ _ _ (by omega) ⟨x + 1, by rw [psum_succ], rfl, rfl, by omega, rfl, rfl⟩
 ·simp only [show ¬ (x : Int) < (w : Int) by omega, decide_false, zB]
  obtain rfl : x = w := by omega
  rw [F17.k33, sIxL rfl (by rw [hsq.1]; exact cc), ldL (getT a1)]
  have et : psum D c x = (E.length : Int) := htot
  simp only [zF, sFx, a2]
  rw [H1.load (k := 0) (i := 0) rfl rfl]
  simp only [sNeq, decide_true, Bool.not_true, zY, zI, zF, et, zB]
  rw [F17.k34, sAdd (by omega)]
  exact hR20 _ _ _ _ _ _ _ _ _ _ (by omega) ⟨c + 1, rfl, rfl, by omega, rfl, rfl⟩
end Go.Ev
