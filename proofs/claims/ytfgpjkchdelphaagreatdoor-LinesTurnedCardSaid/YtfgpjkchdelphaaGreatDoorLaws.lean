import Derived.Shelf.Strings.OnBuilder
import Derived.Test.YtfgpjkchdelphaaGreatDoorProg
import Derived.Test.YtfgpjkchdelphaaGreatDoorEvC
import GoSem.Core.Next
import Derived.Test.YtfgpjkchdelphaaGreatDoorEvD
import Derived.Sort.Grow
import Derived.Sort.Row
import Derived.Shelf.Sort.Plain
import Derived.Shelf.Slices.In.SortNone
set_option linter.unusedSimpArgs false
set_option linter.unusedVariables false
namespace Go.Proofs
open Go.Shelf
def Tryz.lays156_ren : Go.Shelf.Ren := ⟨fun | 156 => 281 | 165 => 296 | 166 => 253 | 169 => 254 | 240 => 298 | 241 => 321 | 276 => 322 | 277 => 333 | n => n, fun | 31 => 82 | 9 => 9 | 3 => 3 | 4 => 4 | 0 => 0 | 20 => 20 | 72 => 272 | 76 => 275 | 70 => 269 | 37 => 270 | 75 => 274 | 127 => 307 | 164 => 325 | 5 => 5 | 80 => 222 | n => n, fun | n => n⟩
theorem Tryz.lays156 : Go.Proofs.Lays.n156 Tryz.prog Tryz.lays156_ren := {
 mixed := by kernel_rfl
 f156 := Tryz.func281.trans (congrArg some (by kernel_rfl))
 f165 := Tryz.func296.trans (congrArg some (by kernel_rfl))
 f166 := Tryz.func253.trans (congrArg some (by kernel_rfl))
 f169 := Tryz.func254.trans (congrArg some (by kernel_rfl))
 f240 := Tryz.func298.trans (congrArg some (by kernel_rfl))
 f241 := Tryz.func321.trans (congrArg some (by kernel_rfl))
 f276 := Tryz.func322.trans (congrArg some (by kernel_rfl))
 f277 := Tryz.func333.trans (congrArg some (by kernel_rfl))
 t0 := Tryz.underlying0
 a0 := Tryz.isAgg0
 z0 := Tryz.sizeOf0
 v0 := Tryz.zeroValue0
 t3 := Tryz.underlying3
 a3 := Tryz.isAgg3
 z3 := Tryz.sizeOf3
 v3 := Tryz.zeroValue3
 t4 := Tryz.underlying4
 a4 := Tryz.isAgg4
 z4 := Tryz.sizeOf4
 v4 := Tryz.zeroValue4
 t9 := Tryz.underlying9
 a9 := Tryz.isAgg9
 z9 := Tryz.sizeOf9
 v9 := Tryz.zeroValue9
 t20 := Tryz.underlying20
 a20 := Tryz.isAgg20
 z20 := Tryz.sizeOf20
 v20 := Tryz.zeroValue20
 t31 := Tryz.underlying82
 a31 := Tryz.isAgg82
 z31 := Tryz.sizeOf82
 v31 := Tryz.zeroValue82
 t37 := Tryz.underlying270
 a37 := Tryz.isAgg270
 z37 := Tryz.sizeOf270
 v37 := Tryz.zeroValue270
 t70 := Tryz.underlying269
 a70 := Tryz.isAgg269
 z70 := Tryz.sizeOf269
 v70 := Tryz.zeroValue269
 t72 := Tryz.underlying272
 a72 := Tryz.isAgg272
 z72 := Tryz.sizeOf272
 v72 := Tryz.zeroValue272
 t75 := Tryz.underlying274
 a75 := Tryz.isAgg274
 z75 := Tryz.sizeOf274
 v75 := Tryz.zeroValue274
 t76 := Tryz.underlying275
 a76 := Tryz.isAgg275
 z76 := Tryz.sizeOf275
 v76 := Tryz.zeroValue275
 t127 := Tryz.underlying307
 a127 := Tryz.isAgg307
 z127 := Tryz.sizeOf307
 v127 := Tryz.zeroValue307
 t164 := Tryz.underlying325
 a164 := Tryz.isAgg325
 z164 := Tryz.sizeOf325
 v164 := Tryz.zeroValue325 }
theorem Tryz.Builder_Extra_156 : Builder.Extra Tryz.prog Tryz.lays156_ren := {
 sizeBuilder := by kernel_rfl
 liesBuilder := by kernel_rfl
 t5 := Tryz.underlying5
 a5 := Tryz.isAgg5
 z5 := Tryz.sizeOf5
 v5 := Tryz.zeroValue5
 infoByte := by kernel_rfl
 cellsByte := by kernel_rfl
 sizeByte := by kernel_rfl
 neB5 := by decide }
open Go.RowKit in
theorem Tryz.strings_Join_none (a : Option Addr) (c : Nat) (sep : ByteArray) (w : World) :
  Calls Tryz.prog 281 #[.slice a 0 c, .string sep] w fun e w' => e = .returned (.string ⟨#[]⟩) ∧ w' = w := Any.strings_Join_none Tryz.lays156 Tryz.Builder_Extra_156 a c sep w
open Go.RowKit in
theorem Tryz.strings_Join (bk o c : Nat) (xs : List ByteArray) (sep : ByteArray) (w : World) (hcells : ∀ (j : Nat) x, xs[j]? = some x → w.cell? ⟨bk, o + j, none⟩ = some (.string x)) (hbk : bk < w.heap.size) (hN : xs.length ≤ 140737488355328) (hcap : xs.length ≤ c) (hlen : (Lib.join (xs.map (·.data.toList)) sep.data.toList).length ≤ 140737488355328) :
  Calls Tryz.prog 281 #[.slice (some ⟨bk, o, none⟩) xs.length c, .string sep] w fun e w' => e = .returned (.string ⟨(Lib.join (xs.map (·.data.toList)) sep.data.toList).toArray⟩) ∧ Below w.heap.size w w' := Any.strings_Join Tryz.lays156 Tryz.Builder_Extra_156 bk o c xs sep w hcells hbk hN hcap hlen
end Go.Proofs
namespace Go.Ev
open Go Go.Proofs Go.RowKit
noncomputable def strsA : List AV → Option (List (List UInt8))
 | [] => some []
 | .str s :: l => match strsA l with
  | some xs => some (s :: xs)
  | none => none
 | _ => none
noncomputable def joinK (l : List AV) (sep : List UInt8) : Option AV := match strsA l with
 | some xs => bif Nat.ble (Lib.join xs sep).length 100000 then some (.str (Lib.join xs sep)) else none
 | none => none
noncomputable def capLn (cap : Option Nat) (ln : Nat) : Bool := match cap with
 | some k => Nat.ble ln k
 | none => true
noncomputable def joinJ (v : AV) (sep : List UInt8) (h : T Blk) : Option AV := match v with
 | .sl id off ln cap esz => match T.get .no id h with
  | .cells _ m t => bif Nat.beq esz 1 && Nat.ble (off + ln) m && Nat.ble ln 100000 && capLn cap ln then joinK (rdList t off ln) sep else none
  | _ => none
 | .nils => some (.str [])
 | _ => none
noncomputable def hookJ (f : Nat) (args : List AV) (h : T Blk) : Option (AV × T Blk) := bif Nat.beq f 281 then (match args with
 | [v, .str sep] => match joinJ v sep h with
  | some v => some (v, h)
  | none => none
 | _ => none) else none
theorem strsA_eq : ∀ {l : List AV} {xs : List (List UInt8)}, strsA l = some xs → l = xs.map .str
 | [], xs, h => by simp [strsA] at h; subst h; rfl
 | x :: l, xs, h => by
  cases x <;> first | (simp [strsA] at h; done) | skip
  simp only [strsA] at h
  cases hl : strsA l with
  | none => simp [hl] at h
  | some ys => simp [hl] at h; subst h; simp [strsA_eq hl]
theorem HR.below {P : Program} {B : Nat} {E : Env} {h : T Blk} {nx : Pa} {w w' : World} (H : HR P B E h nx w) (hb : Below w.heap.size w w') : HR P B E h nx w' ∧ Ex E E w w' := by
 refine ⟨{
  blk := fun id hid => by
   obtain ⟨b, n, o, q1, q2, q3⟩ := H.blk id hid
   exact ⟨b, n, o, q1, by rw [hb.block b (H.lt _ _ _ q1).2]; exact q2, q3⟩
  inj := H.inj
  fresh := H.fresh
  lt := fun id b n hid => ⟨(H.lt id b n hid).1, Nat.lt_of_lt_of_le (H.lt id b n hid).2 hb.size⟩
  base := Nat.le_trans H.base hb.size
  frz := fun b i v hf => by
   obtain ⟨⟨c, ty, fr, q1, q2⟩, q3⟩ := H.frz b i v hf
   exact ⟨⟨c, ty, fr, by rw [hb.block b (Array.getElem?_eq_some_iff.1 q1).1]; exact q1, q2⟩, q3⟩ }, ?_⟩
 exact ⟨.refl _, hb.os, hb.tape, hb.output, hb.size, fun b hlt _ => hb.block b hlt, fun id b n hid => .inr ⟨id, n, hid⟩, fun _ _ v h => .inr (.inl ⟨v, h⟩), fun b L hL => ⟨L, by rw [hb.block b (Array.getElem?_eq_some_iff.1 hL).1]; exact hL, .refl _⟩⟩
theorem hookJ_ok {B : Nat} : JOk Tryz.prog B hookJ := by
 intro E h nx w f args vs v h2 H hv hj
 unfold hookJ at hj
 cases hf : Nat.beq f 281 with
 | false => simp [hf] at hj
 | true =>
  obtain rfl := of_beq hf
  rw [hf, cond_true] at hj
  split at hj
  case h_2 => cases hj
  rename_i _ x sep
  cases hjj : joinJ x sep h with
  | none => simp [hjj] at hj
  | some v0 =>
  simp only [hjj, Option.some.injEq, Prod.mk.injEq] at hj
  obtain ⟨rfl, rfl⟩ := hj
  have hj := hjj
  clear hjj
  refine ⟨_, Tryz.func281, by kernel_rfl, by kernel_rfl, fun n => callsIn_wide.2 ?_⟩
  obtain ⟨l⟩ := vs
  simp only [VRL] at hv
  obtain ⟨u, _, rfl, hu, s, _, rfl, hs, rfl⟩ := hv
  simp only [VR] at hs
  subst hs
  have fin : ∀ (xs : List (List UInt8)) (w' : World) (e : Ending), v0 = .str (Lib.join xs sep) → e = .returned (.string ⟨(Lib.join ((xs.map fun s => (⟨s.toArray⟩ : ByteArray)).map (·.data.toList)) (⟨sep.toArray⟩ : ByteArray).data.toList).toArray⟩) → Below w.heap.size w w' →
    ∃ u E', e = .returned u ∧ VR E' v0 u ∧ HR Tryz.prog B E' h nx w' ∧ Ex E E' w w' := by
   intro xs w' e hve he hb
   obtain ⟨h1, h2⟩ := H.below hb
   refine ⟨_, E, he, ?_, h1, h2⟩
   rw [hve]
   simp only [VR, List.map_map]
   congr 2
   have : (xs.map ((fun x => x.data.toList) ∘ fun s => (⟨s.toArray⟩ : ByteArray))) = xs := by
    conv => rhs; rw [← List.map_id xs]
    exact List.map_congr_left fun _ _ => rfl
   rw [this]
  unfold joinJ at hj
  split at hj
  ·rename_i id off ln cap esz
   split at hj
   ·rename_i op m t hb
    cases hq : (Nat.beq esz 1 && Nat.ble (off + ln) m && Nat.ble ln 100000 && capLn cap ln) with
    | false => simp [hq] at hj
    | true =>
     rw [hq, cond_true] at hj
     simp only [Bool.and_eq_true] at hq
     obtain ⟨⟨⟨q1, q2⟩, q3⟩, q4⟩ := hq
     obtain rfl := of_beq q1
     have q2 := of_ble q2
     have q3 := of_ble q3
     unfold joinK at hj
     cases hx : strsA (rdList t off ln) with
     | none => simp [hx] at hj
     | some xs =>
      simp only [hx] at hj
      cases hl : Nat.ble (Lib.join xs sep).length 100000 with
      | false => simp [hl] at hj
      | true =>
       rw [hl, cond_true] at hj
       have hl := of_ble hl
       obtain rfl := (Option.some.inj hj).symm
       have hxs := strsA_eq hx
       have hln : xs.length = ln := by
        have := congrArg List.length hxs
        simpa using this.symm
       obtain ⟨b, n, c, hE, rfl, hcap⟩ := hu.sl_inv
       obtain ⟨b', n', o, h1, h2, h3⟩ := H.blk id (by rw [hb]; intro e; cases e)
       rw [hE] at h1; cases h1
       rw [hb] at h3
       obtain ⟨cs, ty, fr, rfl, _, _, _, _, hc⟩ := h3
       have hjn := Tryz.strings_Join b off c (xs.map fun s => (⟨s.toArray⟩ : ByteArray)) ⟨sep.toArray⟩ w (by
        intro j x hx2
        rw [List.getElem?_map] at hx2
        cases hxj : xs[j]? with
        | none => simp [hxj] at hx2
        | some s =>
         simp [hxj] at hx2
         subst hx2
         have hjl : j < ln := by rw [← hln]; exact (List.getElem?_eq_some_iff.1 hxj).1
         obtain ⟨_, v', g1, g2⟩ := hc (off + j) (by omega)
         have he : T.get .undef (.of (off + j)) t = .str s := by
          have e1 := rdList_get t off ln j hjl
          rw [hxs] at e1
          simp [hxj] at e1
          exact e1.symm
         rw [he] at g2
         simp only [VR] at g2
         subst g2
         simp [World.cell?, h2, g1]) (H.lt _ _ _ hE).2 (by simp; omega) (by
          simp only [List.length_map, hln]
          cases cap with
          | none => exact hcap.1
          | some k =>
           have h4 : ln ≤ k := of_ble q4
           have h5 : c = k := hcap
           omega) (by
          have : ((xs.map fun s => (⟨s.toArray⟩ : ByteArray)).map (·.data.toList)) = xs := by
           rw [List.map_map]
           conv => rhs; rw [← List.map_id xs]
           exact List.map_congr_left fun _ _ => rfl
          rw [this]
          show (Lib.join xs sep).length ≤ _
          omega)
       rw [List.length_map, hln] at hjn
       exact hjn.mono fun e w' ⟨he, hb⟩ => fin xs w' e rfl he hb
   ·cases hj
  ·obtain rfl := (Option.some.inj hj).symm
   simp only [VR] at hu
   subst hu
   exact (Tryz.strings_Join_none none 0 _ w).mono fun e w' ⟨he, hb⟩ => fin [] w' e rfl he (hb ▸ Below.refl _ _)
  ·cases hj
end Go.Ev
namespace Go.Ev
abbrev srt (l : List Int) : List Int := l.mergeSort fun x y => decide (x ≤ y)
theorem srt_perm (l : List Int) : (srt l).Perm l := List.mergeSort_perm l _
structure Ins (l out : List Int) (i k : Nat) : Prop where
 perm : out.Perm l
 ex : ∃ (A : List Int) (x : Int) (B R : List Int), out = A ++ x :: (B ++ R) ∧ A.length = k ∧ A.length + B.length = i ∧ (A ++ B).Pairwise (· ≤ ·) ∧ ∀ b ∈ B, x < b
theorem Ins.swap {l out : List Int} {i k : Nat} (H : Ins l out i (k + 1)) {a x : Int} (ha : out[k]? = some a) (hx : out[k + 1]? = some x) (hlt : x < a) : Ins l ((out.set (k + 1) a).set k x) i k := by
 obtain ⟨hp, A, x', B, R, rfl, hA, hi, hs, hb⟩ := H
 obtain ⟨A, a', rfl⟩ : ∃ A' a', A = A' ++ [a'] := ⟨A.dropLast, A.getLast (by intro q; rw [q] at hA; simp at hA), (List.dropLast_concat_getLast _).symm⟩
 have hA' : A.length = k := by simpa using hA
 have e1 : a' = a := by
  rw [List.append_assoc, List.getElem?_append_right (by omega), hA', Nat.sub_self] at ha
  simpa using ha
 have e2 : x' = x := by
  rw [List.getElem?_append_right (by simp; omega)] at hx
  simp [hA'] at hx
  exact hx
 subst e1 e2
 have e3 : ((A ++ [a'] ++ x' :: (B ++ R)).set (k + 1) a').set k x' = A ++ x' :: ((a' :: B) ++ R) := by
  have h1 : (A ++ [a'] ++ x' :: (B ++ R)).set (k + 1) a' = A ++ a' :: a' :: (B ++ R) := by
   rw [List.append_assoc, List.set_append_right _ _ (by omega), hA', show k + 1 - k = 1 by omega]; rfl
  rw [h1, List.set_append_right _ _ (by omega), hA', Nat.sub_self]; rfl
 rw [e3]
 refine ⟨List.Perm.trans ?_ hp, A, x', a' :: B, R, rfl, hA', by simp at hi ⊢; omega, by simpa [List.append_assoc] using hs, ?_⟩
 ·rw [List.append_assoc]
  refine List.Perm.append_left A ?_
  exact List.Perm.swap _ _ _
 ·intro b hb'
  rcases List.mem_cons.1 hb' with rfl | q
  ·exact hlt
  ·exact hb b q
theorem Ins.done {l out : List Int} {i k : Nat} (H : Ins l out i k) (h : k = 0 ∨ ∃ j a x, k = j + 1 ∧ out[j]? = some a ∧ out[k]? = some x ∧ ¬ x < a) : out.Perm l ∧ (out.take (i + 1)).Pairwise (· ≤ ·) := by
 obtain ⟨hp, A, x, B, R, rfl, hA, hi, hs, hb⟩ := H
 refine ⟨hp, ?_⟩
 have e : (A ++ x :: (B ++ R)).take (i + 1) = A ++ x :: B := by
  rw [show A ++ x :: (B ++ R) = (A ++ x :: B) ++ R by simp]
  exact List.take_left' (by simp; omega)
 rw [e]
 have hs' := List.pairwise_append.1 hs
 refine List.pairwise_append.2 ⟨hs'.1, List.pairwise_cons.2 ⟨fun b hb' => by have := hb b hb'; omega, hs'.2.1⟩, ?_⟩
 have key : ∀ a ∈ A, a ≤ x := by
  rcases h with rfl | ⟨j, a0, x0, rfl, h1, h2, h3⟩
  ·obtain rfl : A = [] := List.eq_nil_of_length_eq_zero hA
   simp
  ·obtain ⟨A, a', rfl⟩ : ∃ A' a', A = A' ++ [a'] := ⟨A.dropLast, A.getLast (by intro q; rw [q] at hA; simp at hA), (List.dropLast_concat_getLast _).symm⟩
   have hA' : A.length = j := by simpa using hA
   have e1 : a' = a0 := by
    rw [List.append_assoc, List.getElem?_append_right (by omega), hA', Nat.sub_self] at h1
    simpa using h1
   have e2 : x = x0 := by
    rw [List.getElem?_append_right (by simp; omega)] at h2
    simp [hA'] at h2
    exact h2
   subst e1 e2
   intro a ha
   rcases List.mem_append.1 ha with q | q
   ·have := (List.pairwise_append.1 hs'.1).2.2 a q a' (by simp); omega
   ·simp at q; omega
 intro a ha b hb'
 rcases List.mem_cons.1 hb' with rfl | q
 ·exact key a ha
 ·exact hs'.2.2 a ha b q
def incr (d : List Int) (c : Int) : List Int := d.set c.toNat (d.getD c.toNat 0 + 1)
@[simp] theorem incr_length (d : List Int) (c : Int) : (incr d c).length = d.length := by simp [incr]
def Bd (d : List Int) (M : Nat) : Prop := ∀ v ∈ d, 0 ≤ v ∧ v ≤ (M : Int)
theorem Bd.incr {d : List Int} {M : Nat} (h : Bd d M) {c : Int} (hc : c.toNat < d.length) : Bd (incr d c) (M + 1) := by
 intro v hv
 rcases List.mem_or_eq_of_mem_set hv with q | rfl
 ·have := h v q; omega
 ·rw [List.getD_eq_getElem?_getD, List.getElem?_eq_getElem hc]
  have := h _ (List.getElem_mem hc)
  simp only [Option.getD_some]; omega
theorem Bd.mono {d : List Int} {M N : Nat} (h : Bd d M) (hm : M ≤ N) : Bd d N := fun v hv => by have := h v hv; omega
theorem Bd.srt {d : List Int} {M : Nat} (h : Bd d M) : Bd (Ev.srt d) M := fun v hv => h v ((srt_perm d).mem_iff.1 hv)
@[simp] theorem srt_length (d : List Int) : (Ev.srt d).length = d.length := (srt_perm d).length_eq
end Go.Ev
namespace Go.Ev
open Go Go.Proofs Go.RowKit Go.Sort
noncomputable def intsA : List AV → Option (List Int)
 | [] => some []
 | .int k n :: l => match k with
  | .i64 => match intsA l with
   | some xs => some (n :: xs)
   | none => none
  | _ => none
 | _ => none
theorem intsA_eq : ∀ {l : List AV} {xs : List Int}, intsA l = some xs → l = xs.map I
 | [], xs, h => by simp [intsA] at h; subst h; rfl
 | x :: l, xs, h => by
  cases x <;> first | (simp [intsA] at h; done) | skip
  rename_i k n
  cases k <;> first | (simp [intsA] at h; done) | skip
  simp only [intsA] at h
  cases hl : intsA l with
  | none => simp [hl] at h
  | some ys => simp [hl] at h; subst h; simp [intsA_eq hl]
theorem intsA_map (l : List Int) : intsA (l.map I) = some l := by
 induction l with
 | nil => rfl
 | cons a l ih => show (match intsA (l.map I) with | some xs => some (a :: xs) | none => none) = _; rw [ih]
noncomputable def sortJ (v : AV) (h : T Blk) : Option (T Blk) := match v with
 | .sl id off ln _ esz => match T.get .no id h with
  | .cells op m t => bif Nat.beq esz 1 && Nat.ble (off + ln) m && Nat.ble ln 1000000 then (match intsA (rdList t off ln) with
   | some l => some (T.set .no (.cells op m (wrList ((srt l).map I) t off)) id h)
   | none => none) else none
  | _ => none
 | .nils => some h
 | _ => none
noncomputable def hookS (f : Nat) (args : List AV) (h : T Blk) : Option (AV × T Blk) := bif Nat.beq f 243 then (match args with
 | [v] => match sortJ v h with
  | some h => some (.tup [], h)
  | none => none
 | _ => none) else none
theorem HR.sorted {P : Program} {B : Nat} {E : Env} {h : T Blk} {nx : Pa} {w : World} (H : HR P B E h nx w) {id : Pa} {op : Bool} {m off b n k : Nat} {t : T AV} {l l' : List Int} {os : Array Obj} (hb : T.get .no id h = .cells op m t) (hE : E id = some (b, n))
  (hl' : l'.length = l.length) (hm : off + l.length ≤ m) :
  HR P B E (T.set .no (.cells op m (wrList (l'.map I) t off)) id h) nx (grow (putRow (Value.int .i64) (Sort.ahead w k) b off l'.toArray) os) ∧ Ex E E w (grow (putRow (Value.int .i64) (Sort.ahead w k) b off l'.toArray) os) := by
 have hid : T.get .no id h ≠ .no := by rw [hb]; intro e; cases e
 obtain ⟨b', n', o, h1, h2, h3⟩ := H.blk id hid
 rw [hE] at h1; cases h1
 rw [hb] at h3
 obtain ⟨c, ty, fr, rfl, q1, q2, q3, q4, q5⟩ := h3
 have hcs : (putCells (Value.int .i64) off l'.toArray c).size = c.size := by simp [putCells]
 have hbr : BR P E n (.cells op m (wrList (l'.map I) t off)) (.cells (putCells (Value.int .i64) off l'.toArray c) ty fr) := by
  refine ⟨_, ty, fr, rfl, by rw [hcs]; exact q1, by rw [hcs]; exact q2, q3, q4, fun i hi => ?_⟩
  rw [wrList_get]
  have hic : i < c.size := by omega
  have hce : (putCells (Value.int .i64) off l'.toArray c)[i]? = some (if off ≤ i ∧ i < off + l'.length then Value.int .i64 (l'.toArray[i - off]!) else c[i]) := by
   simp [putCells, Array.getElem?_eq_getElem hic]
  rw [List.length_map]
  by_cases hr : off ≤ i ∧ i < off + l'.length
  ·rw [if_pos hr]
   rw [if_pos hr] at hce
   have hj : i - off < l'.length := by omega
   have e1 : (l'.map I).getD (i - off) .undef = I l'[i - off] := by
    rw [List.getD_eq_getElem?_getD, List.getElem?_map, List.getElem?_eq_getElem hj]; rfl
   have e2 : l'.toArray[i - off]! = l'[i - off] := by simp [getElem!_pos, hj]
   rw [e1]
   exact ⟨rfl, _, hce, by rw [e2]; simp only [VR]⟩
  ·rw [if_neg hr]
   rw [if_neg hr] at hce
   obtain ⟨r1, v, r2, r3⟩ := q5 i hi
   rw [Array.getElem?_eq_getElem hic] at r2
   exact ⟨r1, _, hce, by rw [Option.some.inj r2]; exact r3⟩
 have H1 := H.put hid hE hbr
 have X1 : Ex E E w (w.putObj b (.cells (putCells (Value.int .i64) off l'.toArray c) ty fr)) := Ex.put hE h2 fun L hL => by cases hL
 have hbl : b < w.heap.size := (Array.getElem?_eq_some_iff.1 h2).1
 have hBel : Below (w.putObj b (.cells (putCells (Value.int .i64) off l'.toArray c) ty fr)).heap.size (w.putObj b (.cells (putCells (Value.int .i64) off l'.toArray c) ty fr)) (grow (putRow (Value.int .i64) (Sort.ahead w k) b off l'.toArray) os) := by
  refine ⟨rfl, rfl, rfl, ?_, fun j hj => ?_⟩
  ·rw [World.putObj_size]; simp [grow, putRow, mapBlock, Sort.ahead]
  ·rw [World.putObj_size] at hj
   have e1 : (grow (putRow (Value.int .i64) (Sort.ahead w k) b off l'.toArray) os).heap[j]? = (w.heap.modify b (onCells (putCells (Value.int .i64) off l'.toArray)))[j]? := by
    show (w.heap.modify b (onCells (putCells (Value.int .i64) off l'.toArray)) ++ os)[j]? = _
    rw [Array.getElem?_append_left (by simpa using hj)]
   rw [e1, Array.getElem?_modify]
   by_cases e : b = j
   ·subst e
    rw [if_pos rfl, h2, heap_put_same _ hbl]; rfl
   ·rw [if_neg e, heap_put_other _ (fun q => e q.symm)]
 obtain ⟨r1, r2⟩ := H1.below hBel
 exact ⟨r1, X1.trans r2⟩
theorem hookS_ok {B : Nat} (law : ∀ (blk off cap : Nat) (zs : List Int) (w : World), Holds (Value.int .i64) w blk off zs.toArray → blk < w.heap.size → zs.length < 4611686018427387904 →
   Go.Calls Tryz.prog 243 #[.slice (some ⟨blk, off, none⟩) zs.length cap] w fun e w' => e = .returned (.tuple #[]) ∧ ∃ n os, w' = grow (putRow (Value.int .i64) (Sort.ahead w n) blk off (zs.mergeSort fun x y => decide (x ≤ y)).toArray) os)
  (law0 : ∀ (p : Option Addr) (cap : Nat) (w : World), Go.Calls Tryz.prog 243 #[.slice p 0 cap] w fun e w' => e = .returned (.tuple #[]) ∧ w' = w) : JOk Tryz.prog B hookS := by
 intro E h nx w f args vs v h2 H hv hj
 unfold hookS at hj
 cases hf : Nat.beq f 243 with
 | false => simp [hf] at hj
 | true =>
  obtain rfl := of_beq hf
  rw [hf, cond_true] at hj
  split at hj
  case h_2 => cases hj
  rename_i _ x
  cases hjj : sortJ x h with
  | none => simp [hjj] at hj
  | some hs =>
  simp only [hjj, Option.some.injEq, Prod.mk.injEq] at hj
  obtain ⟨rfl, rfl⟩ := hj
  refine ⟨_, Tryz.func243, by kernel_rfl, by kernel_rfl, fun n => callsIn_wide.2 ?_⟩
  obtain ⟨l⟩ := vs
  simp only [VRL] at hv
  obtain ⟨u, _, rfl, hu, rfl⟩ := hv
  unfold sortJ at hjj
  split at hjj
  ·rename_i id off ln cap esz
   split at hjj
   ·rename_i op m t hb
    cases hq : (Nat.beq esz 1 && Nat.ble (off + ln) m && Nat.ble ln 1000000) with
    | false => simp [hq] at hjj
    | true =>
     rw [hq, cond_true] at hjj
     simp only [Bool.and_eq_true] at hq
     obtain ⟨⟨q1, q2⟩, q3⟩ := hq
     obtain rfl := of_beq q1
     have q2 := of_ble q2
     have q3 := of_ble q3
     cases hx : intsA (rdList t off ln) with
     | none => simp [hx] at hjj
     | some xs =>
      simp only [hx, Option.some.injEq] at hjj
      subst hjj
      have hxs := intsA_eq hx
      have hln : xs.length = ln := by
       have := congrArg List.length hxs
       simpa using this.symm
      obtain ⟨b, n, c, hE, rfl, hcap⟩ := hu.sl_inv
      obtain ⟨b', n', o, h1, h2, h3⟩ := H.blk id (by rw [hb]; intro e; cases e)
      rw [hE] at h1; cases h1
      rw [hb] at h3
      obtain ⟨cs, ty, fr, rfl, g1, g2, g3, g4, hc⟩ := h3
      have hH : Holds (Value.int .i64) w b off xs.toArray := by
       intro j hj
       have hj : j < xs.length := by simpa using hj
       obtain ⟨_, v', k1, k2⟩ := hc (off + j) (by omega)
       have he : T.get .undef (.of (off + j)) t = I xs[j] := by
        have e1 := rdList_get t off ln j (by omega)
        rw [hxs, List.getElem?_map, List.getElem?_eq_getElem hj] at e1
        exact (Option.some.inj e1).symm
       rw [he] at k2
       simp only [VR] at k2
       subst k2
       have e2 : xs.toArray[j]! = xs[j] := by simp [getElem!_pos, hj]
       rw [e2]
       refine ⟨by simp [World.cell?, h2, k1], ?_⟩
       have := g1 (off + j) (Array.getElem?_eq_some_iff.1 k1).1
       simp only [World.frozen?, h2]
       obtain ⟨lo, hi⟩ := fr
       simp only [Bool.and_eq_false_iff, decide_eq_false_iff_not]
       simp only at this
       omega
      rw [← hln]
      refine (law b off c xs w hH (H.lt _ _ _ hE).2 (by omega)).mono ?_
      rintro e w' ⟨rfl, k, os, rfl⟩
      have hp : (srt xs).length = xs.length := (srt_perm xs).length_eq
      obtain ⟨r1, r2⟩ := H.sorted (off := off) (l := xs) (l' := srt xs) (k := k) (os := os) hb hE hp (by omega)
      exact ⟨_, E, rfl, by simp only [VR, VRL]; exact ⟨_, rfl, rfl⟩, r1, r2⟩
   ·cases hjj
  ·obtain rfl := (Option.some.inj hjj).symm
   simp only [VR] at hu
   subst hu
   refine (law0 none 0 w).mono ?_
   rintro e w' ⟨rfl, rfl⟩
   exact ⟨_, E, rfl, by simp only [VR, VRL]; exact ⟨_, rfl, rfl⟩, H, .refl _ _⟩
  ·cases hjj
end Go.Ev
namespace Go.Proofs
open Go.Shelf
def Tryz.lays189_ren : Go.Shelf.Ren := ⟨fun | 189 => 243 | 125 => 284 | 257 => 283 | 128 => 311 | 129 => 312 | 294 => 302 | 295 => 303 | 296 => 304 | 297 => 305 | 298 => 306 | 299 => 307 | 216 => 308 | 300 => 309 | 301 => 310 | 328 => 323 | 329 => 324 | 330 => 325 | 331 => 326 | 332 => 327 | 215 => 328 | 343 => 334 | n => n, fun | 28 => 36 | 3 => 3 | 46 => 289 | 0 => 0 | 51 => 317 | 53 => 264 | 4 => 4 | 183 => 310 | 182 => 309 | 131 => 162 | 5 => 5 | 9 => 9 | 218 => 327 | 222 => 331 | 228 => 337 | 229 => 60 | n => n, fun | n => n⟩
theorem Tryz.lays189 : Go.Proofs.Lays.n189 Tryz.prog Tryz.lays189_ren := {
 mixed := by kernel_rfl
 f125 := Tryz.func284.trans (congrArg some (by kernel_rfl))
 f128 := Tryz.func311.trans (congrArg some (by kernel_rfl))
 f129 := Tryz.func312.trans (congrArg some (by kernel_rfl))
 f189 := Tryz.func243.trans (congrArg some (by kernel_rfl))
 f215 := Tryz.func328.trans (congrArg some (by kernel_rfl))
 f216 := Tryz.func308.trans (congrArg some (by kernel_rfl))
 f257 := Tryz.func283.trans (congrArg some (by kernel_rfl))
 f294 := Tryz.func302.trans (congrArg some (by kernel_rfl))
 f295 := Tryz.func303.trans (congrArg some (by kernel_rfl))
 f296 := Tryz.func304.trans (congrArg some (by kernel_rfl))
 f297 := Tryz.func305.trans (congrArg some (by kernel_rfl))
 f298 := Tryz.func306.trans (congrArg some (by kernel_rfl))
 f299 := Tryz.func307.trans (congrArg some (by kernel_rfl))
 f300 := Tryz.func309.trans (congrArg some (by kernel_rfl))
 f301 := Tryz.func310.trans (congrArg some (by kernel_rfl))
 f328 := Tryz.func323.trans (congrArg some (by kernel_rfl))
 f329 := Tryz.func324.trans (congrArg some (by kernel_rfl))
 f330 := Tryz.func325.trans (congrArg some (by kernel_rfl))
 f331 := Tryz.func326.trans (congrArg some (by kernel_rfl))
 f332 := Tryz.func327.trans (congrArg some (by kernel_rfl))
 f343 := Tryz.func334.trans (congrArg some (by kernel_rfl))
 t0 := Tryz.underlying0
 a0 := Tryz.isAgg0
 z0 := Tryz.sizeOf0
 v0 := Tryz.zeroValue0
 t3 := Tryz.underlying3
 a3 := Tryz.isAgg3
 z3 := Tryz.sizeOf3
 v3 := Tryz.zeroValue3
 t4 := Tryz.underlying4
 a4 := Tryz.isAgg4
 z4 := Tryz.sizeOf4
 v4 := Tryz.zeroValue4
 t5 := Tryz.underlying5
 a5 := Tryz.isAgg5
 z5 := Tryz.sizeOf5
 v5 := Tryz.zeroValue5
 t9 := Tryz.underlying9
 a9 := Tryz.isAgg9
 z9 := Tryz.sizeOf9
 v9 := Tryz.zeroValue9
 t28 := Tryz.underlying36
 a28 := Tryz.isAgg36
 z28 := Tryz.sizeOf36
 v28 := Tryz.zeroValue36
 t46 := Tryz.underlying289
 a46 := Tryz.isAgg289
 z46 := Tryz.sizeOf289
 v46 := Tryz.zeroValue289
 t51 := Tryz.underlying317
 a51 := Tryz.isAgg317
 z51 := Tryz.sizeOf317
 v51 := Tryz.zeroValue317
 t53 := Tryz.underlying264
 a53 := Tryz.isAgg264
 z53 := Tryz.sizeOf264
 v53 := Tryz.zeroValue264
 t131 := Tryz.underlying162
 a131 := Tryz.isAgg162
 z131 := Tryz.sizeOf162
 v131 := Tryz.zeroValue162
 t182 := Tryz.underlying309
 a182 := Tryz.isAgg309
 z182 := Tryz.sizeOf309
 v182 := Tryz.zeroValue309
 t183 := Tryz.underlying310
 a183 := Tryz.isAgg310
 z183 := Tryz.sizeOf310
 v183 := Tryz.zeroValue310
 t218 := Tryz.underlying327
 a218 := Tryz.isAgg327
 z218 := Tryz.sizeOf327
 v218 := Tryz.zeroValue327
 t222 := Tryz.underlying331
 a222 := Tryz.isAgg331
 z222 := Tryz.sizeOf331
 v222 := Tryz.zeroValue331
 t228 := Tryz.underlying337
 a228 := Tryz.isAgg337
 z228 := Tryz.sizeOf337
 v228 := Tryz.zeroValue337
 t229 := Tryz.underlying60
 a229 := Tryz.isAgg60
 z229 := Tryz.sizeOf60
 v229 := Tryz.zeroValue60 }
open Go.Sort Go.RowKit in
theorem Tryz.slices_Sort_int (blk off cap : Nat) (zs : List Int) (w : World) (hH : Holds (Value.int .i64) w blk off zs.toArray) (hblk : blk < w.heap.size) (hsz : zs.length < 4611686018427387904) :
  Calls Tryz.prog 243 #[.slice (some ⟨blk, off, none⟩) zs.length cap] w fun e w' =>
   e = .returned (.tuple #[]) ∧ ∃ n os, w' = grow (putRow (Value.int .i64) (Sort.ahead w n) blk off (zs.mergeSort fun x y => decide (x ≤ y)).toArray) os := Any.slices_Sort_int Tryz.lays189 blk off cap zs w hH hblk hsz
open Go.RowKit Go.Sort in
theorem Tryz.slices_Sort_int_none (p : Option Addr) (cap : Nat) (w : World) :
  Calls Tryz.prog 243 #[.slice p 0 cap] w fun e w' => e = .returned (.tuple #[]) ∧ w' = w := Any.slices_Sort_int_none Tryz.lays189 p cap w
end Go.Proofs
