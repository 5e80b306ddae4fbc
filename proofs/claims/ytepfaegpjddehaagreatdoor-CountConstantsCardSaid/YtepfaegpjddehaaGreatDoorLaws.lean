import Derived.Shelf.Strings.OnBuilder
import Derived.Test.YtepfaegpjddehaaGreatDoorProg
import Derived.Test.YtepfaegpjddehaaGreatDoorEvC
import GoSem.Core.Next
import Derived.Test.YtepfaegpjddehaaGreatDoorEvD
import Derived.Sort.Grow
import Derived.Sort.Row
import Derived.Shelf.Sort.Plain
import Derived.Shelf.Slices.In.SortNone
set_option linter.unusedSimpArgs false
set_option linter.unusedVariables false
namespace Go.Proofs
open Go.Shelf
def Tryz.lays156_ren : Go.Shelf.Ren := ⟨fun | 156 => 189 | 165 => 207 | 166 => 208 | 169 => 209 | 240 => 215 | 241 => 216 | 276 => 223 | 277 => 224 | n => n, fun | 31 => 204 | 9 => 9 | 3 => 3 | 4 => 4 | 0 => 0 | 20 => 20 | 72 => 223 | 76 => 227 | 70 => 220 | 37 => 221 | 75 => 226 | 127 => 233 | 164 => 240 | 5 => 5 | 80 => 217 | n => n, fun | n => n⟩
theorem Tryz.lays156 : Go.Proofs.Lays.n156 Tryz.prog Tryz.lays156_ren := {
 mixed := by kernel_rfl
 f156 := Tryz.func189.trans (congrArg some (by kernel_rfl))
 f165 := Tryz.func207.trans (congrArg some (by kernel_rfl))
 f166 := Tryz.func208.trans (congrArg some (by kernel_rfl))
 f169 := Tryz.func209.trans (congrArg some (by kernel_rfl))
 f240 := Tryz.func215.trans (congrArg some (by kernel_rfl))
 f241 := Tryz.func216.trans (congrArg some (by kernel_rfl))
 f276 := Tryz.func223.trans (congrArg some (by kernel_rfl))
 f277 := Tryz.func224.trans (congrArg some (by kernel_rfl))
 t0 := Tryz.underlying0
 a0 := Tryz.isAgg0
 z0 := Tryz.sizeOf0
 v0 := Tryz.zeroValue0
 t3 := Tryz.underlying3
 a3 := Tryz.isAgg3
 z3 := Tryz.sizeOf3
 v3 := Tryz.zeroValue3
 t4 := Tryz.underlying4
 a4 := Tryz.isAgg4
 z4 := Tryz.sizeOf4
 v4 := Tryz.zeroValue4
 t9 := Tryz.underlying9
 a9 := Tryz.isAgg9
 z9 := Tryz.sizeOf9
 v9 := Tryz.zeroValue9
 t20 := Tryz.underlying20
 a20 := Tryz.isAgg20
 z20 := Tryz.sizeOf20
 v20 := Tryz.zeroValue20
 t31 := Tryz.underlying204
 a31 := Tryz.isAgg204
 z31 := Tryz.sizeOf204
 v31 := Tryz.zeroValue204
 t37 := Tryz.underlying221
 a37 := Tryz.isAgg221
 z37 := Tryz.sizeOf221
 v37 := Tryz.zeroValue221
 t70 := Tryz.underlying220
 a70 := Tryz.isAgg220
 z70 := Tryz.sizeOf220
 v70 := Tryz.zeroValue220
 t72 := Tryz.underlying223
 a72 := Tryz.isAgg223
 z72 := Tryz.sizeOf223
 v72 := Tryz.zeroValue223
 t75 := Tryz.underlying226
 a75 := Tryz.isAgg226
 z75 := Tryz.sizeOf226
 v75 := Tryz.zeroValue226
 t76 := Tryz.underlying227
 a76 := Tryz.isAgg227
 z76 := Tryz.sizeOf227
 v76 := Tryz.zeroValue227
 t127 := Tryz.underlying233
 a127 := Tryz.isAgg233
 z127 := Tryz.sizeOf233
 v127 := Tryz.zeroValue233
 t164 := Tryz.underlying240
 a164 := Tryz.isAgg240
 z164 := Tryz.sizeOf240
 v164 := Tryz.zeroValue240 }
theorem Tryz.Builder_Extra_156 : Builder.Extra Tryz.prog Tryz.lays156_ren := {
 sizeBuilder := by kernel_rfl
 liesBuilder := by kernel_rfl
 t5 := Tryz.underlying5
 a5 := Tryz.isAgg5
 z5 := Tryz.sizeOf5
 v5 := Tryz.zeroValue5
 infoByte := by kernel_rfl
 cellsByte := by kernel_rfl
 sizeByte := by kernel_rfl
 neB5 := by decide }
open Go.RowKit in
theorem Tryz.strings_Join_none (a : Option Addr) (c : Nat) (sep : ByteArray) (w : World) :
  Calls Tryz.prog 189 #[.slice a 0 c, .string sep] w fun e w' => e = .returned (.string ⟨#[]⟩) ∧ w' = w := Any.strings_Join_none Tryz.lays156 Tryz.Builder_Extra_156 a c sep w
open Go.RowKit in
theorem Tryz.strings_Join (bk o c : Nat) (xs : List ByteArray) (sep : ByteArray) (w : World) (hcells : ∀ (j : Nat) x, xs[j]? = some x → w.cell? ⟨bk, o + j, none⟩ = some (.string x)) (hbk : bk < w.heap.size) (hN : xs.length ≤ 140737488355328) (hcap : xs.length ≤ c) (hlen : (Lib.join (xs.map (·.data.toList)) sep.data.toList).length ≤ 140737488355328) :
  Calls Tryz.prog 189 #[.slice (some ⟨bk, o, none⟩) xs.length c, .string sep] w fun e w' => e = .returned (.string ⟨(Lib.join (xs.map (·.data.toList)) sep.data.toList).toArray⟩) ∧ Below w.heap.size w w' := Any.strings_Join Tryz.lays156 Tryz.Builder_Extra_156 bk o c xs sep w hcells hbk hN hcap hlen
end Go.Proofs
namespace Go.Ev
open Go Go.Proofs Go.RowKit
noncomputable def vY : List AV → Option (List (List UInt8))
 | [] => some []
 | .str s :: l => match vY l with
  | some xs => some (s :: xs)
  | none => none
 | _ => none
noncomputable def joinK (l : List AV) (sep : List UInt8) : Option AV := match vY l with
 | some xs => bif Nat.ble (Lib.join xs sep).length 100000 then some (.str (Lib.join xs sep)) else none
 | none => none
noncomputable def capLn (cap : Option Nat) (ln : Nat) : Bool := match cap with
 | some k => Nat.ble ln k
 | none => true
noncomputable def joinJ (v : AV) (sep : List UInt8) (h : T Blk) : Option AV := match v with
 | .sl id off ln cap esz => match T.get .no id h with
  | .cells _ m t => bif Nat.beq esz 1 && Nat.ble (off + ln) m && Nat.ble ln 100000 && capLn cap ln then joinK (yM t off ln) sep else none
  | _ => none
 | .nils => some (.str [])
 | _ => none
noncomputable def hookJ (f : Nat) (args : List AV) (h : T Blk) : Option (AV × T Blk) := bif Nat.beq f 189 then (match args with
 | [v, .str sep] => match joinJ v sep h with
  | some v => some (v, h)
  | none => none
 | _ => none) else none
theorem strsA_eq : ∀ {l : List AV} {xs : List (List UInt8)}, vY l = some xs → l = xs.map .str
 | [], xs, h => by simp [vY] at h; subst h; rfl
 | x :: l, xs, h => by
  cases x <;> first | (simp [vY] at h; done) | skip
  simp only [vY] at h
  cases hl : vY l with
  | none => simp [hl] at h
  | some ys => simp [hl] at h; subst h; simp [strsA_eq hl]
theorem HR.below {P : Program} {B : Nat} {E : Env} {h : T Blk} {nx : Pa} {w w' : World} (H : HR P B E h nx w) (hb : Below w.heap.size w w') : HR P B E h nx w' ∧ Ex E E w w' := by
 refine ⟨{
  blk := fun id hid => by
   obtain ⟨b, n, o, q1, q2, q3⟩ := H.blk id hid
   exact ⟨b, n, o, q1, by rw [hb.block b (H.lt _ _ _ q1).2]; exact q2, q3⟩
  inj := H.inj
  fresh := H.fresh
  lt := fun id b n hid => ⟨(H.lt id b n hid).1, Nat.lt_of_lt_of_le (H.lt id b n hid).2 hb.size⟩
  base := Nat.le_trans H.base hb.size
  frz := fun b i v hf => by
   obtain ⟨⟨c, ty, fr, q1, q2⟩, q3⟩ := H.frz b i v hf
   exact ⟨⟨c, ty, fr, by rw [hb.block b (Array.getElem?_eq_some_iff.1 q1).1]; exact q1, q2⟩, q3⟩ }, ?_⟩
 exact ⟨.refl _, hb.os, hb.tape, hb.output, hb.size, fun b hlt _ => hb.block b hlt, fun id b n hid => .inr ⟨id, n, hid⟩, fun _ _ v h => .inr (.inl ⟨v, h⟩), fun b L hL => ⟨L, by rw [hb.block b (Array.getElem?_eq_some_iff.1 hL).1]; exact hL, .refl _⟩⟩
theorem pJ {B : Nat} : JOk Tryz.prog B hookJ := by
 intro E h nx w f args vs v h2 H hv hj
 unfold hookJ at hj
 cases hf : Nat.beq f 189 with
 | false => simp [hf] at hj
 | true =>
  obtain rfl := yK hf
  rw [hf, cond_true] at hj
  split at hj
  case h_2 => cases hj
  rename_i _ x sep
  cases hjj : joinJ x sep h with
  | none => simp [hjj] at hj
  | some v0 =>
  simp only [hjj, Option.some.injEq, Prod.mk.injEq] at hj
  obtain ⟨rfl, rfl⟩ := hj
  have hj := hjj
  clear hjj
  refine ⟨_, Tryz.func189, by kernel_rfl, by kernel_rfl, fun n => callsIn_wide.2 ?_⟩
  obtain ⟨l⟩ := vs
  simp only [VRL] at hv
  obtain ⟨u, _, rfl, hu, s, _, rfl, hs, rfl⟩ := hv
  simp only [VR] at hs
  subst hs
  have fin : ∀ (xs : List (List UInt8)) (w' : World) (e : Ending), v0 = .str (Lib.join xs sep) → e = .returned (.string ⟨(Lib.join ((xs.map fun s => (⟨s.toArray⟩ : ByteArray)).map (·.data.toList)) (⟨sep.toArray⟩ : ByteArray).data.toList).toArray⟩) → Below w.heap.size w w' →
    ∃ u E', e = .returned u ∧ VR E' v0 u ∧ HR Tryz.prog B E' h nx w' ∧ Ex E E' w w' := by
   intro xs w' e hve he hb
   obtain ⟨h1, h2⟩ := H.below hb
   refine ⟨_, E, he, ?_, h1, h2⟩
   rw [hve]
   simp only [VR, List.map_map]
   congr 2
   have : (xs.map ((fun x => x.data.toList) ∘ fun s => (⟨s.toArray⟩ : ByteArray))) = xs := by
    conv => rhs; rw [← List.map_id xs]
    exact List.map_congr_left fun _ _ => rfl
   rw [this]
  unfold joinJ at hj
  split at hj
  ·rename_i id off ln cap esz
   split at hj
   ·rename_i op m t hb
    cases hq : (Nat.beq esz 1 && Nat.ble (off + ln) m && Nat.ble ln 100000 && capLn cap ln) with
    | false => simp [hq] at hj
    | true =>
     rw [hq, cond_true] at hj
     simp only [Bool.and_eq_true] at hq
     obtain ⟨⟨⟨q1, q2⟩, q3⟩, q4⟩ := hq
     obtain rfl := yK q1
     have q2 := zW q2
     have q3 := zW q3
     unfold joinK at hj
     cases hx : vY (yM t off ln) with
     | none => simp [hx] at hj
     | some xs =>
      simp only [hx] at hj
      cases hl : Nat.ble (Lib.join xs sep).length 100000 with
      | false => simp [hl] at hj
      | true =>
       rw [hl, cond_true] at hj
       have hl := zW hl
       obtain rfl := (Option.some.inj hj).symm
       have hxs := strsA_eq hx
       have hln : xs.length = ln := by
        have := congrArg List.length hxs
        simpa using this.symm
       obtain ⟨b, n, c, hE, rfl, hcap⟩ := hu.sl_inv
       obtain ⟨b', n', o, h1, h2, h3⟩ := H.blk id (by rw [hb]; intro e; cases e)
       rw [hE] at h1; cases h1
       rw [hb] at h3
       obtain ⟨cs, ty, fr, rfl, _, _, _, _, hc⟩ := h3
       have hjn := Tryz.strings_Join b off c (xs.map fun s => (⟨s.toArray⟩ : ByteArray)) ⟨sep.toArray⟩ w (by
        intro j x hx2
        rw [List.getElem?_map] at hx2
        cases hxj : xs[j]? with
        | none => simp [hxj] at hx2
        | some s =>
         simp [hxj] at hx2
         subst hx2
         have hjl : j < ln := by rw [← hln]; exact (List.getElem?_eq_some_iff.1 hxj).1
         obtain ⟨_, v', g1, g2⟩ := hc (off + j) (by omega)
         have he : T.get .undef (.of (off + j)) t = .str s := by
          have e1 := yL t off ln j hjl
          rw [hxs] at e1
          simp [hxj] at e1
          exact e1.symm
         rw [he] at g2
         simp only [VR] at g2
         subst g2
         simp [World.cell?, h2, g1]) (H.lt _ _ _ hE).2 (by simp; omega) (by
          simp only [List.length_map, hln]
          cases cap with
          | none => exact hcap.1
          | some k =>
           have h4 : ln ≤ k := zW q4
           have h5 : c = k := hcap
           omega) (by
          have : ((xs.map fun s => (⟨s.toArray⟩ : ByteArray)).map (·.data.toList)) = xs := by
           rw [List.map_map]
           conv => rhs; rw [← List.map_id xs]
           exact List.map_congr_left fun _ _ => rfl
          rw [this]
          show (Lib.join xs sep).length ≤ _
          omega)
       rw [List.length_map, hln] at hjn
       exact hjn.mono fun e w' ⟨he, hb⟩ => fin xs w' e rfl he hb
   ·cases hj
  ·obtain rfl := (Option.some.inj hj).symm
   simp only [VR] at hu
   subst hu
   exact (Tryz.strings_Join_none none 0 _ w).mono fun e w' ⟨he, hb⟩ => fin [] w' e rfl he (hb ▸ Below.refl _ _)
  ·cases hj
end Go.Ev
namespace Go.Ev
abbrev srt (l : List Int) : List Int := l.mergeSort fun x y => decide (x ≤ y)
theorem wM {l l' : List Int} (hp : l'.Perm l) (hs : l'.Pairwise (· ≤ ·)) : l' = srt l := by
 refine (hp.trans (List.mergeSort_perm l _).symm).eq_of_pairwise (le := (· ≤ ·)) ?_ hs ?_
 ·intro a b _ _ h1 h2; omega
 ·have := List.pairwise_mergeSort (le := fun x y : Int => decide (x ≤ y)) (by intro a b c; simp; omega) (by intro a b; simp; omega) l
  exact this.imp (by intro a b h; simpa using h)
theorem xJ (l : List Int) : (srt l).Perm l := List.mergeSort_perm l _
structure Ins (l out : List Int) (i k : Nat) : Prop where
 perm : out.Perm l
 ex : ∃ (A : List Int) (x : Int) (B R : List Int), out = A ++ x :: (B ++ R) ∧ A.length = k ∧ A.length + B.length = i ∧ (A ++ B).Pairwise (· ≤ ·) ∧ ∀ b ∈ B, x < b
theorem Ins.swap {l out : List Int} {i k : Nat} (H : Ins l out i (k + 1)) {a x : Int} (ha : out[k]? = some a) (hx : out[k + 1]? = some x) (hlt : x < a) : Ins l ((out.set (k + 1) a).set k x) i k := by
 obtain ⟨hp, A, x', B, R, rfl, hA, hi, hs, hb⟩ := H
 obtain ⟨A, a', rfl⟩ : ∃ A' a', A = A' ++ [a'] := ⟨A.dropLast, A.getLast (by intro q; rw [q] at hA; simp at hA), (List.dropLast_concat_getLast _).symm⟩
 have hA' : A.length = k := by simpa using hA
 have e1 : a' = a := by
  rw [List.append_assoc, List.getElem?_append_right (by omega), hA', Nat.sub_self] at ha
  simpa using ha
 have e2 : x' = x := by
  rw [List.getElem?_append_right (by simp; omega)] at hx
  simp [hA'] at hx
  exact hx
 subst e1 e2
 have e3 : ((A ++ [a'] ++ x' :: (B ++ R)).set (k + 1) a').set k x' = A ++ x' :: ((a' :: B) ++ R) := by
  have h1 : (A ++ [a'] ++ x' :: (B ++ R)).set (k + 1) a' = A ++ a' :: a' :: (B ++ R) := by
   rw [List.append_assoc, List.set_append_right _ _ (by omega), hA', show k + 1 - k = 1 by omega]; rfl
  rw [h1, List.set_append_right _ _ (by omega), hA', Nat.sub_self]; rfl
 rw [e3]
 refine ⟨List.Perm.trans ?_ hp, A, x', a' :: B, R, rfl, hA', by simp at hi ⊢; omega, by simpa [List.append_assoc] using hs, ?_⟩
 ·rw [List.append_assoc]
  refine List.Perm.append_left A ?_
  exact List.Perm.swap _ _ _
 ·intro b hb'
  rcases List.mem_cons.1 hb' with rfl | q
  ·exact hlt
  ·exact hb b q
theorem Ins.done {l out : List Int} {i k : Nat} (H : Ins l out i k) (h : k = 0 ∨ ∃ j a x, k = j + 1 ∧ out[j]? = some a ∧ out[k]? = some x ∧ ¬ x < a) : out.Perm l ∧ (out.take (i + 1)).Pairwise (· ≤ ·) := by
 obtain ⟨hp, A, x, B, R, rfl, hA, hi, hs, hb⟩ := H
 refine ⟨hp, ?_⟩
 have e : (A ++ x :: (B ++ R)).take (i + 1) = A ++ x :: B := by
  rw [show A ++ x :: (B ++ R) = (A ++ x :: B) ++ R by simp]
  exact List.take_left' (by simp; omega)
 rw [e]
 have hs' := List.pairwise_append.1 hs
 refine List.pairwise_append.2 ⟨hs'.1, List.pairwise_cons.2 ⟨fun b hb' => by have := hb b hb'; omega, hs'.2.1⟩, ?_⟩
 have key : ∀ a ∈ A, a ≤ x := by
  rcases h with rfl | ⟨j, a0, x0, rfl, h1, h2, h3⟩
  ·obtain rfl : A = [] := List.eq_nil_of_length_eq_zero hA
   simp
  ·obtain ⟨A, a', rfl⟩ : ∃ A' a', A = A' ++ [a'] := ⟨A.dropLast, A.getLast (by intro q; rw [q] at hA; simp at hA), (List.dropLast_concat_getLast _).symm⟩
   have hA' : A.length = j := by simpa using hA
   have e1 : a' = a0 := by
    rw [List.append_assoc, List.getElem?_append_right (by omega), hA', Nat.sub_self] at h1
    simpa using h1
   have e2 : x = x0 := by
    rw [List.getElem?_append_right (by simp; omega)] at h2
    simp [hA'] at h2
    exact h2
   subst e1 e2
   intro a ha
   rcases List.mem_append.1 ha with q | q
   ·have := (List.pairwise_append.1 hs'.1).2.2 a q a' (by simp); omega
   ·simp at q; omega
 intro a ha b hb'
 rcases List.mem_cons.1 hb' with rfl | q
 ·exact key a ha
 ·exact hs'.2.2 a ha b q
def incr (d : List Int) (c : Int) : List Int := d.set c.toNat (d.getD c.toNat 0 + 1)
def degS (cells : Nat) (lines : List (List Int)) : List Int := lines.foldl (fun d l => l.foldl incr d) (List.replicate cells 0)
@[simp] theorem m6 (d : List Int) (c : Int) : (incr d c).length = d.length := by simp [incr]
theorem gT (l : List Int) : ∀ d : List Int, (l.foldl incr d).length = d.length := by
 induction l with
 | nil => intro d; rfl
 | cons c l ih => intro d; rw [List.foldl_cons, ih]; simp
theorem mM (ls : List (List Int)) : ∀ d : List Int, (ls.foldl (fun d l => l.foldl incr d) d).length = d.length := by
 induction ls with
 | nil => intro d; rfl
 | cons l ls ih => intro d; rw [List.foldl_cons, ih, gT]
theorem j4 (cells : Nat) (lines : List (List Int)) : (degS cells lines).length = cells := by rw [degS, mM]; simp
def Bd (d : List Int) (M : Nat) : Prop := ∀ v ∈ d, 0 ≤ v ∧ v ≤ (M : Int)
theorem Bd.incr {d : List Int} {M : Nat} (h : Bd d M) {c : Int} (hc : c.toNat < d.length) : Bd (incr d c) (M + 1) := by
 intro v hv
 rcases List.mem_or_eq_of_mem_set hv with q | rfl
 ·have := h v q; omega
 ·rw [List.getD_eq_getElem?_getD, List.getElem?_eq_getElem hc]
  have := h _ (List.getElem_mem hc)
  simp only [Option.getD_some]; omega
theorem Bd.mono {d : List Int} {M N : Nat} (h : Bd d M) (hm : M ≤ N) : Bd d N := fun v hv => by have := h v hv; omega
theorem Bd.line {W : Nat} : ∀ {l d : List Int} {M : Nat}, Bd d M → (∀ c ∈ l, c.toNat < d.length) → l.length ≤ W → Bd (l.foldl Ev.incr d) (M + W)
 | [], d, M, h, _, _ => h.mono (by omega)
 | c :: l, d, M, h, hc, hl => by
  rw [List.foldl_cons]
  simp only [List.length_cons] at hl
  have := Bd.line (W := W - 1) (l := l) (h.incr (hc c (by simp))) (fun x hx => by simpa using hc x (by simp [hx])) (by omega)
  exact this.mono (by omega)
theorem bN {cells W : Nat} {lines : List (List Int)} (hl : ∀ l ∈ lines, l.length ≤ W ∧ ∀ c ∈ l, c.toNat < cells) : Bd (degS cells lines) (lines.length * W) := by
 have key : ∀ (ls : List (List Int)) (d : List Int) (M : Nat), (∀ l ∈ ls, l.length ≤ W ∧ ∀ c ∈ l, c.toNat < d.length) → Bd d M → Bd (ls.foldl (fun d l => l.foldl Ev.incr d) d) (M + ls.length * W) := by
  intro ls
  induction ls with
  | nil => intro d M _ h; simpa using h
  | cons l ls ih =>
   intro d M hls h
   rw [List.foldl_cons]
   obtain ⟨h1, h2⟩ := hls l (by simp)
   have := ih (l.foldl Ev.incr d) (M + W) (fun x hx => by rw [gT]; exact hls x (by simp [hx])) (h.line h2 h1)
   refine this.mono ?_
   simp only [List.length_cons, Nat.add_mul]; omega
 have := key lines (List.replicate cells 0) 0 (by simpa using hl) (by intro v hv; simp at hv; omega)
 rw [degS]
 rw [Nat.zero_add] at this
 exact this
def wsum (f : Nat → Int) (d : List Int) : Nat → Int
 | 0 => 0
 | i + 1 => wsum f d i + d.getD i 0 * f i
theorem wK {f : Nat → Int} {d : List Int} {M F n : Nat} (hd : Bd d M) (hf : ∀ j, j < n → 0 ≤ f j ∧ f j ≤ F) : ∀ i, i ≤ n → 0 ≤ wsum f d i ∧ wsum f d i ≤ i * (M * F : Nat)
 | 0, _ => by simp [wsum]
 | i + 1, hi => by
  obtain ⟨h1, h2⟩ := wK hd hf i (by omega)
  have h3 : 0 ≤ d.getD i 0 ∧ d.getD i 0 ≤ (M : Int) := by
   rw [List.getD_eq_getElem?_getD]
   cases e : d[i]? with
   | none => simp
   | some v => exact hd v (List.mem_of_getElem? e)
  obtain ⟨h4, h5⟩ := hf i (by omega)
  have h6 : 0 ≤ d.getD i 0 * f i := Int.mul_nonneg h3.1 h4
  have h7 : d.getD i 0 * f i ≤ (M : Int) * (F : Int) := Int.mul_le_mul h3.2 h5 h4 (by omega)
  rw [wsum]
  have h8 : ((i + 1 : Nat) : Int) * ((M * F : Nat) : Int) = (i : Int) * ((M * F : Nat) : Int) + (M : Int) * (F : Int) := by
   rw [Int.natCast_add, Int.add_mul, Int.natCast_mul M F]; simp
  rw [h8]; omega
theorem wsum_step {f : Nat → Int} {d : List Int} {M F n : Nat} (hd : Bd d M) (hf : ∀ j, j < n → 0 ≤ f j ∧ f j ≤ F) {i : Nat} (hi : i < n) : 0 ≤ d.getD i 0 * f i ∧ d.getD i 0 * f i ≤ (M * F : Nat) := by
 have h3 : 0 ≤ d.getD i 0 ∧ d.getD i 0 ≤ (M : Int) := by
  rw [List.getD_eq_getElem?_getD]
  cases e : d[i]? with
  | none => simp
  | some v => exact hd v (List.mem_of_getElem? e)
 obtain ⟨h4, h5⟩ := hf i hi
 refine ⟨Int.mul_nonneg h3.1 h4, ?_⟩
 rw [Int.natCast_mul]
 exact Int.mul_le_mul h3.2 h5 h4 (by omega)
theorem Bd.srt {d : List Int} {M : Nat} (h : Bd d M) : Bd (Ev.srt d) M := fun v hv => h v ((xJ d).mem_iff.1 hv)
@[simp] theorem kW (d : List Int) : (Ev.srt d).length = d.length := (xJ d).length_eq
end Go.Ev
namespace Go.Ev
open Go Go.Proofs Go.RowKit Go.Sort
noncomputable def wC : List AV → Option (List Int)
 | [] => some []
 | .int k n :: l => match k with
  | .i64 => match wC l with
   | some xs => some (n :: xs)
   | none => none
  | _ => none
 | _ => none
theorem intsA_eq : ∀ {l : List AV} {xs : List Int}, wC l = some xs → l = xs.map I
 | [], xs, h => by simp [wC] at h; subst h; rfl
 | x :: l, xs, h => by
  cases x <;> first | (simp [wC] at h; done) | skip
  rename_i k n
  cases k <;> first | (simp [wC] at h; done) | skip
  simp only [wC] at h
  cases hl : wC l with
  | none => simp [hl] at h
  | some ys => simp [hl] at h; subst h; simp [intsA_eq hl]
theorem intsA_map (l : List Int) : wC (l.map I) = some l := by
 induction l with
 | nil => rfl
 | cons a l ih => show (match wC (l.map I) with | some xs => some (a :: xs) | none => none) = _; rw [ih]
noncomputable def sortJ (v : AV) (h : T Blk) : Option (T Blk) := match v with
 | .sl id off ln _ esz => match T.get .no id h with
  | .cells op m t => bif Nat.beq esz 1 && Nat.ble (off + ln) m && Nat.ble ln 1000000 then (match wC (yM t off ln) with
   | some l => some (T.set .no (.cells op m (jA ((srt l).map I) t off)) id h)
   | none => none) else none
  | _ => none
 | .nils => some h
 | _ => none
noncomputable def kE (f : Nat) (args : List AV) (h : T Blk) : Option (AV × T Blk) := bif Nat.beq f 152 then (match args with
 | [v] => match sortJ v h with
  | some h => some (.tup [], h)
  | none => none
 | _ => none) else none
theorem HR.sorted {P : Program} {B : Nat} {E : Env} {h : T Blk} {nx : Pa} {w : World} (H : HR P B E h nx w) {id : Pa} {op : Bool} {m off b n k : Nat} {t : T AV} {l l' : List Int} {os : Array Obj} (hb : T.get .no id h = .cells op m t) (hE : E id = some (b, n))
  (hl' : l'.length = l.length) (hm : off + l.length ≤ m) :
  HR P B E (T.set .no (.cells op m (jA (l'.map I) t off)) id h) nx (grow (putRow (Value.int .i64) (Sort.ahead w k) b off l'.toArray) os) ∧ Ex E E w (grow (putRow (Value.int .i64) (Sort.ahead w k) b off l'.toArray) os) := by
 have hid : T.get .no id h ≠ .no := by rw [hb]; intro e; cases e
 obtain ⟨b', n', o, h1, h2, h3⟩ := H.blk id hid
 rw [hE] at h1; cases h1
 rw [hb] at h3
 obtain ⟨c, ty, fr, rfl, q1, q2, q3, q4, q5⟩ := h3
 have hcs : (putCells (Value.int .i64) off l'.toArray c).size = c.size := by simp [putCells]
 have hbr : BR P E n (.cells op m (jA (l'.map I) t off)) (.cells (putCells (Value.int .i64) off l'.toArray c) ty fr) := by
  refine ⟨_, ty, fr, rfl, by rw [hcs]; exact q1, by rw [hcs]; exact q2, q3, q4, fun i hi => ?_⟩
  rw [uQ]
  have hic : i < c.size := by omega
  have hce : (putCells (Value.int .i64) off l'.toArray c)[i]? = some (if off ≤ i ∧ i < off + l'.length then Value.int .i64 (l'.toArray[i - off]!) else c[i]) := by
   simp [putCells, Array.getElem?_eq_getElem hic]
  rw [List.length_map]
  by_cases hr : off ≤ i ∧ i < off + l'.length
  ·rw [if_pos hr]
   rw [if_pos hr] at hce
   have hj : i - off < l'.length := by omega
   have e1 : (l'.map I).getD (i - off) .undef = I l'[i - off] := by
    rw [List.getD_eq_getElem?_getD, List.getElem?_map, List.getElem?_eq_getElem hj]; rfl
   have e2 : l'.toArray[i - off]! = l'[i - off] := by simp [getElem!_pos, hj]
   rw [e1]
   exact ⟨rfl, _, hce, by rw [e2]; simp only [VR]⟩
  ·rw [if_neg hr]
   rw [if_neg hr] at hce
   obtain ⟨r1, v, r2, r3⟩ := q5 i hi
   rw [Array.getElem?_eq_getElem hic] at r2
   exact ⟨r1, _, hce, by rw [Option.some.inj r2]; exact r3⟩
 have H1 := H.put hid hE hbr
 have X1 : Ex E E w (w.putObj b (.cells (putCells (Value.int .i64) off l'.toArray c) ty fr)) := Ex.put hE h2 fun L hL => by cases hL
 have hbl : b < w.heap.size := (Array.getElem?_eq_some_iff.1 h2).1
 have hBel : Below (w.putObj b (.cells (putCells (Value.int .i64) off l'.toArray c) ty fr)).heap.size (w.putObj b (.cells (putCells (Value.int .i64) off l'.toArray c) ty fr)) (grow (putRow (Value.int .i64) (Sort.ahead w k) b off l'.toArray) os) := by
  refine ⟨rfl, rfl, rfl, ?_, fun j hj => ?_⟩
  ·rw [World.putObj_size]; simp [grow, putRow, mapBlock, Sort.ahead]
  ·rw [World.putObj_size] at hj
   have e1 : (grow (putRow (Value.int .i64) (Sort.ahead w k) b off l'.toArray) os).heap[j]? = (w.heap.modify b (onCells (putCells (Value.int .i64) off l'.toArray)))[j]? := by
    show (w.heap.modify b (onCells (putCells (Value.int .i64) off l'.toArray)) ++ os)[j]? = _
    rw [Array.getElem?_append_left (by simpa using hj)]
   rw [e1, Array.getElem?_modify]
   by_cases e : b = j
   ·subst e
    rw [if_pos rfl, h2, uN _ hbl]; rfl
   ·rw [if_neg e, yQ _ (fun q => e q.symm)]
 obtain ⟨r1, r2⟩ := H1.below hBel
 exact ⟨r1, X1.trans r2⟩
theorem hookS_ok {B : Nat} (law : ∀ (blk off cap : Nat) (zs : List Int) (w : World), Holds (Value.int .i64) w blk off zs.toArray → blk < w.heap.size → zs.length < 4611686018427387904 →
   Go.Calls Tryz.prog 152 #[.slice (some ⟨blk, off, none⟩) zs.length cap] w fun e w' => e = .returned (.tuple #[]) ∧ ∃ n os, w' = grow (putRow (Value.int .i64) (Sort.ahead w n) blk off (zs.mergeSort fun x y => decide (x ≤ y)).toArray) os)
  (law0 : ∀ (p : Option Addr) (cap : Nat) (w : World), Go.Calls Tryz.prog 152 #[.slice p 0 cap] w fun e w' => e = .returned (.tuple #[]) ∧ w' = w) : JOk Tryz.prog B kE := by
 intro E h nx w f args vs v h2 H hv hj
 unfold kE at hj
 cases hf : Nat.beq f 152 with
 | false => simp [hf] at hj
 | true =>
  obtain rfl := yK hf
  rw [hf, cond_true] at hj
  split at hj
  case h_2 => cases hj
  rename_i _ x
  cases hjj : sortJ x h with
  | none => simp [hjj] at hj
  | some hs =>
  simp only [hjj, Option.some.injEq, Prod.mk.injEq] at hj
  obtain ⟨rfl, rfl⟩ := hj
  refine ⟨_, Tryz.func152, by kernel_rfl, by kernel_rfl, fun n => callsIn_wide.2 ?_⟩
  obtain ⟨l⟩ := vs
  simp only [VRL] at hv
  obtain ⟨u, _, rfl, hu, rfl⟩ := hv
  unfold sortJ at hjj
  split at hjj
  ·rename_i id off ln cap esz
   split at hjj
   ·rename_i op m t hb
    cases hq : (Nat.beq esz 1 && Nat.ble (off + ln) m && Nat.ble ln 1000000) with
    | false => simp [hq] at hjj
    | true =>
     rw [hq, cond_true] at hjj
     simp only [Bool.and_eq_true] at hq
     obtain ⟨⟨q1, q2⟩, q3⟩ := hq
     obtain rfl := yK q1
     have q2 := zW q2
     have q3 := zW q3
     cases hx : wC (yM t off ln) with
     | none => simp [hx] at hjj
     | some xs =>
      simp only [hx, Option.some.injEq] at hjj
      subst hjj
      have hxs := intsA_eq hx
      have hln : xs.length = ln := by
       have := congrArg List.length hxs
       simpa using this.symm
      obtain ⟨b, n, c, hE, rfl, hcap⟩ := hu.sl_inv
      obtain ⟨b', n', o, h1, h2, h3⟩ := H.blk id (by rw [hb]; intro e; cases e)
      rw [hE] at h1; cases h1
      rw [hb] at h3
      obtain ⟨cs, ty, fr, rfl, g1, g2, g3, g4, hc⟩ := h3
      have hH : Holds (Value.int .i64) w b off xs.toArray := by
       intro j hj
       have hj : j < xs.length := by simpa using hj
       obtain ⟨_, v', k1, k2⟩ := hc (off + j) (by omega)
       have he : T.get .undef (.of (off + j)) t = I xs[j] := by
        have e1 := yL t off ln j (by omega)
        rw [hxs, List.getElem?_map, List.getElem?_eq_getElem hj] at e1
        exact (Option.some.inj e1).symm
       rw [he] at k2
       simp only [VR] at k2
       subst k2
       have e2 : xs.toArray[j]! = xs[j] := by simp [getElem!_pos, hj]
       rw [e2]
       refine ⟨by simp [World.cell?, h2, k1], ?_⟩
       have := g1 (off + j) (Array.getElem?_eq_some_iff.1 k1).1
       simp only [World.frozen?, h2]
       obtain ⟨lo, hi⟩ := fr
       simp only [Bool.and_eq_false_iff, decide_eq_false_iff_not]
       simp only at this
       omega
      rw [← hln]
      refine (law b off c xs w hH (H.lt _ _ _ hE).2 (by omega)).mono ?_
      rintro e w' ⟨rfl, k, os, rfl⟩
      have hp : (srt xs).length = xs.length := (xJ xs).length_eq
      obtain ⟨r1, r2⟩ := H.sorted (off := off) (l := xs) (l' := srt xs) (k := k) (os := os) hb hE hp (by omega)
      exact ⟨_, E, rfl, by simp only [VR, VRL]; exact ⟨_, rfl, rfl⟩, r1, r2⟩
   ·cases hjj
  ·obtain rfl := (Option.some.inj hjj).symm
   simp only [VR] at hu
   subst hu
   refine (law0 none 0 w).mono ?_
   rintro e w' ⟨rfl, rfl⟩
   exact ⟨_, E, rfl, by simp only [VR, VRL]; exact ⟨_, rfl, rfl⟩, H, .refl _ _⟩
  ·cases hjj
end Go.Ev
namespace Go.Proofs
open Go.Shelf
def Tryz.lays189_ren : Go.Shelf.Ren := ⟨fun | 189 => 152 | 125 => 129 | 257 => 174 | 128 => 162 | 129 => 163 | 294 => 190 | 295 => 191 | 296 => 192 | 297 => 193 | 298 => 194 | 299 => 195 | 216 => 196 | 300 => 197 | 301 => 198 | 328 => 210 | 329 => 176 | 330 => 177 | 331 => 211 | 332 => 212 | 215 => 164 | 343 => 217 | n => n, fun | 28 => 46 | 3 => 3 | 46 => 152 | 0 => 0 | 51 => 174 | 53 => 176 | 4 => 4 | 183 => 168 | 182 => 167 | 131 => 159 | 5 => 5 | 9 => 9 | 218 => 189 | 222 => 193 | 228 => 212 | 229 => 40 | n => n, fun | n => n⟩
theorem Tryz.lays189 : Go.Proofs.Lays.n189 Tryz.prog Tryz.lays189_ren := {
 mixed := by kernel_rfl
 f125 := Tryz.func129.trans (congrArg some (by kernel_rfl))
 f128 := Tryz.func162.trans (congrArg some (by kernel_rfl))
 f129 := Tryz.func163.trans (congrArg some (by kernel_rfl))
 f189 := Tryz.func152.trans (congrArg some (by kernel_rfl))
 f215 := Tryz.func164.trans (congrArg some (by kernel_rfl))
 f216 := Tryz.func196.trans (congrArg some (by kernel_rfl))
 f257 := Tryz.func174.trans (congrArg some (by kernel_rfl))
 f294 := Tryz.func190.trans (congrArg some (by kernel_rfl))
 f295 := Tryz.func191.trans (congrArg some (by kernel_rfl))
 f296 := Tryz.func192.trans (congrArg some (by kernel_rfl))
 f297 := Tryz.func193.trans (congrArg some (by kernel_rfl))
 f298 := Tryz.func194.trans (congrArg some (by kernel_rfl))
 f299 := Tryz.func195.trans (congrArg some (by kernel_rfl))
 f300 := Tryz.func197.trans (congrArg some (by kernel_rfl))
 f301 := Tryz.func198.trans (congrArg some (by kernel_rfl))
 f328 := Tryz.func210.trans (congrArg some (by kernel_rfl))
 f329 := Tryz.func176.trans (congrArg some (by kernel_rfl))
 f330 := Tryz.func177.trans (congrArg some (by kernel_rfl))
 f331 := Tryz.func211.trans (congrArg some (by kernel_rfl))
 f332 := Tryz.func212.trans (congrArg some (by kernel_rfl))
 f343 := Tryz.func217.trans (congrArg some (by kernel_rfl))
 t0 := Tryz.underlying0
 a0 := Tryz.isAgg0
 z0 := Tryz.sizeOf0
 v0 := Tryz.zeroValue0
 t3 := Tryz.underlying3
 a3 := Tryz.isAgg3
 z3 := Tryz.sizeOf3
 v3 := Tryz.zeroValue3
 t4 := Tryz.underlying4
 a4 := Tryz.isAgg4
 z4 := Tryz.sizeOf4
 v4 := Tryz.zeroValue4
 t5 := Tryz.underlying5
 a5 := Tryz.isAgg5
 z5 := Tryz.sizeOf5
 v5 := Tryz.zeroValue5
 t9 := Tryz.underlying9
 a9 := Tryz.isAgg9
 z9 := Tryz.sizeOf9
 v9 := Tryz.zeroValue9
 t28 := Tryz.underlying46
 a28 := Tryz.isAgg46
 z28 := Tryz.sizeOf46
 v28 := Tryz.zeroValue46
 t46 := Tryz.underlying152
 a46 := Tryz.isAgg152
 z46 := Tryz.sizeOf152
 v46 := Tryz.zeroValue152
 t51 := Tryz.underlying174
 a51 := Tryz.isAgg174
 z51 := Tryz.sizeOf174
 v51 := Tryz.zeroValue174
 t53 := Tryz.underlying176
 a53 := Tryz.isAgg176
 z53 := Tryz.sizeOf176
 v53 := Tryz.zeroValue176
 t131 := Tryz.underlying159
 a131 := Tryz.isAgg159
 z131 := Tryz.sizeOf159
 v131 := Tryz.zeroValue159
 t182 := Tryz.underlying167
 a182 := Tryz.isAgg167
 z182 := Tryz.sizeOf167
 v182 := Tryz.zeroValue167
 t183 := Tryz.underlying168
 a183 := Tryz.isAgg168
 z183 := Tryz.sizeOf168
 v183 := Tryz.zeroValue168
 t218 := Tryz.underlying189
 a218 := Tryz.isAgg189
 z218 := Tryz.sizeOf189
 v218 := Tryz.zeroValue189
 t222 := Tryz.underlying193
 a222 := Tryz.isAgg193
 z222 := Tryz.sizeOf193
 v222 := Tryz.zeroValue193
 t228 := Tryz.underlying212
 a228 := Tryz.isAgg212
 z228 := Tryz.sizeOf212
 v228 := Tryz.zeroValue212
 t229 := Tryz.underlying40
 a229 := Tryz.isAgg40
 z229 := Tryz.sizeOf40
 v229 := Tryz.zeroValue40 }
open Go.Sort Go.RowKit in
theorem Tryz.slices_Sort_int (blk off cap : Nat) (zs : List Int) (w : World) (hH : Holds (Value.int .i64) w blk off zs.toArray) (hblk : blk < w.heap.size) (hsz : zs.length < 4611686018427387904) :
  Calls Tryz.prog 152 #[.slice (some ⟨blk, off, none⟩) zs.length cap] w fun e w' =>
   e = .returned (.tuple #[]) ∧ ∃ n os, w' = grow (putRow (Value.int .i64) (Sort.ahead w n) blk off (zs.mergeSort fun x y => decide (x ≤ y)).toArray) os := Any.slices_Sort_int Tryz.lays189 blk off cap zs w hH hblk hsz
open Go.RowKit Go.Sort in
theorem Tryz.slices_Sort_int_none (p : Option Addr) (cap : Nat) (w : World) :
  Calls Tryz.prog 152 #[.slice p 0 cap] w fun e w' => e = .returned (.tuple #[]) ∧ w' = w := Any.slices_Sort_int_none Tryz.lays189 p cap w
end Go.Proofs
