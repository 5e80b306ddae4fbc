import Derived.Test.YtlfhlkknakiafaaGreatDoorEvC
import Derived.Test.YtlfhlkknakiafaaGreatDoorLaws
import Derived.Test.YtlfhlkknakiafaaGreatDoorEvD
import Derived.Test.YtlfhlkknakiafaaGreatDoorIrT
import Derived.Test.YtlfhlkknakiafaaGreatDoorCodea
set_option linter.unusedSimpArgs false
set_option linter.unusedVariables false
namespace Go.Ev
open Go Go.Proofs Go.RowKit
noncomputable def q9 : List AV → Option (List (List UInt8))
 | [] => some []
 | .str s :: l => match q9 l with
  | some xs => some (s :: xs)
  | none => none
 | _ => none
noncomputable def joinK (l : List AV) (sep : List UInt8) : Option AV := match q9 l with
 | some xs => bif Nat.ble (Lib.join xs sep).length 100000 then some (.str (Lib.join xs sep)) else none
 | none => none
noncomputable def capLn (cap : Option Nat) (ln : Nat) : Bool := match cap with
 | some k => Nat.ble ln k
 | none => true
noncomputable def joinJ (v : AV) (sep : List UInt8) (h : T Blk) : Option AV := match v with
 | .sl id off ln cap esz => match T.get .no id h with
  | .cells _ m t => bif Nat.beq esz 1 && Nat.ble (off + ln) m && Nat.ble ln 100000 && capLn cap ln then joinK (zN t off ln) sep else none
  | _ => none
 | .nils => some (.str [])
 | _ => none
noncomputable def gG (f : Nat) (args : List AV) (h : T Blk) : Option (AV × T Blk) := bif Nat.beq f 320 then (match args with
 | [v, .str sep] => match joinJ v sep h with
  | some v => some (v, h)
  | none => none
 | _ => none) else none
theorem strsA_eq : ∀ {l : List AV} {xs : List (List UInt8)}, q9 l = some xs → l = xs.map .str
 | [], xs, h => by simp [q9] at h; subst h; rfl
 | x :: l, xs, h => by
  cases x <;> first | (simp [q9] at h; done) | skip
  simp only [q9] at h
  cases hl : q9 l with
  | none => simp [hl] at h
  | some ys => simp [hl] at h; subst h; simp [strsA_eq hl]
theorem HR.below {P : Program} {B : Nat} {E : Env} {h : T Blk} {nx : Pa} {w w' : World} (H : HR P B E h nx w) (hb : Below w.heap.size w w') : HR P B E h nx w' ∧ Ex E E w w' := by
 refine ⟨{
  blk := fun id hid => by
   obtain ⟨b, n, o, q1, q2, q3⟩ := H.blk id hid
   exact ⟨b, n, o, q1, by rw [hb.block b (H.lt _ _ _ q1).2]; exact q2, q3⟩
  inj := H.inj
  fresh := H.fresh
  lt := fun id b n hid => ⟨(H.lt id b n hid).1, Nat.lt_of_lt_of_le (H.lt id b n hid).2 hb.size⟩
  base := Nat.le_trans H.base hb.size
  frz := fun b i v hf => by
   obtain ⟨⟨c, ty, fr, q1, q2⟩, q3⟩ := H.frz b i v hf
   exact ⟨⟨c, ty, fr, by rw [hb.block b (Array.getElem?_eq_some_iff.1 q1).1]; exact q1, q2⟩, q3⟩ }, ?_⟩
 exact ⟨.refl _, hb.os, hb.tape, hb.output, hb.size, fun b hlt _ => hb.block b hlt, fun id b n hid => .inr ⟨id, n, hid⟩, fun _ _ v h => .inr (.inl ⟨v, h⟩), fun b L hL => ⟨L, by rw [hb.block b (Array.getElem?_eq_some_iff.1 hL).1]; exact hL, .refl _⟩⟩
theorem yG {B : Nat} : JOk Tryz.prog B gG := by
 intro E h nx w f args vs v h2 H hv hj
 unfold gG at hj
 cases hf : Nat.beq f 320 with
 | false => simp [hf] at hj
 | true =>
  obtain rfl := zE hf
  rw [hf, cond_true] at hj
  split at hj
  case h_2 => cases hj
  rename_i _ x sep
  cases hjj : joinJ x sep h with
  | none => simp [hjj] at hj
  | some v0 =>
  simp only [hjj, Option.some.injEq, Prod.mk.injEq] at hj
  obtain ⟨rfl, rfl⟩ := hj
  have hj := hjj
  clear hjj
  refine ⟨(), trivial, trivial, trivial, fun n => .inl ⟨_, Tryz.func320, by kernel_rfl, by kernel_rfl, callsIn_wide.2 ?_⟩⟩
  obtain ⟨l⟩ := vs
  simp only [VRL] at hv
  obtain ⟨u, _, rfl, hu, s, _, rfl, hs, rfl⟩ := hv
  simp only [VR] at hs
  subst hs
  have fin : ∀ (xs : List (List UInt8)) (w' : World) (e : Ending), v0 = .str (Lib.join xs sep) → e = .returned (.string ⟨(Lib.join ((xs.map fun s => (⟨s.toArray⟩ : ByteArray)).map (·.data.toList)) (⟨sep.toArray⟩ : ByteArray).data.toList).toArray⟩) → Below w.heap.size w w' →
    ∃ u E', e = .returned u ∧ VR E' v0 u ∧ HR Tryz.prog B E' h nx w' ∧ Ex E E' w w' := by
   intro xs w' e hve he hb
   obtain ⟨h1, h2⟩ := H.below hb
   refine ⟨_, E, he, ?_, h1, h2⟩
   rw [hve]
   simp only [VR, List.map_map]
   congr 2
   have : (xs.map ((fun x => x.data.toList) ∘ fun s => (⟨s.toArray⟩ : ByteArray))) = xs := by
    conv => rhs; rw [← List.map_id xs]
    exact List.map_congr_left fun _ _ => rfl
   rw [this]
  unfold joinJ at hj
  split at hj
  ·rename_i id off ln cap esz
   split at hj
   ·rename_i op m t hb
    cases hq : (Nat.beq esz 1 && Nat.ble (off + ln) m && Nat.ble ln 100000 && capLn cap ln) with
    | false => simp [hq] at hj
    | true =>
     rw [hq, cond_true] at hj
     simp only [Bool.and_eq_true] at hq
     obtain ⟨⟨⟨q1, q2⟩, q3⟩, q4⟩ := hq
     obtain rfl := zE q1
     have q2 := zB q2
     have q3 := zB q3
     unfold joinK at hj
     cases hx : q9 (zN t off ln) with
     | none => simp [hx] at hj
     | some xs =>
      simp only [hx] at hj
      cases hl : Nat.ble (Lib.join xs sep).length 100000 with
      | false => simp [hl] at hj
      | true =>
       rw [hl, cond_true] at hj
       have hl := zB hl
       obtain rfl := (Option.some.inj hj).symm
       have hxs := strsA_eq hx
       have hln : xs.length = ln := by
        have := congrArg List.length hxs
        simpa using this.symm
       obtain ⟨b, n, c, hE, rfl, hcap⟩ := hu.sl_inv
       obtain ⟨b', n', o, h1, h2, h3⟩ := H.blk id (by rw [hb]; intro e; cases e)
       rw [hE] at h1; cases h1
       rw [hb] at h3
       obtain ⟨cs, ty, fr, rfl, _, _, _, _, hc⟩ := h3
       have hjn := Tryz.strings_Join b off c (xs.map fun s => (⟨s.toArray⟩ : ByteArray)) ⟨sep.toArray⟩ w (by
        intro j x hx2
        rw [List.getElem?_map] at hx2
        cases hxj : xs[j]? with
        | none => simp [hxj] at hx2
        | some s =>
         simp [hxj] at hx2
         subst hx2
         have hjl : j < ln := by rw [← hln]; exact (List.getElem?_eq_some_iff.1 hxj).1
         obtain ⟨_, v', g1, g2⟩ := hc (off + j) (by omega)
         have he : T.get .undef (.of (off + j)) t = .str s := by
          have e1 := zP t off ln j hjl
          rw [hxs] at e1
          simp [hxj] at e1
          exact e1.symm
         rw [he] at g2
         simp only [VR] at g2
         subst g2
         simp [World.cell?, h2, g1]) (H.lt _ _ _ hE).2 (by simp; omega) (by
          simp only [List.length_map, hln]
          cases cap with
          | none => exact hcap.1
          | some k =>
           have h4 : ln ≤ k := zB q4
           have h5 : c = k := hcap
           omega) (by
          have : ((xs.map fun s => (⟨s.toArray⟩ : ByteArray)).map (·.data.toList)) = xs := by
           rw [List.map_map]
           conv => rhs; rw [← List.map_id xs]
           exact List.map_congr_left fun _ _ => rfl
          rw [this]
          show (Lib.join xs sep).length ≤ _
          omega)
       rw [List.length_map, hln] at hjn
       exact hjn.mono fun e w' ⟨he, hb⟩ => fin xs w' e rfl he hb
   ·cases hj
  ·obtain rfl := (Option.some.inj hj).symm
   simp only [VR] at hu
   subst hu
   exact (Tryz.strings_Join_none none 0 _ w).mono fun e w' ⟨he, hb⟩ => fin [] w' e rfl he (hb ▸ Below.refl _ _)
  ·cases hj
end Go.Ev
namespace Go.Ev
def Dg (b : Nat) (l : List Nat) : Prop := ∀ x ∈ l, x < b
def dg (b : Nat) (z : Nat) : List Nat := if h : z = 0 ∨ b < 2 then [] else z % b :: dg b (z / b)
termination_by z
decreasing_by
 have h1 : z ≠ 0 := fun q => h (.inl q)
 have h2 : ¬ b < 2 := fun q => h (.inr q)
 exact Nat.div_lt_self (Nat.pos_of_ne_zero h1) (by omega)
theorem dg_zero (b : Nat) : dg b 0 = [] := by rw [dg]; simp
theorem dg_pos {b z : Nat} (hb : 2 ≤ b) (hz : z ≠ 0) : dg b z = z % b :: dg b (z / b) := by
 rw [dg, dif_neg (by omega)]
end Go.Ev
namespace Go.Ev
end Go.Ev
namespace Go.Ev
open Go Go.Proofs
variable {B : Nat}
set_option maxRecDepth 100000
theorem dregU {B : Nat} : wM Tryz.prog B Prop := dreg_all mixed
abbrev U (m : Nat) : AV := .int .u64 (m : Int)
def encW (l : List Nat) : AV := .lst 1 l.length (l.map U)
theorem uConvI {k : IntKind} {z : Int} {K : AV → OP} (h : -9223372036854775808 ≤ z ∧ z ≤ 9223372036854775807) : gC .i64 (.int k z) K = K (I z) := by
 show intK (gM .i64 z) (fun z => K (.int .i64 z)) = _
 rw [kA, wrapF_eq, u1 h]
theorem uFixd (l : List Nat) : ∀ v ∈ l.map U, fixd v = true := fun v hv => by obtain ⟨x, _, rfl⟩ := List.mem_map.1 hv; rfl
theorem fixd_encW (l : List Nat) : fixd (encW l) = true := fixd_all (uFixd l)
theorem Hp.killU {h0 h : T Blk} {nx id : Pa} {L : List Ob} {l : List AV} (H : Hp h0 h nx (.arr id l :: L)) : Hp h0 (T.set .no .no id h) nx L := by
 have hid : T.get .no id h0 = .no := H.off id (by simp [Ob.names])
 have H3 := H.drop
 have nd := H.nd
 simp only [List.flatMap_cons, Ob.names] at nd
 have hni : id ∉ L.flatMap Ob.names := fun hi => (List.nodup_append.1 nd).2.2 id (by simp) id hi rfl
 have other : ∀ j, j ≠ id → T.get .no j (T.set .no .no id h) = T.get .no j h := fun j hj => T.get_set_ne _ _ _ _ _ hj
 refine ⟨fun j hj => ?_, fun y hy => ?_, H3.off, H3.nd, fun j hj => ?_⟩
 ·rw [other j (by rintro rfl; exact hj hid)]; exact H.keep j hj
 ·exact (H3.own y hy).congr fun m hm => other m (by rintro rfl; exact hni (List.mem_flatMap.2 ⟨y, hy, hm⟩))
 ·by_cases e : j = id
  ·subst e; exact T.get_set_same _ _ _ _
  ·rw [other j e]; exact H.fr j hj
theorem Dg.take {b n : Nat} {l : List Nat} (h : Dg b l) : Dg b (l.take n) := fun x hx => h x (List.mem_of_mem_take hx)
end Go.Ev
namespace Go.Ev
open Go Go.Proofs
variable {B : Nat}
set_option maxRecDepth 100000
theorem getD_some {l : List Nat} {k : Nat} (h : k < l.length) : l[k]? = some (l.getD k 0) := by rw [List.getD_eq_getElem?_getD, List.getElem?_eq_getElem h]; rfl
theorem dg_len_le {b z n : Nat} (hb : 2 ≤ b) (h : z < b ^ n) : (dg b z).length ≤ n := by
 induction n generalizing z with
 | zero => rw [show z = 0 by simp at h; exact h, dg_zero]; simp
 | succ n ih =>
  by_cases hz : z = 0
  ·rw [hz, dg_zero]; simp
  ·rw [dg_pos hb hz, List.length_cons]
   have := ih (z := z / b) (by rw [Nat.div_lt_iff_lt_mul (by omega), ← Nat.pow_succ]; exact h)
   omega
theorem Dg.append {b : Nat} {l m : List Nat} (h1 : Dg b l) (h2 : Dg b m) : Dg b (l ++ m) := fun x hx => by
 rcases List.mem_append.1 hx with q | q
 ·exact h1 x q
 ·exact h2 x q
theorem Dg.one {b x : Nat} (h : x < b) : Dg b [x] := fun y hy => by rw [List.mem_singleton.1 hy]; exact h
end Go.Ev
namespace Go.Ev
open Go Go.Proofs
variable {B : Nat}
set_option maxRecDepth 100000
end Go.Ev
namespace Go.Ev
open Go Go.Proofs
variable {B : Nat}
set_option maxRecDepth 100000
end Go.Ev
namespace Go.Ev
open Go Go.Proofs
variable {B : Nat}
set_option maxRecDepth 100000
end Go.Ev
namespace Go.Ev
open Go Go.Proofs
variable {B : Nat}
set_option maxRecDepth 100000
end Go.Ev
namespace Go.Ev
open Go Go.Proofs
variable {B : Nat}
set_option maxRecDepth 100000
end Go.Ev
namespace Go.Ev
open Go Go.Proofs
variable {B : Nat}
set_option maxRecDepth 100000
end Go.Ev
namespace Go.Ev
open Go Go.Proofs
variable {B : Nat}
set_option maxRecDepth 100000
end Go.Ev
namespace Go.Ev
open Go Go.Proofs
variable {B : Nat}
set_option maxRecDepth 100000
end Go.Ev
namespace Go.Ev
open Go Go.Proofs
variable {B : Nat}
set_option maxRecDepth 100000
end Go.Ev
namespace Go.Ev
open Go Go.Proofs
variable {B : Nat}
set_option maxRecDepth 100000
end Go.Ev
namespace Go.Ev
open Go Go.Proofs
variable {B : Nat}
set_option maxRecDepth 100000
end Go.Ev
namespace Go.Ev
open Go Go.Proofs
variable {B : Nat}
set_option maxRecDepth 100000
end Go.Ev
namespace Go.Ev
open Go Go.Proofs
variable {B : Nat}
set_option maxRecDepth 100000
def IntC (s w : AV) (z : Int) : Prop :=
 (s = I z ∧ w = .nils ∧ -9223372036854775808 ≤ z ∧ z ≤ 9223372036854775807) ∨
 (∃ n : Int, s = I n ∧ w = encW (dg 18446744073709551616 z.natAbs) ∧ ((z < 0 ∧ n = -1) ∨ (0 < z ∧ n = 1)) ∧ 9223372036854775808 ≤ z.natAbs)
def IntV (v : AV) (z : Int) : Prop := ∃ s w, v = .agg [s, w] ∧ IntC s w z
theorem uAgg {N : Pa → Prop} {O : AV → Prop} {hh : T Blk} {l : List AV} (h : ∀ v ∈ l, fixd v = true) : Frz True N O hh (.agg l) (.agg l) :=
 .agg _ _ rfl (List.all_eq_true.2 fun v hv => fixd.scal (h v hv)) fun i v v' h1 h2 => by rw [h1] at h2; cases h2; exact qC (h v (List.mem_of_getElem? h1))
theorem IntC.fix {s w : AV} {z : Int} (h : IntC s w z) : ∀ v ∈ [s, w], fixd v = true := by
 intro v hv
 simp only [List.mem_cons, List.not_mem_nil, or_false] at hv
 rcases h with ⟨rfl, rfl, _⟩ | ⟨n, rfl, rfl, _⟩
 ·rcases hv with rfl | rfl <;> rfl
 ·rcases hv with rfl | rfl
  ·rfl
  ·exact fixd_encW _
theorem IntV.frz {v : AV} {z : Int} (h : IntV v z) {N : Pa → Prop} {O : AV → Prop} {hh : T Blk} : Frz True N O hh v v := by
 obtain ⟨s, w, rfl, h⟩ := h
 exact uAgg h.fix
theorem intV_small {z : Int} (h : -9223372036854775808 ≤ z ∧ z ≤ 9223372036854775807) : IntV (.agg [I z, .nils]) z := ⟨_, _, rfl, .inl ⟨rfl, rfl, h.1, h.2⟩⟩
theorem uBuild1 {z : Int} {K : AV → OP} : sBuild [(I 0), .nils] [(0, 1, I z)] K = K (.agg [I z, .nils]) := nr rfl
def Zs (k : Nat) (z : Int) : Prop := z.natAbs < 18446744073709551616 ^ k
theorem Zs.len {k : Nat} {z : Int} (h : Zs k z) : (dg 18446744073709551616 z.natAbs).length ≤ k := dg_len_le (by decide) h
theorem of85 {z : Int} (h : -9223372036854775808 ≤ z ∧ z ≤ 9223372036854775807) : Pure Tryz.prog B 190 [I z] (fun v => IntV v z) := by
 refine wH fun hh nx K H0 hK => wJ tbl_ok dregU 100 fun hf => ?_
 rw [F190.go, F190.t3, zD, F190.t0_s]
 refine H0.alloc fun p h1 nx1 H1 => ?_
 rw [F190.t2, zD, F190.t1_s, uBuild1]
 refine H1.storeN (l2 := [I z, .nils]) (k := 0) rfl rfl rfl fun h4 H4 => ?_
 simp only [gN, q0]
 rw [F190.ret, H4.loadN (k := 0) (n := 2) rfl rfl]
 exact hK _ _ _ _ _ H4 (intV_small h).frz (intV_small h)
end Go.Ev
namespace Go.Ev
open Go Go.Proofs
variable {B : Nat}
set_option maxRecDepth 100000
end Go.Ev
namespace Go.Ev
open Go Go.Proofs
variable {B : Nat}
set_option maxRecDepth 100000
end Go.Ev
namespace Go.Ev
open Go Go.Proofs
variable {B : Nat}
set_option maxRecDepth 100000
theorem sRemI {a b : Int} {K : AV → OP} (hb : 1 ≤ b) : sBin .rem .int (I a) (I b) K = K (I (a.tmod b)) := by
 have e : sBin .rem .int (I a) (I b) K = (bif ieq b 0 then Out.no 5 else intK (a.tmod b) fun z => K (.int .i64 z)) := rfl
 have h0 : ieq b 0 = false := by rw [kP]; exact decide_eq_false (by omega)
 rw [e, h0, cond_false, kA]
end Go.Ev
namespace Go.Ev
open Go Go.Proofs
variable {B : Nat}
set_option maxRecDepth 100000
end Go.Ev
namespace Go.Ev
open Go Go.Proofs
variable {B : Nat}
set_option maxRecDepth 100000
def FracV (v : AV) (q : Rat) : Prop := ∃ s w s' w', v = .agg [s, w, s', w'] ∧ IntC s w q.num ∧ IntC s' w' (q.den : Int)
theorem IntC.fix4 {s w s' w' : AV} {a b : Int} (h : IntC s w a) (h' : IntC s' w' b) : ∀ v ∈ [s, w, s', w'], fixd v = true := by
 intro v hv
 rcases List.mem_cons.1 hv with rfl | hv
 ·exact h.fix _ (by simp)
 rcases List.mem_cons.1 hv with rfl | hv
 ·exact h.fix _ (by simp)
 exact h'.fix _ hv
theorem IntC.build {s w s' w' : AV} {a b : Int} (h : IntC s w a) (h' : IntC s' w' b) {K : AV → OP} : sBuild [(I 0), .nils, (I 0), .nils] [(0, 2, .agg [s, w]), (2, 2, .agg [s', w'])] K = K (.agg [s, w, s', w']) := nr rfl
theorem Zs.mono {k m : Nat} {z : Int} (h : Zs k z) (hkm : k ≤ m) : Zs m z := Nat.lt_of_lt_of_le h (Nat.pow_le_pow_right (by decide) hkm)
theorem Zs.mul {k m : Nat} {a b : Int} (ha : Zs k a) (hb : Zs m b) : Zs (k + m) (a * b) := by
 unfold Zs at *
 rw [Int.natAbs_mul, Nat.pow_add]
 exact Nat.mul_lt_mul'' ha hb
theorem Zs.add {k : Nat} {a b : Int} (ha : Zs k a) (hb : Zs k b) : Zs (k + 1) (a + b) := by
 unfold Zs at *
 have h1 := Int.natAbs_add_le a b
 have h2 : 18446744073709551616 ^ (k + 1) = 18446744073709551616 ^ k * 18446744073709551616 := Nat.pow_succ ..
 omega
end Go.Ev
namespace Go.Ev
open Go Go.Proofs
variable {B : Nat}
set_option maxRecDepth 100000
theorem int_num {z : Int} : ((z : Rat)).num = z ∧ (((z : Rat)).den : Int) = 1 := ⟨Rat.num_intCast z, by rw [Rat.den_intCast]; rfl⟩
theorem whole189 {v : AV} {z : Int} (hv : IntV v z) : Pure Tryz.prog B 189 [v] (fun v => FracV v (z : Rat)) := by
 obtain ⟨s, w, rfl, hv⟩ := hv
 refine wH fun h nx K H0 hK => wJ tbl_ok dregU 100 fun hf => ?_
 rw [F189.go, F189.t3, zD, F189.t0_s]
 refine H0.box (l := [s, w]) rfl fun pa h1 nx1 H1 => ?_
 refine H1.alloc fun p h2 nx2 H2 => ?_
 rw [F189.t2, zD, F189.t1_s, H2.loadN (k := 1) (n := 2) rfl rfl]
 refine of85 (by omega) _ _ _ _ ?_
 rintro _ ⟨s', w', rfl, h'⟩ _
 rw [H2.loadN (k := 1) (n := 2) rfl rfl, zC, hv.build h']
 refine H2.storeN (l2 := [s, w, s', w']) (k := 0) rfl rfl rfl fun h4 H4 => ?_
 simp only [gN, q0]
 rw [F189.ret, H4.loadN (k := 0) (n := 4) rfl rfl]
 exact hK _ _ _ _ _ H4 (uAgg (hv.fix4 h')) ⟨_, _, _, _, rfl, by rw [int_num.1]; exact hv, by rw [int_num.2]; exact h'⟩
theorem f89 {z : Int} (h : -9223372036854775808 ≤ z ∧ z ≤ 9223372036854775807) : Pure Tryz.prog B 89 [I z] (fun v => FracV v (z : Rat)) := by
 refine wH fun hh nx K H0 hK => wJ tbl_ok dregU 100 fun hf => ?_
 rw [F89.go, F89.t3, zD, F89.t0_s]
 refine H0.alloc fun p h2 nx2 H2 => ?_
 rw [F89.t2, zD, F89.t1_s]
 refine of85 h _ _ _ _ ?_
 intro v hv _
 refine whole189 hv _ _ _ _ ?_
 rintro _ ⟨s, w, s', w', rfl, i1, i2⟩ _
 refine H2.storeN (l2 := [s, w, s', w']) (k := 0) rfl rfl rfl fun h4 H4 => ?_
 simp only [gN, q0]
 rw [F89.ret, H4.loadN (k := 0) (n := 4) rfl rfl]
 exact hK _ _ _ _ _ H4 (uAgg (i1.fix4 i2)) ⟨_, _, _, _, rfl, i1, i2⟩
end Go.Ev
namespace Go.Ev
open Go Go.Proofs
variable {B : Nat}
set_option maxRecDepth 100000
theorem uGWt (op : KW3 → OP) (h : T Blk) (nx : Pa) (k : KW3) : sGW (.bool true) true op h nx k = op k := nr rfl
end Go.Ev
