import Derived.Test.YtlfhlkknakiafaaGreatDoorEvC
import Derived.Laws.Externs
import Derived.Shelf.Spec.BitsCarry
set_option linter.unusedSimpArgs false
set_option linter.unusedVariables false
namespace Go.Ev
open Go
def rowV (o : Option Pa) (e n : Nat) : AV := match o with
 | none => .nils
 | some id => .sl id 0 n none e
def cellV (o : Option Pa) (n : Nat) : AV := match o with
 | none => .nils
 | some id => .sl id 0 n (some n) 1
inductive Ob where
 | arr (id : Pa) (l : List AV)
 | row (o : Option Pa) (e n : Nat) (l : List AV)
 | tab (id : Pa) (rs : List (Option Pa)) (ll : List (List AV))
 | gro (o : Option Pa) (e n : Nat) (l : List AV)
 | map (id : Pa) (l : List (AV × AV))
 | iter (id mid : Pa) (n : Nat) (seen : List Nat) (c : Nat)
 | raw (id : Pa) (b : Blk)
def Ob.names : Ob → List Pa
 | .arr id _ => [id]
 | .row o _ _ _ => o.toList
 | .tab id rs _ => id :: rs.filterMap (fun o => o)
 | .gro o _ _ _ => o.toList
 | .map id _ => [id]
 | .iter id _ _ _ _ => [id]
 | .raw id _ => [id]
def HasArr (h : T Blk) (id : Pa) (l : List AV) : Prop := ∃ op t, T.get .no id h = .cells op l.length t ∧ zN t 0 l.length = l
def tabCells (rs : List (Option Pa)) (ll : List (List AV)) : List AV := List.zipWith (fun o l => cellV o (List.length l)) rs ll
def Ob.holds (h : T Blk) : Ob → Prop
 | .arr id l => HasArr h id l
 | .row o e n l => match o with
  | none => l = [] ∧ n = 0
  | some id => ∃ m t, T.get .no id h = .cells true m t ∧ l.length = n * e ∧ n * e ≤ m ∧ e ∣ m ∧ zN t 0 (n * e) = l
 | .tab id rs ll => HasArr h id (tabCells rs ll) ∧ rs.length = ll.length ∧ (∀ (i : Nat) (r : Pa), rs[i]? = some (some r) → ∃ l, ll[i]? = some l ∧ HasArr h r l) ∧ ∀ (i : Nat) l, rs[i]? = some none → ll[i]? = some l → l = []
 | .gro o e n l => match o with
  | none => l = [] ∧ n = 0
  | some id => ∃ t, T.get .no id h = .cells true (n * e) t ∧ l.length = n * e ∧ zN t 0 (n * e) = l
 | .map id l => T.get .no id h = .map l.length l
 | .iter id mid n seen c => T.get .no id h = .iter mid n seen c
 | .raw id b => T.get .no id h = b ∧ b ≠ .no
theorem HasArr.congr {h h' : T Blk} {id : Pa} {l : List AV} (H : HasArr h id l) (e : T.get .no id h' = T.get .no id h) : HasArr h' id l := by
 obtain ⟨op, t, h1, h2⟩ := H; exact ⟨op, t, by rw [e]; exact h1, h2⟩
theorem Ob.holds.congr {h h' : T Blk} : ∀ {x : Ob}, x.holds h → (∀ n ∈ x.names, T.get .no n h' = T.get .no n h) → x.holds h'
 | .arr id l, H, e => HasArr.congr H (e id (by simp [Ob.names]))
 | .row none _ _ l, H, _ => H
 | .row (some id) _ _ l, H, e => by
  obtain ⟨m, t, h1, h2⟩ := H
  exact ⟨m, t, by rw [e id (by simp [Ob.names])]; exact h1, h2⟩
 | .tab id rs ll, H, e => by
  obtain ⟨h1, h2, h3, h4⟩ := H
  refine ⟨h1.congr (e id (by simp [Ob.names])), h2, fun i r hr => ?_, h4⟩
  obtain ⟨l, q1, q2⟩ := h3 i r hr
  exact ⟨l, q1, q2.congr (e r (by simp [Ob.names]; exact .inr (List.mem_of_getElem? hr)))⟩
 | .gro none _ _ l, H, _ => H
 | .gro (some id) _ _ l, H, e => by
  obtain ⟨t, h1, h2⟩ := H
  exact ⟨t, by rw [e id (by simp [Ob.names])]; exact h1, h2⟩
 | .map id l, H, e => (e id (by simp [Ob.names])).trans H
 | .iter id _ _ _ _, H, e => (e id (by simp [Ob.names])).trans H
 | .raw id _, H, e => ⟨(e id (by simp [Ob.names])).trans H.1, H.2⟩
theorem Ob.holds.live {h : T Blk} : ∀ {x : Ob}, x.holds h → ∀ n ∈ x.names, T.get .no n h ≠ .no
 | .arr id l, ⟨op, t, h1, _⟩, n, hn => by
  simp [Ob.names] at hn; subst hn; rw [h1]; intro e; cases e
 | .row none _ _ l, H, n, hn => by simp [Ob.names] at hn
 | .row (some id) _ _ l, ⟨m, t, h1, h2⟩, n, hn => by
  simp [Ob.names] at hn; subst hn; rw [h1]; intro e; cases e
 | .tab id rs ll, ⟨⟨op, t, h1, _⟩, h2, h3, h4⟩, n, hn => by
  simp [Ob.names] at hn
  rcases hn with rfl | hn
  ·rw [h1]; intro e; cases e
  ·obtain ⟨i, hi⟩ := List.mem_iff_getElem?.1 hn
   obtain ⟨l, _, op, t, q, _⟩ := h3 i n hi
   rw [q]; intro e; cases e
 | .gro none _ _ l, H, n, hn => by simp [Ob.names] at hn
 | .gro (some id) _ _ l, ⟨t, h1, h2⟩, n, hn => by
  simp [Ob.names] at hn; subst hn; rw [h1]; intro e; cases e
 | .map id l, H, n, hn => by
  simp [Ob.names] at hn; subst hn
  have H : T.get .no n h = .map l.length l := H
  rw [H]; intro e; cases e
 | .iter id mid k seen c, H, n, hn => by
  simp [Ob.names] at hn; subst hn
  have H : T.get .no n h = .iter mid k seen c := H
  rw [H]; intro e; cases e
 | .raw id b, ⟨h1, h2⟩, n, hn => by
  simp [Ob.names] at hn; subst hn
  rw [h1]; exact h2
structure Hp (h0 h : T Blk) (nx : Pa) (L : List Ob) : Prop where
 keep : uB h0 h
 own : ∀ x ∈ L, x.holds h
 off : ∀ n ∈ L.flatMap Ob.names, T.get .no n h0 = .no
 nd : (L.flatMap Ob.names).Nodup
 fr : Fr h nx
variable {h0 h h' : T Blk} {nx : Pa} {L L' : List Ob} {K : KW3} {k i n c : Nat} {id : Pa} {l : List AV} {v : AV}
theorem Hp.init (hf : Fr h nx) : Hp h h nx [] := ⟨fun _ _ => rfl, by simp, by simp, by simp, hf⟩
theorem Hp.drop {x : Ob} (H : Hp h0 h nx (x :: L)) : Hp h0 h nx L := ⟨H.keep, fun y hy => H.own y (List.mem_cons_of_mem _ hy), fun n hn => H.off n (by rw [List.flatMap_cons]; exact List.mem_append_right _ hn),
 by have := H.nd; rw [List.flatMap_cons] at this; exact (List.nodup_append.1 this).2.1, H.fr⟩
theorem Hp.perm (H : Hp h0 h nx L) (hp : L.Perm L') : Hp h0 h nx L' := ⟨H.keep, fun x hx => H.own x (hp.mem_iff.2 hx), fun n hn => H.off n ((hp.flatMap_right Ob.names).mem_iff.2 hn), (hp.flatMap_right Ob.names).nodup_iff.1 H.nd, H.fr⟩
theorem Hp.lt (H : Hp h0 h nx L) {x : Ob} (hx : x ∈ L) {m : Pa} (hm : m ∈ x.names) : m ≠ nx := by
 rintro rfl
 exact (H.own x hx).live _ hm (H.fr _ (Nat.le_refl _))
theorem Hp.nxFree (H : Hp h0 h nx L) : T.get .no nx h0 = .no := by
 by_cases e : T.get .no nx h0 = .no
 ·exact e
 ·have := H.keep nx e
  rw [H.fr nx (Nat.le_refl _)] at this
  exact this.symm
theorem Hp.new (H : Hp h0 h nx L) {b : Blk} {x : Ob} (hn : x.names = [nx]) (hx : ∀ h', T.get .no nx h' = b → x.holds h') : Hp h0 (T.set .no b nx h) nx.succ (x :: L) := by
 have other : ∀ j, j ≠ nx → T.get .no j (T.set .no b nx h) = T.get .no j h := fun j hj => T.get_set_ne _ _ _ _ _ hj
 refine ⟨fun j hj => ?_, fun y hy => ?_, fun m hm => ?_, ?_, fun j hj => ?_⟩
 ·rw [other j (by rintro rfl; exact hj H.nxFree)]; exact H.keep j hj
 ·rcases List.mem_cons.1 hy with rfl | hy
  ·exact hx _ (T.get_set_same _ _ _ _)
  ·exact (H.own y hy).congr fun m hm => other m (H.lt hy hm)
 ·rw [List.flatMap_cons, hn] at hm
  rcases List.mem_append.1 hm with hm | hm
  ·rw [List.mem_singleton.1 hm]; exact H.nxFree
  ·exact H.off m hm
 ·rw [List.flatMap_cons, hn]
  refine List.nodup_append.2 ⟨by simp, H.nd, ?_⟩
  rintro a ha b hb rfl
  rw [List.mem_singleton.1 ha] at hb
  obtain ⟨y, hy, hb⟩ := List.mem_flatMap.1 hb
  exact H.lt hy hb rfl
 ·rw [Pa.toNat_succ] at hj
  rw [other j (by rintro rfl; omega)]; exact H.fr j (by omega)
theorem Hp.upd (H : Hp h0 h nx L) {b : Blk} {x x' : Ob} (hk : L[k]? = some x) (hm : id ∈ x.names) (hn : x'.names = x.names) (hx : x'.holds (T.set .no b id h)) : Hp h0 (T.set .no b id h) nx (L.set k x') := by
 have hkl := (List.getElem?_eq_some_iff.1 hk).1
 have hxm := List.mem_of_getElem? hk
 have other : ∀ j, j ≠ id → T.get .no j (T.set .no b id h) = T.get .no j h := fun j hj => T.get_set_ne _ _ _ _ _ hj
 have hid : T.get .no id h0 = .no := H.off id (List.mem_flatMap.2 ⟨x, hxm, hm⟩)
 have hL : L = L.take k ++ x :: L.drop (k + 1) := by
  rw [List.getElem?_eq_getElem hkl] at hk
  rw [← Option.some.inj hk]; simp
 have hS : L.set k x' = L.take k ++ x' :: L.drop (k + 1) := by rw [List.set_eq_take_append_cons_drop, if_pos hkl]
 have hfl : (L.set k x').flatMap Ob.names = L.flatMap Ob.names := by
  conv => rhs; rw [hL]
  rw [hS]; simp [hn]
 have hnd := H.nd
 rw [hL] at hnd
 simp only [List.flatMap_append, List.flatMap_cons] at hnd
 have hnot : ∀ y, y ∈ L.take k ∨ y ∈ L.drop (k + 1) → id ∉ y.names := by
  intro y hy hi
  rcases hy with hy | hy
  ·exact (List.nodup_append.1 hnd).2.2 id (List.mem_flatMap.2 ⟨y, hy, hi⟩) id (List.mem_append_left _ hm) rfl
  ·exact (List.nodup_append.1 (List.nodup_append.1 hnd).2.1).2.2 id hm id (List.mem_flatMap.2 ⟨y, hy, hi⟩) rfl
 refine ⟨fun j hj => ?_, fun y hy => ?_, ?_, by rw [hfl]; exact H.nd, fun j hj => ?_⟩
 ·rw [other j (by rintro rfl; exact hj hid)]; exact H.keep j hj
 ·rw [hS] at hy
  have step : ∀ y, y ∈ L.take k ∨ y ∈ L.drop (k + 1) → y.holds (T.set .no b id h) := fun y hy =>
   (H.own y (by rw [hL]; rcases hy with hy | hy <;> simp [hy])).congr fun m hm' => other m (by rintro rfl; exact hnot y hy hm')
  rcases List.mem_append.1 hy with hy | hy
  ·exact step y (.inl hy)
  ·rcases List.mem_cons.1 hy with rfl | hy
   ·exact hx
   ·exact step y (.inr hy)
 ·rw [hfl]; exact H.off
 ·rw [other j (by rintro rfl; exact (H.own x hxm).live _ hm (H.fr _ hj))]; exact H.fr j hj
theorem kK (l : List AV) : zN (yD l .e 0) 0 l.length = l := by
 have := qU .e [] l 0 rfl
 simpa using this
theorem Hp.newArr (H : Hp h0 h nx L) (op : Bool) (l : List AV) : Hp h0 (T.set .no (.cells op l.length (yD l .e 0)) nx h) nx.succ (.arr nx l :: L) :=
 H.new rfl fun h' e => ⟨op, _, e, kK l⟩
theorem Hp.box (H : Hp h0 h nx L) (hv : v.cells = some l) (hK : ∀ id h' nx', Hp h0 h' nx' (.arr id l :: L) → K (.ptr id 0) h' nx' = .ok True) : sBox v h nx K = .ok True := by
 unfold sBox; rw [hv]
 show zK false l h nx _ = _
 rw [zJ]
 exact hK _ _ _ (H.newArr false l)
theorem Hp.alloc (H : Hp h0 h nx L) (hK : ∀ id h' nx', Hp h0 h' nx' (.arr id l :: L) → K (.ptr id 0) h' nx' = .ok True) : y9 l h nx K = .ok True := by
 unfold y9
 rw [zJ]
 exact hK _ _ _ (H.newArr false l)
theorem Hp.bslice {esz n : Nat} {zero : List AV} {ps : List (Nat × Nat × AV)} (H : Hp h0 h nx L) (hf : yO (repl n zero) ps = some l) (hK : ∀ id h' nx', Hp h0 h' nx' (.arr id l :: L) → K (.sl id 0 n (some n) esz) h' nx' = .ok True) : kX esz n zero ps h nx K = .ok True := by
 unfold kX
 rw [hf]
 show zK false l h nx _ = _
 rw [zJ]
 exact hK _ _ _ (H.newArr false l)
theorem HasArr.load {op : AV → OP} (H : HasArr h id l) (hi : l[i]? = some v) : kW (.ptr id i) h op = op v := by
 obtain ⟨o, t, h1, h2⟩ := H
 have hil := (List.getElem?_eq_some_iff.1 hi).1
 rw [sLoad_ptr h1 hil]
 have := zP t 0 l.length i hil
 rw [h2, hi, Nat.zero_add] at this
 rw [Option.some.inj this]
theorem Hp.load {op : AV → OP} (H : Hp h0 h nx L) (hk : L[k]? = some (.arr id l)) (hi : l[i]? = some v) : kW (.ptr id i) h op = op v :=
 HasArr.load (H.own _ (List.mem_of_getElem? hk)) hi
theorem rdList_set (t : T AV) (l : List AV) (i : Nat) (hi : i < l.length) (v : AV) (h : zN t 0 l.length = l) : zN (T.set .undef v (.of i) t) 0 l.length = l.set i v := by
 apply List.ext_getElem?
 intro j
 by_cases hj : j < l.length
 ·rw [zP _ _ _ _ hj, Nat.zero_add, T.get_set_of, List.getElem?_set]
  by_cases e : j = i
  ·subst e; simp [hj]
  ·rw [if_neg e, if_neg (fun q => e q.symm)]
   have := zP t 0 l.length j hj
   rw [h, Nat.zero_add] at this
   exact this.symm
 ·rw [List.getElem?_eq_none (by simp; omega), List.getElem?_eq_none (by simp; omega)]
theorem HasArr.set {op : Bool} {t : T AV} (h1 : T.get .no id h = .cells op l.length t) (h2 : zN t 0 l.length = l) (hi : i < l.length) : HasArr (T.set .no (.cells op l.length (T.set .undef v (.of i) t)) id h) id (l.set i v) :=
 ⟨op, T.set .undef v (.of i) t, by rw [T.get_set_same, List.length_set], by rw [List.length_set]; exact rdList_set t l i hi v h2⟩
theorem Hp.store (H : Hp h0 h nx L) (hk : L[k]? = some (.arr id l)) (hi : i < l.length) (hv : v.cells = some [v]) (hK : ∀ h', Hp h0 h' nx (L.set k (.arr id (l.set i v))) → K .undef h' nx = .ok True) : yX 1 (.ptr id i) v h nx K = .ok True := by
 obtain ⟨o, t, h1, h2⟩ : HasArr h id l := H.own _ (List.mem_of_getElem? hk)
 rw [sStore_ptr h1 hi hv]
 exact hK _ (H.upd hk (by simp [Ob.names]) rfl (HasArr.set h1 h2 hi))
theorem Hp.app {esz bytes : Nat} {o : Option Pa} {x : AV} {new : List AV} (H : Hp h0 h nx L) (hk : L[k]? = some (.row o esz n l)) (hx : ∀ (no : OP) (K' : List AV → Nat → OP), uQ x h no K' = K' new 1) (hne : new.length = esz) (hs : new.all scal = true)
  (he : 1 ≤ esz) (hb : bytes * 1000000 ≤ 70368744177664) (hlim : l.length + 1 ≤ 1000000) (hK : ∀ o' h' nx', Hp h0 h' nx' (L.set k (.row o' esz (n + 1) (l ++ new))) → K (rowV o' esz (n + 1)) h' nx' = .ok True) :
  sApp esz bytes (rowV o esz n) x h nx K = .ok True := by
 have hc : (Nat.ble (bytes * 1000000) 70368744177664 && Nat.beq new.length (1 * esz) && Nat.ble 1 esz && new.all scal) = true := by
  simp only [Bool.and_eq_true, hs, and_true]
  exact ⟨⟨Nat.ble_eq_true_of_le hb, by rw [hne, Nat.one_mul]; exact Nat.beq_refl _⟩, Nat.ble_eq_true_of_le he⟩
 unfold sApp appA
 rw [hx, hc, cond_true]
 have hkl := (List.getElem?_eq_some_iff.1 hk).1
 have hmem := List.mem_of_getElem? hk
 have hL : L = L.take k ++ .row o esz n l :: L.drop (k + 1) := by
  have hk := hk
  rw [List.getElem?_eq_getElem hkl] at hk
  rw [← Option.some.inj hk]; simp
 have hS : ∀ x', L.set k x' = L.take k ++ x' :: L.drop (k + 1) := fun x' => by rw [List.set_eq_take_append_cons_drop, if_pos hkl]
 have toFront : ∀ x', (x' :: (L.take k ++ L.drop (k + 1))).Perm (L.set k x') := fun x' => by
  rw [hS]; exact (List.perm_middle).symm
 have front : L.Perm (.row o esz n l :: (L.take k ++ L.drop (k + 1))) := by
  conv => lhs; rw [hL]
  exact List.perm_middle
 have own := H.own _ hmem
 cases o with
 | none =>
  obtain ⟨rfl, rfl⟩ := own
  show (bif Nat.beq 1 0 then K .nils h nx else bif Nat.ble 1 1000000 then zK true new h nx (fun id h' nx' => K (.sl id 0 1 none esz) h' nx') else .no 31) = _
  rw [zJ]
  refine hK (some nx) _ _ ?_
  refine Hp.perm (Hp.new ((H.perm front).drop) (x := .row (some nx) esz 1 ([] ++ new)) rfl fun h' e => ?_) (toFront _)
  refine ⟨new.length, _, e, by simp [hne], by omega, by rw [hne]; exact Nat.dvd_refl _, ?_⟩
  have := kK new
  rw [hne] at this
  simpa using this
 | some id =>
  obtain ⟨m, t, hb, hl, hm, hd, hrd⟩ := own
  have hn : n + 1 ≤ 1000000 := by
   have : n ≤ n * esz := Nat.le_mul_of_pos_right _ he
   omega
  by_cases hroom : (n + 1) * esz ≤ m
  ·show (bif Nat.beq esz esz && Nat.ble (n + 1) 1000000 then asCells (T.get .no id h) _ (.no 35) else .no 36) = _
   rw [hb, Nat.beq_refl, Nat.ble_eq_true_of_le hn]
   show (bif Nat.ble (0 + n * esz) m then (bif Nat.ble (0 + (n + 1) * esz) m then u0 id 0 n none esz true m t new 1 h nx K else _) else _) = _
   rw [Nat.ble_eq_true_of_le (by omega), Nat.ble_eq_true_of_le (by omega)]
   show yN new t (0 + n * esz) _ = _
   rw [zT, T.setK_eq, zL, Nat.zero_add]
   refine hK (some id) _ _ (H.upd hk (by simp [Ob.names]) rfl ?_)
   refine ⟨m, _, T.get_set_same _ _ _ _, by simp [hl, hne, Nat.add_mul], hroom, hd, ?_⟩
   have := qU t l new (n * esz) hrd
   rw [hne] at this
   rw [Nat.add_mul, Nat.one_mul]; exact this
  ·have hmn : n * esz = m := by
    obtain ⟨q, rfl⟩ := hd
    have h1 : esz * n ≤ esz * q := by rw [Nat.mul_comm esz n]; exact hm
    have h2 : ¬ esz * (n + 1) ≤ esz * q := by rw [Nat.mul_comm esz (n + 1)]; exact hroom
    have h3 : n ≤ q := Nat.le_of_mul_le_mul_left h1 he
    have h4 : ¬ n + 1 ≤ q := fun h => h2 (Nat.mul_le_mul_left _ h)
    rw [show q = n by omega, Nat.mul_comm]
   show (bif Nat.beq esz esz && Nat.ble (n + 1) 1000000 then asCells (T.get .no id h) _ (.no 35) else .no 36) = _
   rw [hb, Nat.beq_refl, Nat.ble_eq_true_of_le hn]
   show (bif Nat.ble (0 + n * esz) m then (bif Nat.ble (0 + (n + 1) * esz) m then u0 id 0 n none esz true m t new 1 h nx K else (bif true && Nat.beq (0 + n * esz) m && Nat.beq 0 0 then appMove id n esz m t new 1 h nx K else .no 33)) else _) = _
   have hnot : Nat.ble (0 + (n + 1) * esz) m = false := by
    cases hq : Nat.ble (0 + (n + 1) * esz) m with
    | false => rfl
    | true => have := zB hq; omega
   have hbq : Nat.beq (0 + n * esz) m = true := by rw [Nat.zero_add, hmn]; exact Nat.beq_refl _
   rw [Nat.ble_eq_true_of_le (by omega), hnot, hbq]
   show yN new t m _ = _
   rw [zT, zL, T.setK_eq, T.setK_eq, zL]
   refine hK (some nx) _ _ (Hp.perm (Hp.new (b := .cells true (m + 1 * esz) (yD new t m)) (x := .row (some nx) esz (n + 1) (l ++ new)) (h := T.set .no .no id h) ?_ rfl fun h' e => ?_) (toFront _))
   ·have H2 := H.perm front
    have hid : T.get .no id h0 = .no := H2.off id (by simp [Ob.names])
    have H3 := H2.drop
    have nd := H2.nd
    simp only [List.flatMap_cons, Ob.names, Option.toList] at nd
    have hni : id ∉ (L.take k ++ L.drop (k + 1)).flatMap Ob.names := fun hi => (List.nodup_append.1 nd).2.2 id (by simp) id hi rfl
    have other : ∀ j, j ≠ id → T.get .no j (T.set .no .no id h) = T.get .no j h := fun j hj => T.get_set_ne _ _ _ _ _ hj
    refine ⟨fun j hj => ?_, fun y hy => ?_, H3.off, H3.nd, fun j hj => ?_⟩
    ·rw [other j (by rintro rfl; exact hj hid)]; exact H.keep j hj
    ·exact (H3.own y hy).congr fun m hm => other m (by rintro rfl; exact hni (List.mem_flatMap.2 ⟨y, hy, hm⟩))
    ·by_cases e : j = id
     ·subst e; exact T.get_set_same _ _ _ _
     ·rw [other j e]; exact H.fr j hj
   ·refine ⟨m + 1 * esz, _, e, by simp [hl, hne, Nat.add_mul], by rw [← hmn, Nat.add_mul]; omega, ?_, ?_⟩
    ·rw [Nat.one_mul]; exact Nat.dvd_add hd (Nat.dvd_refl _)
    ·have := qU t l new (n * esz) hrd
     rw [hne] at this
     rw [Nat.add_mul, Nat.one_mul, ← hmn]; exact this
theorem sIx {e' : Nat} {cap : Option Nat} {kk : IntKind} {j : Int} {op : AV → OP} (hj : j = (i : Int)) (hi : i < n) : zZ 1 (.sl id 0 n cap e') (.int kk j) op = op (.ptr id i) := by
 subst hj; rw [sIaddr_sl hi]; simp
theorem sIxL {e : Nat} {kk : IntKind} {j : Int} {op : AV → OP} (hj : j = (i : Int)) (hi : i < n) : zZ e (.lst e n l) (.int kk j) op = op (.fp (l.drop (i * e))) := by
 subst hj; rw [sIaddr_lst hi]
def fixd : AV → Bool
 | .bool _ | .int _ _ | .str _ | .nilp | .nils | .esl | .nilm | .nilf => true
 | .lst _ _ l => nns l
 | .fp l => nns l
 | _ => false
theorem fixd.scal : ∀ {v : AV}, fixd v = true → Ev.scal v = true := by
 intro v h; cases v <;> first | rfl | (simp [fixd] at h)
theorem fixd.nn : ∀ {v : AV}, fixd v = true → Ev.nn v = true := by
 intro v h; cases v <;> first | rfl | (simp [fixd] at h; done) | (simpa [fixd, Ev.nn] using h)
theorem fixd_all : ∀ {l : List AV}, (∀ v ∈ l, fixd v = true) → nns l = true
 | [], _ => rfl
 | a :: l, h => by simp [nns, fixd.nn (h a (by simp)), fixd_all (l := l) fun v hv => h v (by simp [hv])]
theorem qC {N : Pa → Prop} {O : AV → Prop} {hh : T Blk} : ∀ {v : AV}, fixd v = true → Frz True N O hh v v := by
 intro v h
 cases v <;> first
  |(simp [fixd] at h; done)
  | exact .bool _ | exact .int _ _ | exact .str _ | exact .nilp | exact .nils | exact .esl | exact .nilm | exact .nilf
  | exact .lst _ _ _ trivial h
  | exact .fp _ trivial h
theorem HasArr.frz {N : Pa → Prop} {O : AV → Prop} {cap : Option Nat} {e n : Nat} (H : HasArr h id l) (hid : N id) (hcap : capLe n cap) (hl : l.length = n * e) (hf : ∀ v ∈ l, fixd v = true) : Frz True N O h (.sl id 0 n cap e) (.lst e n l) := by
 obtain ⟨op, t, h1, h2⟩ := H
 refine .sl _ _ _ _ _ op _ t _ hid hcap h1 (by omega) hl (List.all_eq_true.2 fun v hv => fixd.scal (hf v hv)) fun i v hi => ?_
 have := zP t 0 l.length i (List.getElem?_eq_some_iff.1 hi).1
 rw [h2, hi] at this
 rw [← Option.some.inj this]
 exact qC (hf v (List.mem_of_getElem? hi))
theorem wH {P : Program} {B : Nat} {f : Nat} {args : List AV} {Q : AV → Prop}
  (hk : ∀ (h : T Blk) (nx : Pa) (K : Kw Prop), Hp h h nx [] → (∀ v h' nx' L v', Hp h h' nx' L → FrzN h h' v v' → Q v' → K v h' nx' = .ok True) → (CS P B).fn f (.of f) args h nx K = .ok True) : Pure P B f args Q :=
 pure_of fun h nx K hf hK => hk h nx K (Hp.init hf) fun v h' nx' _ v' H hF hQ => hK v h' nx' H.fr H.keep ⟨v', hF, hQ⟩
end Go.Ev
namespace Go.Ev
open Go
def rowL {α : Type} (W : Nat) (d : Nat → α) : List α := (List.range W).map d
section
variable {α : Type} {W : Nat} {d d' : Nat → α} {j : Nat} {v : α}
@[simp] theorem rowL_length : (rowL W d).length = W := by simp [rowL]
def tabL (N W : Nat) (D : Nat → Nat → α) : List (List α) := rowL N fun i => rowL W (D i)
variable {N k : Nat} {D D' : Nat → Nat → α}
@[simp] theorem tabL_length : (tabL N W D).length = N := rowL_length
end
end Go.Ev
namespace Go.Ev
open Go
abbrev encI (l : List Int) : AV := .lst 1 l.length (l.map I)
abbrev encT (ll : List (List Int)) : AV := .lst 1 ll.length (ll.map encI)
theorem fixd_I (l : List Int) : nns (l.map I) = true := fixd_all fun v hv => by
 obtain ⟨x, _, rfl⟩ := List.mem_map.1 hv; rfl
theorem fixd_encI (l : List Int) : fixd (encI l) = true := fixd_I l
end Go.Ev
namespace Go.Ev
open Go
noncomputable def tEq : T AV → T AV → Bool
 | .e, .e => true
 | .n l v r, .n l' v' r' => avEq v v' && tEq l l' && tEq r r'
 | _, _ => false
theorem tEq_eq : ∀ {a b : T AV}, tEq a b = true → a = b
 | .e, .e, _ => rfl
 | .e, .n .., h => by simp [tEq] at h
 | .n .., .e, h => by simp [tEq] at h
 | .n l v r, .n l' v' r', h => by
  simp only [tEq, Bool.and_eq_true] at h
  rw [uH h.1.1, tEq_eq h.1.2, tEq_eq h.2]
noncomputable def esEq : List (AV × AV) → List (AV × AV) → Bool
 | [], [] => true
 |(a, b) :: l, (c, d) :: m => avEq a c && avEq b d && esEq l m
 | _, _ => false
theorem esEq_eq : ∀ {a b : List (AV × AV)}, esEq a b = true → a = b
 | [], [], _ => rfl
 | [], _ :: _, h => by simp [esEq] at h
 | _ :: _, [], h => by simp [esEq] at h
 |(a, b) :: l, (c, d) :: m, h => by
  simp only [esEq, Bool.and_eq_true] at h
  rw [uH h.1.1, uH h.1.2, esEq_eq h.2]
noncomputable def wK : Blk → Blk → Bool
 | .no, _ => true
 | .cells op n t, .cells op' n' t' => op == op' && Nat.beq n n' && tEq t t'
 | .map n l, .map n' l' => Nat.beq n n' && esEq l l'
 | _, _ => false
theorem blkKept_ok : ∀ {a b : Blk}, wK a b = true → a ≠ .no → b = a := by
 intro a b h hn
 cases a <;> cases b <;> first
  | exact (hn rfl).elim
  |(simp [wK] at h; done)
  |(simp only [wK, Bool.and_eq_true] at h
    first
     |(obtain ⟨⟨h1, h2⟩, h3⟩ := h; rw [eq_of_beq h1, zE h2, tEq_eq h3])
     |(rw [zE h.1, esEq_eq h.2]))
noncomputable def keepT : T Blk → T Blk → Bool
 | .e, _ => true
 | .n l v r, .n l' v' r' => wK v v' && keepT l l' && keepT r r'
 | .n .., .e => false
theorem keepT_ok : ∀ {h h' : T Blk}, keepT h h' = true → ∀ id, T.get .no id h ≠ .no → T.get .no id h' = T.get .no id h
 | .e, _, _, id, hn => (hn (T.get_e _ id)).elim
 | .n .., .e, h, _, _ => by simp [keepT] at h
 | .n l v r, .n l' v' r', h, id, hn => by
  simp only [keepT, Bool.and_eq_true] at h
  cases id with
  | z => rw [T.get_z] at hn ⊢; rw [T.get_z]; exact blkKept_ok h.1.1 hn
  | l p => rw [T.get_l] at hn ⊢; rw [T.get_l]; exact keepT_ok h.1.2 p hn
  | r p => rw [T.get_r] at hn ⊢; rw [T.get_r]; exact keepT_ok h.2 p hn
noncomputable def allEq (f : Nat → Out AV) (v : AV) : List Nat → Bool
 | [] => true
 | i :: l => match f i with
  | .ok u => bif avEq u v then allEq f v l else false
  | .no _ => false
theorem allEq_ok {f : Nat → Out AV} {v : AV} : ∀ {l : List Nat}, allEq f v l = true → ∀ i ∈ l, f i = .ok v
 | [], _, i, hi => by simp at hi
 | j :: l, h, i, hi => by
  simp only [allEq] at h
  cases hf : f j with
  | no => simp [hf] at h
  | ok u =>
   rw [hf] at h
   cases hq : avEq u v with
   | false => simp [hq] at h
   | true =>
    simp [hq] at h
    rcases List.mem_cons.1 hi with rfl | hi
    ·rw [hf, uH hq]
    ·exact allEq_ok h i hi
noncomputable def pkAll (L : List Nat) (f : Nat → Out AV) : Out AV := match L with
 | [] => .no 70
 | i :: l => match f i with
  | .ok v => bif allEq f v l then .ok v else .no 71
  | .no n => .no n
theorem pkAll_ok {L : List Nat} {f : Nat → Out AV} {r : AV} (h : pkAll L f = .ok r) : ∀ i ∈ L, f i = .ok r := by
 cases L with
 | nil => cases h
 | cons i l =>
  simp only [pkAll] at h
  cases hf : f i with
  | no => simp [hf] at h
  | ok v =>
   rw [hf] at h
   cases hq : allEq f v l with
   | false => simp [hq] at h
   | true =>
    simp [hq] at h
    subst h
    intro j hj
    rcases List.mem_cons.1 hj with rfl | hj
    ·exact hf
    ·exact allEq_ok hq j hj
noncomputable def letK (h : T Blk) : Kw AV := fun v h' _ => bif keepT h h' then (match fzB 20 h h' v with
 | some v' => .ok v'
 | none => .no 72) else .no 73
noncomputable def uW (S : Nat → Bool) (J : Nat → List AV → T Blk → Option (AV × T Blk)) (fns : T (Option Fn)) (fuel : Nat) (n : Nat) : Calls AV :=
 Nat.rec ⟨fun _ _ _ _ _ _ => .no 80, fun _ _ _ _ _ => .no 81, fun _ _ => .no 79⟩ (fun _ C => ⟨fun f p args h nx K => Option.rec (motive := fun _ => Out AV)
  (Bool.rec (y4 fns fuel C p args h nx K) (Out.rec (motive := fun _ => Out AV) (fun v => K v h nx) (fun n => .no n) (y4 fns fuel C p args h nx (letK h))) (S f))
  (fun x => Prod.rec (motive := fun _ => Out AV) (fun v h => K v h nx) x) (J f args h), callYld fuel C, pkAll⟩) n
variable {P : Program} {B : Nat}
theorem callsF_ok {S : Nat → Bool} {J : Nat → List AV → T Blk → Option (AV × T Blk)} {fns : T (Option Fn)} (hT : TabOk P fns) (hD : wM P B AV) (hJ : JOk P B J) (fuel : Nat) : ∀ n, COk P B (uW S J fns fuel n)
 | 0 => ⟨fun _ _ hk => (by cases hk), fun _ _ _ hk => (by cases hk), fun _ _ _ hk => (by cases hk)⟩
 | n + 1 => by
  have ih := callsF_ok (S := S) hT hD hJ fuel n
  refine ⟨fun {E h nx w f args vs K r} H hv hk => ?_, fun H hE hv hk => callYld_sound ih (hD ih) H hE hv hk, fun _ _ _ hk => pkAll_ok hk⟩
  have hk : Option.rec (motive := fun _ => Out AV)
   (Bool.rec (y4 fns fuel (uW S J fns fuel n) (.of f) args h nx K) (Out.rec (motive := fun _ => Out AV) (fun v => K v h nx) (fun n => .no n) (y4 fns fuel (uW S J fns fuel n) (.of f) args h nx (letK h))) (S f))
   (fun x => Prod.rec (motive := fun _ => Out AV) (fun v h => K v h nx) x) (J f args h) = .ok r := hk
  cases hj : J f args h with
  | none =>
   rw [hj] at hk
   cases hs : S f with
   | false => rw [hs] at hk; exact uG hT ih (hD ih) H hv hk
   | true =>
    rw [hs] at hk
    have hk : Out.rec (motive := fun _ => Out AV) (fun v => K v h nx) (fun n => .no n) (y4 fns fuel (uW S J fns fuel n) (.of f) args h nx (letK h)) = .ok r := hk
    cases hc : y4 fns fuel (uW S J fns fuel n) (.of f) args h nx (letK h) with
    | no m => rw [hc] at hk; cases hk
    | ok v' =>
     rw [hc] at hk
     have hk : K v' h nx = .ok r := hk
     obtain ⟨fn, h1, h2, h3, h4⟩ := uG hT ih (hD ih) H hv hc
     refine ⟨fn, h1, h2, h3, fun n => (h4 n).mono fun e w' he => ?_⟩
     cases e <;> first
      | exact he.elim
      |(obtain ⟨av, h', nx', E', k1, k2, k3, k4⟩ := he
        unfold letK at k1
        cases hq : keepT h h' with
        | false => simp [hq] at k1
        | true =>
         rw [hq, cond_true] at k1
         cases hz : fzB 20 h h' av with
         | none => simp [hz] at k1
         | some v2 =>
          simp [hz] at k1
          subst k1
          have hkp : uB h h' := keepT_ok hq
          obtain ⟨r1, r2, _⟩ := refix H k3 k4 hkp
          exact ⟨v2, h, nx, _, hk, frz_ok H k3 k4 hkp (fzB_ok 20 hz) k2, r1, r2⟩)
  | some x =>
   obtain ⟨v, h2⟩ := x
   rw [hj] at hk
   obtain ⟨fn, h1, h2, h3, h4⟩ := hJ H hv hj
   refine ⟨fn, h1, h2, h3, fun n => (h4 n).mono fun e w' he => ?_⟩
   obtain ⟨u, E', rfl, q1, q2, q3⟩ := he
   exact ⟨v, _, nx, E', hk, q1, q2, q3⟩
theorem closed_pureF {S : Nat → Bool} {J : Nat → List AV → T Blk → Option (AV × T Blk)} {fns : T (Option Fn)} (hT : TabOk P fns) (hm : P.follows .mixedOrders = true) (hJ : ∀ B, JOk P B J) {fuel n f : Nat} {args : List AV} {r : AV} (ha : nns args = true) (hk : (uW S J fns fuel n).fn f (.of f) args .e .z endK = .ok r) :
  Pure P B f args (· = r) := closed_of (fun B => callsF_ok hT (dreg_all hm) (hJ B) fuel n) ha hk
end Go.Ev
namespace Go.Ev
open Go Classical
variable {P : Program}
noncomputable def memoJ (tab : Nat → List (List AV × AV)) (J : Nat → List AV → T Blk → Option (AV × T Blk)) (f : Nat) (args : List AV) (h : T Blk) : Option (AV × T Blk) := match (tab f).find? (fun e => gU e.1 args) with
 | some e => some (e.2, h)
 | none => J f args h
def MemoOk (P : Program) (f : Nat) (l : List (List AV × AV)) : Prop := ∀ e ∈ l, ∀ B, Pure P B f e.1 (· = e.2)
theorem memo_ok {tab : Nat → List (List AV × AV)} {J : Nat → List AV → T Blk → Option (AV × T Blk)} {B : Nat} (hm : ∀ f, MemoOk P f (tab f)) (hJ : JOk P B J) : JOk P B (memoJ tab J) := by
 intro E h nx w f args vs v h2 H hv hj
 unfold memoJ at hj
 split at hj
 case h_2 => exact hJ H hv hj
 rename_i e he
 cases hj
 have hq := List.find?_some he
 have hin := List.mem_of_find?_eq_some he
 have ea : e.1 = args := jL hq
 have hc := hm f e hin B .z h nx (fun v h2 nx2 => if v = e.2 ∧ h2 = h ∧ nx2 = nx then .ok True else .no 0) (fun v hv _ => if_pos ⟨hv, rfl, rfl⟩)
 rw [ea, CS_fn] at hc
 obtain ⟨fn, h1, h2, h3, h4⟩ := hc.1 _ w vs H hv
 refine ⟨fn, h1, h2, h3, fun n => (h4 n).mono fun e' w' he' => ?_⟩
 cases e' <;> first
  | exact he'.elim
  |(obtain ⟨av, h2, nx', E1, k1, k2, k3, k4⟩ := he'
    have k1' : (if av = e.2 ∧ h2 = h ∧ nx' = nx then (Out.ok True : Out Prop) else .no 0) = .ok True := k1
    split at k1'
    ·rename_i hh
     obtain ⟨rfl, rfl, rfl⟩ := hh
     exact ⟨_, E1, rfl, k2, k3, k4⟩
    ·cases k1')
end Go.Ev
namespace Go.Ev
open Go
variable {h0 h h' : T Blk} {nx : Pa} {L L' : List Ob} {K : KW3} {k i n c : Nat} {id : Pa} {l : List AV} {v : AV}
theorem getSplit {x : Ob} (hk : L[k]? = some x) : L = L.take k ++ x :: L.drop (k + 1) ∧ ∀ x', L.set k x' = L.take k ++ x' :: L.drop (k + 1) := by
 have hkl := (List.getElem?_eq_some_iff.1 hk).1
 refine ⟨?_, fun x' => by rw [List.set_eq_take_append_cons_drop, if_pos hkl]⟩
 rw [List.getElem?_eq_getElem hkl] at hk
 rw [← Option.some.inj hk]; simp
theorem Hp.front {x : Ob} (H : Hp h0 h nx L) (hk : L[k]? = some x) : Hp h0 h nx (x :: (L.take k ++ L.drop (k + 1))) := by
 obtain ⟨e1, _⟩ := getSplit hk
 refine H.perm ?_
 conv => lhs; rw [e1]
 exact List.perm_middle
theorem Hp.back {x x' : Ob} (hk : L[k]? = some x) (H : Hp h0 h nx (x' :: (L.take k ++ L.drop (k + 1)))) : Hp h0 h nx (L.set k x') := by
 obtain ⟨_, e2⟩ := getSplit hk
 rw [e2]
 exact H.perm List.perm_middle.symm
theorem keeps_kill : uB (T.set .no .no id h) h := fun j hj => by
 by_cases e : j = id
 ·subst e; exact (hj (T.get_set_same _ _ _ _)).elim
 ·exact (T.get_set_ne _ _ _ _ _ e).symm
theorem Hp.frzGro {o : Option Pa} {e : Nat} (H : Hp h0 h nx L) (hk : L[k]? = some (.gro o e n l)) (hf : ∀ v ∈ l, fixd v = true) : FrzN h0 h (rowV o e n) (.lst e n l) := by
 have own := H.own _ (List.mem_of_getElem? hk)
 have hoff := H.off
 cases o with
 | none => obtain ⟨rfl, rfl⟩ := own; exact .lnils e
 | some id =>
  obtain ⟨t, h1, h2, h3⟩ := own
  refine .sl _ _ _ _ _ true _ t _ (hoff id (List.mem_flatMap.2 ⟨_, List.mem_of_getElem? hk, by simp [Ob.names]⟩)) trivial h1 (by omega) h2 (List.all_eq_true.2 fun v hv => fixd.scal (hf v hv)) fun i v hi => ?_
  have := zP t 0 (n * e) i (by rw [← h2]; exact (List.getElem?_eq_some_iff.1 hi).1)
  rw [h3, hi] at this
  rw [← Option.some.inj this]
  exact qC (hf v (List.mem_of_getElem? hi))
theorem HasArr.rd {cap : Option Nat} {e : Nat} (H : HasArr h id l) (hl : l.length = n * e) (no : OP) (K' : List AV → Nat → OP) : uQ (.sl id 0 n cap e) h no K' = K' l n := by
 obtain ⟨op, t, h1, h2⟩ := H
 show asCells (T.get .no id h) (fun _ m t => bif Nat.ble (0 + n * e) m then K' (zN t 0 (n * e)) n else no) no = _
 rw [h1]
 show (bif Nat.ble (0 + n * e) l.length then K' (zN t 0 (n * e)) n else no) = _
 rw [Nat.ble_eq_true_of_le (by omega), cond_true, ← hl, h2]
def LI (v : AV) (l : List Int) : Prop := (v = .nils ∧ l = []) ∨ v = encI l
theorem LI.rd {l : List Int} (H : LI v l) (h : T Blk) (no : OP) (K' : List AV → Nat → OP) : uQ v h no K' = K' (l.map I) l.length := by
 rcases H with ⟨rfl, rfl⟩ | rfl <;> rfl
theorem Hp.offArr (H : Hp h0 h nx L) (hm : .arr id l ∈ L) : T.get .no id h0 = .no := H.off id (List.mem_flatMap.2 ⟨_, hm, by simp [Ob.names]⟩)
theorem Hp.copy {z : AV} {new : List AV} {w : AV} {bytes : Nat} (H : Hp h0 h nx L) (hr : ∀ h1, uB h0 h1 → ∀ (no : OP) (K' : List AV → Nat → OP), uQ w h1 no K' = K' new c) (hl : new.length = c) (hf : ∀ v ∈ new, fixd v = true) (hb : bytes * 1000000 ≤ 70368744177664) (hc : c ≤ 1000000)
  (hK : ∀ (v : AV) (X : Ob) (h' : T Blk) (nx' : Pa), Hp h0 h' nx' (X :: L) → v.cells = some [v] → scal v = true → (∀ h0' h'' nx'' L'', Hp h0' h'' nx'' L'' → X ∈ L'' → FrzN h0' h'' v (.lst 1 c new)) → K v h' nx' = .ok True) :
  (kX 1 0 [z] [] h nx fun v1 h1 n1 => sApp 1 bytes v1 w h1 n1 K) = .ok True := by
 refine H.bslice (l := []) rfl fun e h1 n1 H1 => ?_
 have hs : new.all scal = true := List.all_eq_true.2 fun v hv => fixd.scal (hf v hv)
 unfold sApp appA
 rw [hr _ H1.keep]
 have hcc : (Nat.ble (bytes * 1000000) 70368744177664 && Nat.beq new.length (c * 1) && Nat.ble 1 1 && new.all scal) = true := by
  simp only [Bool.and_eq_true, hs, and_true]
  exact ⟨⟨Nat.ble_eq_true_of_le hb, by rw [hl, Nat.mul_one]; exact Nat.beq_refl _⟩, rfl⟩
 rw [hcc, cond_true]
 obtain ⟨op, t, g1, g2⟩ : HasArr h1 e [] := H1.own _ (List.mem_cons_self ..)
 show (bif Nat.beq 1 1 && Nat.ble (0 + c) 1000000 then asCells (T.get .no e h1) _ (.no 35) else .no 36) = _
 rw [g1, Nat.ble_eq_true_of_le (by omega)]
 show (bif Nat.ble (0 + c) 0 then (bif Nat.ble (0 + (0 + c) * 1) 0 then u0 e 0 0 (some 0) 1 op 0 t new c h1 n1 _ else .no 32) else uI 0 0 1 t new c h1 n1 _) = _
 by_cases hc0 : c = 0
 ·subst hc0
  obtain rfl : new = [] := List.eq_nil_of_length_eq_zero hl
  rw [show Nat.ble (0 + 0) 0 = true from rfl, cond_true, cond_true]
  unfold u0
  rw [zT, T.setK_eq, zL]
  refine hK (.sl e 0 0 (some 0) 1) (.arr e []) _ _ (H1.upd (k := 0) (x' := .arr e []) rfl (by simp [Ob.names]) rfl ⟨op, _, T.get_set_same _ _ _ _, rfl⟩) rfl rfl fun h0' h'' nx'' L'' H'' hm => ?_
  exact HasArr.frz (H''.own _ hm) (H''.offArr hm) (Nat.le_refl _) rfl (by simp)
 ·rw [bleF (by omega), cond_false]
  unfold uI
  rw [zJ, zL]
  have H2 : Hp h0 (T.set .no (.cells true new.length (yD new .e 0)) n1 h1) n1.succ (.gro (some n1) 1 c new :: L) :=
   Hp.new (x := .gro (some n1) 1 c new) H1.drop rfl fun h' q => ⟨_, by rw [q, hl, Nat.mul_one], by rw [hl, Nat.mul_one], by have := kK new; rw [hl] at this; rw [Nat.mul_one]; exact this⟩
  rw [Nat.zero_add]
  refine hK (.sl n1 0 c none 1) _ _ _ H2 rfl rfl fun h0' h'' nx'' L'' H'' hm => ?_
  obtain ⟨q, hq⟩ := List.mem_iff_getElem?.1 hm
  exact H''.frzGro (o := some n1) hq hf
end Go.Ev
namespace Go.Ev
open Go
variable {h0 h h' : T Blk} {nx : Pa} {L L' : List Ob} {K : KW3} {k i n c : Nat} {id : Pa} {l : List AV} {v : AV} {P : Program} {B : Nat}
abbrev Key := List Nat
abbrev u8 (v : Nat) : AV := .int .u8 (v : Int)
structure KsOk (m : Nat) (ks G : List Key) : Prop where
 nd : ks.Nodup
 mem : ∀ y, y ∈ ks ↔ y ∈ G
 len : ∀ y ∈ G, y.length = m
theorem KsOk.nil (m : Nat) : KsOk m [] [] := ⟨by simp, by simp, by simp⟩
theorem KsOk.perm {m : Nat} {ks G G' : List Key} (H : KsOk m ks G) (hp : G.Perm G') : KsOk m ks G' := ⟨H.nd, fun y => (H.mem y).trans hp.mem_iff, fun y hy => H.len y (hp.mem_iff.2 hy)⟩
theorem leftA_mem {n i : Nat} {seen : List Nat} : i ∈ uN n seen ↔ i < n ∧ i ∉ seen := by
 simp [uN]
theorem Hp.range {es : List (AV × AV)} (H : Hp h0 h nx L) (hk : L[k]? = some (.map id es)) (hK : ∀ it h' nx', Hp h0 h' nx' (.iter it id es.length [] es.length :: L) → K (.ptr it 0) h' nx' = .ok True) : sRange (.map id) h nx K = .ok True := by
 have own : T.get .no id h = .map _ _ := H.own _ (List.mem_of_getElem? hk)
 show asMapB (T.get .no id h) _ _ = _
 rw [own]
 show T.setK Blk.no (.iter id es.length [] es.length) nx h (fun h' => K (.ptr nx 0) h' nx.succ) = _
 rw [T.setK_eq]
 exact hK _ _ _ (H.new rfl fun h' e => e)
theorem Hp.next {es : List (AV × AV)} {it : Pa} {j : Nat} {seen : List Nat} (H : Hp h0 h nx L) (hk : L[k]? = some (.iter it id es.length seen c)) (hm : L[j]? = some (.map id es))
  (hK0 : (∀ i, i < es.length → i ∈ seen) → K (.tup [.bool false]) h nx = .ok True)
  (hK1 : ∀ (i : Nat) a b h', i < es.length → i ∉ seen → es[i]? = some (a, b) → Hp h0 h' nx (L.set k (.iter it id es.length (i :: seen) es.length)) → K (.tup [.bool true, a, b]) h' nx = .ok True) : sNext (CS P B) (.ptr it 0) h nx K = .ok True := by
 have own : T.get .no it h = .iter _ _ _ _ := H.own _ (List.mem_of_getElem? hk)
 have own2 : T.get .no id h = .map _ _ := H.own _ (List.mem_of_getElem? hm)
 show asIter (T.get .no it h) _ _ = _
 rw [own]
 show asMapB (T.get .no id h) _ _ = _
 rw [own2]
 show (bif Nat.beq es.length es.length then (match uN es.length seen with
  | [] => K (.tup [.bool false]) h nx
  | i :: is => (CS P B).pk (i :: is) fun i => match es[i]? with
   | some (a, b) => T.setK Blk.no (.iter id es.length (i :: seen) es.length) it h fun h' => K (.tup [.bool true, a, b]) h' nx
   | none => .no 56) else .no 56) = _
 rw [Nat.beq_refl, cond_true]
 cases hl : uN es.length seen with
 | nil =>
  refine hK0 fun i hi => Classical.byContradiction fun hn => ?_
  have := leftA_mem.2 ⟨hi, hn⟩
  rw [hl] at this; cases this
 | cons i is =>
  refine CS_pk.2 ⟨fun q hq => ?_, rfl⟩
  rw [← hl] at hq
  obtain ⟨h1, h2⟩ := leftA_mem.1 hq
  have e : es[q]? = some (es[q].1, es[q].2) := List.getElem?_eq_getElem h1
  rw [e]
  simp only [T.setK_eq]
  exact hK1 q _ _ _ h1 h2 e (H.upd hk (by simp [Ob.names]) rfl (T.get_set_same _ _ _ _))
theorem Hp.entry {es : List (AV × AV)} {it : Pa} {j i : Nat} {seen : List Nat} {a b : AV} {op : AV → OP} (H : Hp h0 h nx L) (hk : L[k]? = some (.iter it id es.length (i :: seen) es.length)) (hm : L[j]? = some (.map id es)) (he : es[i]? = some (a, b)) : sEntry (.ptr it 0) h op = op (.tup [a, b]) := by
 have own : T.get .no it h = .iter _ _ _ _ := H.own _ (List.mem_of_getElem? hk)
 have own2 : T.get .no id h = .map _ _ := H.own _ (List.mem_of_getElem? hm)
 show asIter (T.get .no it h) _ _ = _
 rw [own]
 show asMapB (T.get .no id h) _ _ = _
 rw [own2]
 show (bif Nat.beq es.length es.length then (match es[i]? with | some (a, b) => op (.tup [a, b]) | none => .no 54) else .no 54) = _
 rw [Nat.beq_refl, cond_true, he]
theorem Hp.mkmap (H : Hp h0 h nx L) (hK : ∀ id h' nx', Hp h0 h' nx' (.map id [] :: L) → K (.map id) h' nx' = .ok True) : sMkmap h nx K = .ok True := by
 unfold sMkmap
 rw [T.setK_eq]
 exact hK _ _ _ (H.new rfl fun h' e => e)
theorem Hp.loadN {op : AV → OP} (H : Hp h0 h nx L) (hk : L[k]? = some (.arr id l)) (hl : l.length = n) : zG n (.ptr id 0) h op = op (.agg l) := by
 obtain ⟨o, t, h1, h2⟩ := H.own _ (List.mem_of_getElem? hk)
 show asCells (T.get .no id h) _ _ = _
 rw [h1]
 show (bif Nat.ble (0 + n) l.length then op (.agg (zN t 0 n)) else .no 8) = _
 rw [Nat.ble_eq_true_of_le (by omega), cond_true, ← hl, h2]
theorem Hp.storeN {l2 : List AV} (H : Hp h0 h nx L) (hk : L[k]? = some (.arr id l)) (hl : l.length = n) (hl2 : l2.length = n) (hK : ∀ h', Hp h0 h' nx (L.set k (.arr id l2)) → K .undef h' nx = .ok True) : yX n (.ptr id 0) (.agg l2) h nx K = .ok True := by
 obtain ⟨o, t, h1, h2⟩ := H.own _ (List.mem_of_getElem? hk)
 show asCells (T.get .no id h) _ _ = _
 rw [h1]
 show (bif Nat.beq l2.length n && Nat.ble (0 + n) l.length then yN l2 t 0 (fun t' => T.setK Blk.no (.cells o l.length t') id h fun h' => K .undef h' nx) else .no 42) = _
 rw [beqT hl2, Nat.ble_eq_true_of_le (by omega)]
 simp only [Bool.and_true, cond_true]
 rw [zT, T.setK_eq]
 refine hK _ (H.upd hk (by simp [Ob.names]) rfl ⟨o, _, by rw [T.get_set_same, hl, hl2], ?_⟩)
 apply List.ext_getElem?
 intro i
 by_cases hi : i < l2.length
 ·rw [zP _ _ _ _ hi, Nat.zero_add, jC, if_pos (by omega)]
  simp [List.getD_eq_getElem?_getD, hi]
 ·rw [List.getElem?_eq_none (by simp; omega), List.getElem?_eq_none (by omega)]
theorem sFx {o p : Nat} {op : AV → OP} : sFaddr p (.ptr id o) op = op (.ptr id (o + p)) := by
 show natK (o + p) (fun o => op (.ptr id o)) = _
 rw [zL]
end Go.Ev
namespace Go.Ev
open Go
abbrev KTm := Tm → T Blk → Pa → OP
section
variable {C : Calls Prop} {N : Nat} {O : Outs Prop} {K : Ks Prop}
theorem zD (a b : IR) (tm : T AV) (h : T Blk) (nx : Pa) : IR.run (.seq a b) C N O K tm h nx = IR.run a C N O (IR.run b C N O K) tm h nx := rfl
theorem srun_reg (l : List RO) (tm : T AV) (h : T Blk) (nx : Pa) : IR.run (.reg l) C N O K tm h nx = yC l C ⟨tm, []⟩ h nx (fun tm h nx => K tm.v h nx) := rfl
theorem jD (c : Arg) (a b : IR) (tm : T AV) (h : T Blk) (nx : Pa) : IR.run (.cond c a b) C N O K tm h nx = sCond (c.ev ⟨tm, []⟩) (IR.run a C N O K tm h nx) (IR.run b C N O K tm h nx) := rfl
theorem jR (tm : T AV) (h : T Blk) (nx : Pa) : IR.run .skip C N O K tm h nx = K tm h nx := rfl
theorem gN (tm : T AV) (h : T Blk) (nx : Pa) : IR.run .ret C N O K tm h nx = O.rt tm h nx := rfl
end
end Go.Ev
namespace Go.Ev
open Go Go.Proofs
end Go.Ev
namespace Go.Ev
open Go
variable {h0 h : T Blk} {nx : Pa} {L : List Ob}
end Go.Ev
namespace Go.Ev
open Go
variable {h0 h : T Blk} {nx : Pa} {L : List Ob}
end Go.Ev
namespace Go.Ev
open Go
end Go.Ev
