import Derived.Test.YtkjkjpmahgeneaaGreatDoorWordsa
import Derived.Test.YtkjkjpmahgeneaaGreatDoorEvD
import Derived.Test.YtkjkjpmahgeneaaGreatDoorCodea
import Derived.Test.YtkjkjpmahgeneaaGreatDoorLaws
import Derived.Shelf.SlSortCmp.Whole1
import Derived.Deep.Slices
import Derived.Sort.Grow
import Derived.Sort.Row
set_option linter.unusedSimpArgs false
set_option linter.unusedVariables false
namespace Go.Ev
open Go Go.Proofs
variable {B : Nat}
set_option maxRecDepth 100000
theorem clone106o {h0 h : T Blk} {nx p : Pa} {L : List Ob} {f : List Int} {K : Kw Prop} (hf : 0 < f.length) (hl : f.length <= 1000) (H : Hp h0 h nx L)
  (hK : ∀ id cap h' nx', dX f.length cap -> Hp h0 h' nx' (.arr id (f.map I) :: L) -> K (.sl id 0 f.length cap 1) h' nx' = .ok True) : (CS Tryz.prog B).fn 106 p [encI f] h nx K = .ok True := by
 refine uY (p := .of 106) (K := K) (zS zX yg 9 fun hf => ?_) fun _ _ _ _ q => q;cases f with
 | nil => simp at hf
 | cons x t =>
  rw [F106.go];have e : ∀ A C : OP, (yc .eql (.nil .sl) (encI (x :: t)) .zf fun v1 => yA v1 A C) = C := fun A C => nr rfl;rw [e];exact H.copyArrO (new := (x :: t).map I) (c := (x :: t).length) (fun e h1 n1 H1 => rdLst 1) (by simp) (List.all_eq_true.2 fun v hv => by obtain ⟨z, _, rfl⟩ := List.mem_map.1 hv; rfl) (by decide) (by omega) hK
def RowOwn (L : List Ob) (p : AV × Sym) : Prop := ∃ rid cap, p.1 = .sl rid 0 p.2.1.length cap 1 /\ dX p.2.1.length cap /\ Ob.arr rid (p.2.1.map I) ∈ L
theorem RowOwn.mono {L L' : List Ob} {p : AV × Sym} (h : RowOwn L p) (hl : ∀ x ∈ L, x ∈ L') : RowOwn L' p := by
 obtain ⟨r, c, e, hc, m⟩ := h;exact ⟨r, c, e, hc, hl _ m⟩
theorem frzArrN {h0 h : T Blk} {nx : Pa} {L : List Ob} {id : Pa} {l : List Int} {cap : Option Nat} (H : Hp h0 h nx L) (hm : Ob.arr id (l.map I) ∈ L) (hc : dX l.length cap) : Frz False (fun _ => True) (fun _ => False) h (.sl id 0 l.length cap 1) (encI l) := by
 obtain ⟨op, t, h1, h2⟩ := H.own _ hm;rw [Zar] at h1 h2;refine .sl _ _ _ _ _ op _ t _ trivial hc h1 (by omega) (by simp) (List.all_eq_true.2 fun v hv => by obtain ⟨z, _, rfl⟩ := List.mem_map.1 hv; rfl) fun i v hi => ?_;have hil : i < l.length := by have := (List.getElem?_eq_some_iff.1 hi).1; simpa using this
 have := zV t 0 l.length i hil;rw [h2, hi] at this;rw [<- Option.some.inj this];obtain ⟨z, _, rfl⟩ := List.mem_map.1 (Zaa hi);exact .int _ _
theorem frzOwn {h0 h : T Blk} {nx : Pa} {L : List Ob} {k n : Nat} {o : Option Pa} {out : List (AV × Sym)} (H : Hp h0 h nx L) (hk : L[k]? = some (.gro o 2 n (yS out))) (hr : ∀ p ∈ out, RowOwn L p) : Frz False (fun _ => True) (fun _ => False) h (jm o 2 n) (yw (out.map (·.2))) := by
 have own := H.own _ (Zaa hk);have hlen := kS out;cases o with
 | none =>
  obtain ⟨e, rfl⟩ := own;rw [e] at hlen;obtain rfl : out = [] := Zaz (by simp at hlen; omega);exact .lnils 2
 | some id =>
  obtain ⟨t, h1, h2, h3⟩ := own;have hn : n = (out.map (·.2)).length := by rw [Zar]; omega
  subst hn;refine .sl _ _ _ _ _ true _ t _ trivial trivial h1 (by omega) (uJ _) (List.all_eq_true.2 fun v hv => bJ.yx (fixd_flatG v hv)) fun i v hi => ?_;have hil : i < (out.map (·.2)).length * 2 := by have := (List.getElem?_eq_some_iff.1 hi).1; rwa [uJ] at this
  have := zV t 0 ((out.map (·.2)).length * 2) i hil;rw [h3, wD] at this;rw [pX, List.getElem?_map] at hi;cases hq : out[i / 2]? with
  | none => rw [hq] at hi; cases hi
  | some p =>
   rw [hq] at hi this;obtain ⟨rid, cap, e, hc, hm⟩ := hr p (Zaa hq);have hi := Option.some.inj hi;have this := Option.some.inj this;by_cases c : i % 2 = 0
   ·simp only [if_pos c] at hi this;rw [<- this, <- hi, e];exact frzArrN H hm hc
   ·simp only [if_neg c] at hi this;rw [<- this, <- hi];exact .bool _
theorem frz_tup2N {N : Pa -> Prop} {O : AV -> Prop} {A : Prop} {hh : T Blk} {a b a' b' : AV} (h1 : Frz A N O hh a a') (h2 : Frz A N O hh b b') : Frz A N O hh (.tup [a, b]) (.tup [a', b']) := by
 refine .tup _ _ rfl fun i v v' hi hi' => ?_
 match i with
 | 0 => simp at hi hi'; subst hi; subst hi'; exact h1
 | 1 => simp at hi hi'; subst hi; subst hi'; exact h2
 | i + 2 => simp at hi
theorem cosets39N {G S : List Sym} {n : Int} (hG : G.length <= 100000) (hw : ∀ g ∈ G, g.1.length <= 100000) (hS : S.length <= 100000) (hw2 : ∀ g ∈ S, g.1.length <= 100000) (hse0 : subE G S n = 0) (hn0 : 0 < n) : PureN Tryz.prog 39 [yw G, yw S, I n] (.tup [yw (cosL G S), I 0]) := by
 intro B K hK0;have hK : ∀ v h' nx' L v', Hp .e h' nx' L -> Frz False (fun _ => True) (fun _ => False) h' v v' -> v' = .tup [yw (cosL G S), I 0] -> K v h' nx' = .ok True := fun v h' nx' L v' _ hF e => hK0 _ _ _ (e ▸ hF);refine zS zX yg 10000000 fun hf' => ?_;have H0 : Hp .e .e .z [] := Hp.init hf';rw [F39.go, F39.t37, zA, F39.t0_s];refine H0.box (l := [yw S]) rfl fun b3 h1 nx1 H1 => ?_;rw [F39.t36, zA, F39.t7, zA, F39.t1_s, H1.load (k := 0) (i := 0) rfl rfl];refine p8 hG hw hS hw2 H1 (fun e h2 nx2 X he hne H2 => ?_) fun n' u1 q1 u2 q2 g o1 o2 h2 nx2 X hn ok1 ok2 hse _ _ _ _ _ _ _ _ hsub H2 => ?_
 ·rw [jC, jI, jW];refine H2.alloc fun b6 h3 nx3 H3 => ?_;refine H3.gy (k := 0) (n := 2) rfl rfl rfl fun h4 H4 => ?_;rw [hse0] at he; exact absurd he hne
 subst hn;have hn256 := ok1.n256;have H2 : Hp .e h2 nx2 [.arr b3 [yw S]] := Hp.pre (_ :: _ :: _ :: X) H2;rw [jC, jI, jW];refine H2.alloc fun b6 h3 nx3 H3 => ?_;refine H3.gy (k := 0) (n := 2) rfl rfl rfl fun h4 H4 => ?_;rw [F39.t6, zA, F39.t2_s, qm, decide_eq_true rfl, Zai, F39.t5, zI, F39.v12, zE, zQ, F39.t35, zA, F39.t8_s];refine H4.mkmap fun gm h5 nx5 H5 => ?_;refine H5.alloc fun b7 h6 nx6 H6 => ?_;refine H6.store (k := 0) rfl (by simp) rfl fun h7 H7 => ?_;rw [F39.t34, zA, F39.t9_s];refine H7.alloc fun b8 h8 nx8 H8 => ?_;rw [F39.t33, zA, F39.t30, zA, F39.t10_s];refine all185 _ _ _ _ ?_;rintro _ rfl _;rw [F39.t29, zZ, F39.t28];have H9 := H8.addGro 2;have T : ∃ T : List Ob, T = [.arr b6 [jm o1 2 u1.length, jm o2 2 u2.length], .arr b3 [yw S]] := ⟨_, rfl⟩;obtain ⟨T, hT⟩ := T;have hout : ∀ i, ((G.take i).filter (jK S)).length <= G.length := fun i => by
  have := List.length_filter_le (jK S) (G.take i);rw [Zbc] at this; omega
 refine rfAll H9 F39.t28_f (fun v w k => F39.t28_b k) (by omega)
  (fun i L' => ∃ (o : Option Pa) (out : List (AV × Sym)) (rows : List Ob), out.map (·.2) = (G.take i).filter (jK S) /\ (∀ p ∈ out, RowOwn rows p) /\ L' = .gro o 2 out.length (yS out) :: .arr b8 [jm o 2 out.length] :: .arr b7 [.map gm] :: .map gm (uw (cosU ((G.take i).filter (jK S)) S)) :: (T ++ rows))
  (fun _ => False) (fun _ _ => False) ⟨none, [], [], by simp, by simp, by subst hT; rfl⟩
  (fun i x Rb Rb' h10 nx10 L' M E O1 O2 hx hJ H10 hM hE hR hX => ?_) (fun h10 nx10 L' hJ H10 => ?_) (fun _ _ _ hX _ => hX.elim) (fun _ _ _ _ hX _ => hX.elim)
 case refine_2 =>
  obtain ⟨o, out, rows, ho, hr, rfl⟩ := hJ;rw [Zaq (Zaf _)] at H10 ho;rw [F39.t32, zA, F39.t31_s, H10.load (k := 1) (i := 0) rfl rfl];simp only [yJ, jA];rw [F39.ret];refine hK _ _ _ _ (.tup [yw (cosL G S), I 0]) H10 (frz_tup2N ?_ (.int _ _)) rfl;have := frzOwn (k := 0) H10 rfl fun p hp => (hr p hp).mono fun x hx => by simp [hx]
  rw [ho] at this;exact this
 obtain ⟨o, out, rows, ho, hr, rfl⟩ := hJ;have hol : out.length = ((G.take i).filter (jK S)).length := by rw [<- ho, Zar]
 have hxm := Zaa hx;have hdx := ok1.dp x hxm;have htake : G.take (i + 1) = G.take i ++ [x] := by rw [Zas, hx]; rfl
 have hCm : ∀ m ∈ (G.take i).filter (jK S), m ∈ G := fun m hm => List.mem_of_mem_take (List.mem_filter.1 hm).1;have hks : ∀ b ∈ cosU ((G.take i).filter (jK S)) S, DS n' b := fun b hb => by
  obtain ⟨m, hm, c, hc, rfl⟩ := mem_cosU.1 hb;exact (ok1.dp _ (ok1.cl m (hCm m hm) c (hsub c hc))).1
 rw [F39.t11_s];refine H10.alloc fun b9 h11 nx11 H11 => ?_;refine H11.gy (k := 0) (n := 2) rfl rfl rfl fun h12 H12 => ?_;refine hM _ _ _ [_] H12 fun h13 H13 => ?_;rw [F39.t27, zZ, F39.t26, zA, F39.t14, zA, F39.t12_s, H13.load (k := 4) (i := 0) rfl rfl, H13.zi (k := 0) (n := 2) rfl rfl];refine has204 (a := x) hn256 hdx.1 hks H13 (k := 5) rfl ?_;rw [F39.t13, zI, F39.v16];have hseen := coset_seen ok1 ok2 hsub hx;by_cases c : x ∈ cosU ((G.take i).filter (jK S)) S
 ·rw [decide_eq_true c, zD, jH, gN];have hfl : (G.take (i + 1)).filter (jK S) = (G.take i).filter (jK S) := by
   rw [htake, List.filter_append, List.filter_cons_of_neg (by rw [hseen.1 c]; decide)]; simp
  exact hE _ _ _ [_] _ ⟨o, out, rows, by rw [hfl]; exact ho, hr, by rw [hfl]⟩ H13
 have hlx : jK S x = true := by
  cases q : jK S x with
  | true => rfl
  | false => exact absurd (hseen.2 q) c
 have hfl : (G.take (i + 1)).filter (jK S) = (G.take i).filter (jK S) ++ [x] := by
  rw [htake, List.filter_append, List.filter_cons_of_pos hlx]; rfl
 rw [decide_eq_false c, zE, zQ, F39.t25, zA, F39.t23, zA, F39.t15_s];subst hT;rw [H13.load (k := 7) (i := 0) rfl rfl];refine all185 _ _ _ _ ?_;rintro _ rfl _;rw [F39.t22, zZ, F39.t21]
 refine rfAll H13 F39.t21_f (fun v w k => F39.t21_b k) (by omega)
  (fun k L' => L' = .arr b9 [encI x.1, .bool x.2] :: Rb' :: .gro o 2 out.length (yS out) :: .arr b8 [jm o 2 out.length] :: .arr b7 [.map gm] :: .map gm (uw (cosU ((G.take i).filter (jK S)) S ++ (S.take k).map (zJ x))) :: ([.arr b6 [jm o1 2 u1.length, jm o2 2 u2.length], .arr b3 [yw S]] ++ rows))
  (fun _ => False) (fun _ _ => False) (by simp)
  (fun k y Sb Sb' h14 nx14 L' M' E' O1' O2' hy hJ H14 hM' hE' hR' hX' => ?_) (fun h14 nx14 L' hJ H14 => ?_) (fun _ _ _ hX _ => hX.elim) (fun _ _ _ _ hX _ => hX.elim)
 ·subst hJ;have hym := Zaa hy;have hdy := ok2.dp y hym;have htk : S.take (k + 1) = S.take k ++ [y] := by rw [Zas, hy]; rfl
  have hxy : DS n' (zJ x y) := (ok1.dp _ (ok1.cl x hxm y (hsub y hym))).1;rw [F39.t16_s];refine H14.alloc fun b10 h15 nx15 H15 => ?_;refine H15.gy (k := 0) (n := 2) rfl rfl rfl fun h16 H16 => ?_;refine hM' _ _ _ [_] H16 fun h17 H17 => ?_;rw [F39.t20, zZ, F39.t19, zA, F39.t17_s, H17.zi (k := 2) (n := 2) rfl rfl, H17.zi (k := 0) (n := 2) rfl rfl];refine d8 (a := x) (b := y) (fun z hz => by rw [hdx.1.1]; exact hdy.1.2 z hz) (by rw [hdy.1.1]; omega) _ _ _ _ ?_;rintro _ rfl _;refine H17.alloc fun b11 h18 nx18 H18 => ?_;refine H18.gy (k := 0) (n := 2) rfl rfl rfl fun h19 H19 => ?_;rw [F39.t18_s, H19.load (k := 7) (i := 0) rfl rfl, H19.zi (k := 0) (n := 2) rfl rfl, H19.zi (k := 0) (n := 2) rfl rfl];refine key203 (a := zJ x y) (fun z hz => by have := hxy.2 z hz; omega) (by rw [hxy.1]; omega) _ _ _ _ ?_;rintro _ rfl _;rw [H19.zi (k := 0) (n := 2) rfl rfl, zB, H19.load (k := 7) (i := 0) rfl rfl, zB];refine H19.putS (a := zJ x y) hn256 hxy (fun b hb => ?_) (fun hin => ?_) (k := 8) rfl fun h20 H20 => ?_
  ·rcases List.mem_append.1 hb with q | q
   ·exact hks b q
   ·obtain ⟨z, hz, rfl⟩ := List.mem_map.1 q;exact (ok1.dp _ (ok1.cl x hxm z (hsub z (List.mem_of_mem_take hz)))).1
  ·rcases List.mem_append.1 hin with q | q
   ·exact coset_new ok1 ok2 hCm hxm hym c q
   ·obtain ⟨z, hz, e⟩ := List.mem_map.1 q;have := coset_inj ok2 hdx (List.mem_of_mem_take hz) hym e;subst this;obtain ⟨j, hj⟩ := List.getElem?_of_mem hz;have hjl := (List.getElem?_eq_some_iff.1 hj).1;rw [Zbc] at hjl;rw [List.getElem?_take_of_lt (by omega)] at hj;have := ord_lt ok2 hj hy (by omega);rw [qJ] at this; cases this
  ·refine hE' _ _ _ [_, _] _ ?_ H20;rw [htk, Zbd, <- Zcc]
   rfl
 ·subst hJ;rw [Zaq (Zaf _)] at H14;rw [F39.t24_s, H14.load (k := 3) (i := 0) rfl rfl, sFx, H14.load (k := 0) (i := 0 + 0) rfl rfl, sFx, H14.load (k := 0) (i := 0 + 1) rfl rfl];refine clone106o (f := x.1) (by rw [hdx.1.1]; omega) (by rw [hdx.1.1]; omega) H14 fun rid cap h15 nx15 hcap H15 => ?_;rw [H15.load (k := 1) (i := 0 + 1) rfl rfl, zB, sFx, zB, H15.load (k := 4) (i := 0) rfl rfl, zB, dD rfl rfl];refine H15.zy (l := [.sl rid 0 x.1.length cap 1, .bool x.2]) rfl fun tb h16 nx16 H16 => ?_;rw [H16.load (k := 5) (i := 0) rfl rfl, zB, sAppq_row];refine H16.appN (k := 4) (o := o) (c := 1) (esz := 2) (new := [.sl rid 0 x.1.length cap 1, .bool x.2]) rfl (yu.rd (l := [.sl rid 0 x.1.length cap 1, .bool x.2]) (n := 1) (e := 2) (H16.own _ (Zag ..)) rfl) rfl rfl (by decide) (by decide) (by have := hout i; omega) fun o'' h17 nx17 _ H17 => ?_;refine H17.store (k := 5) rfl (by simp) (uB _ _ _) fun h18 H18 => ?_;have hp : Hp .e h18 nx17 ([.arr tb [.sl rid 0 x.1.length cap 1, .bool x.2], .arr b9 [encI x.1, .bool x.2]] ++ Rb' :: (.gro o'' 2 (out.length + 1) (yS out ++ [.sl rid 0 x.1.length cap 1, .bool x.2]) :: .arr b8 [jm o'' 2 (out.length + 1)] :: .arr b7 [.map gm] :: .map gm (uw (cosU ((G.take i).filter (jK S)) S ++ S.map (zJ x))) :: ([.arr b6 [jm o1 2 u1.length, jm o2 2 u2.length], .arr b3 [yw S]] ++ (.arr rid (x.1.map I) :: rows)))) := by
   refine H18.perm ?_;show List.Perm (_ :: _ :: _ :: _ :: _ :: _ :: _ :: _ :: _ :: _ :: rows) (_ :: _ :: _ :: _ :: _ :: _ :: _ :: _ :: _ :: _ :: rows);exact .cons _ (Zbj (l₁ := [_, _, _, _, _, _, _, _]) (a := Ob.arr rid (x.1.map I)) (l₂ := rows)).symm
  refine hE _ _ _ [_, _] _ ⟨o'', out ++ [(.sl rid 0 x.1.length cap 1, x)], .arr rid (x.1.map I) :: rows, ?_, ?_, ?_⟩ hp
  ·rw [Zbd, ho, hfl]; rfl
  ·intro p hp;rcases List.mem_append.1 hp with q | q
   ·exact (hr p q).mono fun z hz => Zal _ hz
   ·obtain rfl := List.mem_singleton.1 q;exact ⟨rid, cap, rfl, hcap, Zag ..⟩
  ·rw [hfl];have e1 : cosU ((G.take i).filter (jK S) ++ [x]) S = cosU ((G.take i).filter (jK S)) S ++ S.map (zJ x) := by simp [cosU]
   have e2 : yS (out ++ [(.sl rid 0 x.1.length cap 1, x)]) = yS out ++ [.sl rid 0 x.1.length cap 1, .bool x.2] := by unfold yS; rw [List.flatMap_append]; rfl
   rw [e1, e2, Zaw]
   subst_vars
   rfl
end Go.Ev
namespace Go.Ev
theorem sub_permG {α : Type} [DecidableEq α] : ∀ (l r : List α), l.Nodup -> (∀ x ∈ l, x ∈ r) -> ∃ s, r.Perm (l ++ s)
 | [], r, _, _ => ⟨r, .refl _⟩
 | a :: l, r, hn, hs => by
  obtain ⟨h1, h2⟩ := List.nodup_cons.1 hn;have ha := hs a (by simp);obtain ⟨s, hp⟩ := sub_permG l (r.erase a) h2 fun x hx => (List.mem_erase_of_ne (by rintro rfl; exact h1 hx)).2 (hs x (by simp [hx]));exact ⟨s, (List.perm_cons_erase ha).trans (.cons a hp)⟩
theorem perm_of_sub {α : Type} [DecidableEq α] {l r : List α} (h1 : l.Nodup) (h2 : ∀ x ∈ l, x ∈ r) (h3 : r.length <= l.length) : r.Perm l := by
 obtain ⟨s, hs⟩ := sub_permG l r h1 h2;have hl := hs.length_eq;obtain rfl : s = [] := Zaz (by rw [Zaw] at hl; omega);simpa using hs
theorem nodup_get {α : Type} {l : List α} (h : l.Nodup) {i j : Nat} {x : α} (hi : l[i]? = some x) (hj : l[j]? = some x) : i = j := by
 obtain ⟨a1, a2⟩ := List.getElem?_eq_some_iff.1 hi;obtain ⟨b1, b2⟩ := List.getElem?_eq_some_iff.1 hj;have hp := List.pairwise_iff_getElem.1 h;rcases Nat.lt_trichotomy i j with c | c | c
 ·exact absurd (a2.trans b2.symm) (hp i j a1 b1 c)
 ·exact c
 ·exact absurd (b2.trans a2.symm) (hp j i b1 a1 c)
theorem getD_some {l : List Int} {i : Nat} (h : i < l.length) : l[i]? = some (l.getD i 0) := by
 rw [Zac, List.getElem?_eq_getElem h]; rfl
theorem bH.surj {g : List Int} (h : bH g) {j : Nat} (hj : j < g.length) : ∃ i, i < g.length /\ g[i]? = some (j : Int) := by
 have hp : ((List.range g.length).map fun (i : Nat) => (i : Int)).Perm g := perm_of_sub h.1 (fun x hx => by
  have := h.2 x hx;exact List.mem_map.2 ⟨x.toNat, List.mem_range.2 (by omega), by omega⟩) (by simp)
 have hm : (j : Int) ∈ g := hp.mem_iff.1 (List.mem_map.2 ⟨j, List.mem_range.2 hj, rfl⟩);obtain ⟨i, hi⟩ := List.mem_iff_getElem?.1 hm;exact ⟨i, (List.getElem?_eq_some_iff.1 hi).1, hi⟩
theorem applyP_get {n : Nat} {c : Bool} {g f : List Int} (hg : bH g) (hgn : g.length = n) : ∀ (i k : Nat), i <= n -> k < i -> (kG n c g f i)[(g.getD k 0).toNat]? = some (xOf n c (f.getD k 0))
 | 0, k, _, h => by omega
 | i + 1, k, hi, h => by
  rw [xK];have hk := hg.2 _ (Zaa (getD_some (l := g) (i := k) (by omega)));have hi' := hg.2 _ (Zaa (getD_some (l := g) (i := i) (by omega)));by_cases e : k = i
  ·subst e;rw [List.getElem?_set, if_pos rfl, if_pos (by rw [gZ]; omega)]
  ·rw [List.getElem?_set_ne, applyP_get hg hgn i k (by omega) (by omega)];intro q;have e1 : g.getD i 0 = g.getD k 0 := by omega
   have := nodup_get hg.1 (getD_some (l := g) (i := i) (by omega)) (e1 ▸ getD_some (l := g) (i := k) (by omega));omega
theorem applyS_get {c : Bool} {g f : List Int} (hg : bH g) (hgn : g.length = f.length) {k : Nat} (h : k < f.length) : (applyS c g f)[(g.getD k 0).toNat]? = some (xOf f.length c (f.getD k 0)) := applyP_get hg hgn _ k (Zaf _) h
theorem apply_len (c : Bool) (g f : List Int) : (applyS c g f).length = f.length := gZ _ _ _ _ _
theorem DP.surj {n : Nat} {a : Sym} (ha : DP n a) {j : Nat} (hj : j < n) : ∃ i, i < n /\ a.1.getD i 0 = (j : Int) := by
 have h1 := ha.1.1;obtain ⟨i, hi, e⟩ := ha.perm.surj (show j < a.1.length by omega);exact ⟨i, by omega, by rw [Zac, e]; rfl⟩
theorem qw.linv {G : List Sym} {n : Nat} (h : qw G n) {a : Sym} (ha : a ∈ G) : ∃ b ∈ G, zJ b a = idS n := by
 have L := jO n;obtain ⟨b, hb, e1⟩ := h.inv a ha;obtain ⟨c, hc, e2⟩ := h.inv b hb;have da := h.dp a ha;have db := h.dp b hb;have dc := h.dp c hc;have : a = c := by
  have := L.assoc a b c da db dc;rw [e1, e2, L.el c dc, L.er a da] at this;exact this.symm
 exact ⟨b, hb, by rw [this]; exact e2⟩
def idL (n : Nat) : List Int := (List.range n).map fun j : Nat => (j : Int)
theorem mK (n : Nat) : (idL n).length = n := by simp [idL]
theorem idL_get {n i : Nat} (h : i < n) : (idL n).getD i 0 = (i : Int) := by
 rw [idL, Zac, List.getElem?_map, List.getElem?_range h]; rfl
def invS (a : Sym) : Sym := (applyS false a.1 (idL a.1.length), a.2)
theorem inv_get {n : Nat} {a : Sym} (ha : DP n a) {k : Nat} (hk : k < n) : (invS a).1[(a.1.getD k 0).toNat]? = some (k : Int) := by
 have h1 := ha.1.1;have := applyS_get (c := false) ha.perm (f := idL a.1.length) (by rw [mK]) (k := k) (by rw [mK]; omega);rw [idL_get (by omega)] at this;exact this
theorem xA {n : Nat} {a : Sym} (ha : DP n a) : DP n (invS a) := by
 have h1 := ha.1.1;have hl : (invS a).1.length = n := by show (applyS _ _ _).length = n; rw [apply_len, mK, h1]
 have hv : ∀ j, j < n -> ∃ i, i < n /\ a.1.getD i 0 = (j : Int) /\ (invS a).1[j]? = some (i : Int) := fun j hj => by
  obtain ⟨i, hi, e⟩ := ha.surj hj;have := inv_get ha hi;rw [e, Int.toNat_natCast] at this;exact ⟨i, hi, e, this⟩
 refine ⟨⟨hl, fun x hx => ?_⟩, ?_⟩
 ·obtain ⟨j, hj⟩ := List.getElem?_of_mem hx;obtain ⟨i, hi, _, e⟩ := hv j (by rw [<- hl]; exact (List.getElem?_eq_some_iff.1 hj).1);rw [hj] at e; cases e; omega
 ·rw [List.Nodup, Zbm];intro i j hi hj hij e;obtain ⟨a1, _, b1, c1⟩ := hv i (by omega);obtain ⟨a2, _, b2, c2⟩ := hv j (by omega);rw [List.getElem?_eq_getElem hi] at c1;rw [List.getElem?_eq_getElem hj] at c2;have e1 := Option.some.inj c1;have e2 := Option.some.inj c2;have : a1 = a2 := by omega
  subst this;rw [b1] at b2;omega
theorem inv_l {n : Nat} {a : Sym} (ha : DP n a) : zJ (invS a) a = idS n := by
 refine Prod.ext (xX (n := n) (by show (uO _ _).length = n; rw [gM, ha.1.1]) (by simp [idS]) fun i hi => ?_) (by show (a.2 != a.2) = false; cases a.2 <;> rfl);rw [gL ha.1 hi, Zac (l := (invS a).1), inv_get ha hi];show some (i : Int) = ((List.range n).map fun j : Nat => (j : Int))[i]?;rw [List.getElem?_map, List.getElem?_range hi]; rfl
theorem inv_r {n : Nat} {a : Sym} (ha : DP n a) : zJ a (invS a) = idS n := by
 have L := jO n;have hb := xA ha;have hc := xA hb;have e1 := inv_l ha;have e2 := inv_l hb;have : a = invS (invS a) := by
  have q := L.assoc (invS (invS a)) (invS a) a hc hb ha;rw [e2, e1, L.el a ha, L.er _ hc] at q;exact q
 rw [show zJ a (invS a) = zJ (invS (invS a)) (invS a) by rw [<- this]];exact e2
theorem inv_uniq {n : Nat} {a b : Sym} (ha : DP n a) (hb : DP n b) (h : zJ a b = idS n) : b = invS a := by
 have L := jO n;have hi := xA ha;have q := L.assoc (invS a) a b hi ha hb;rw [inv_l ha, h, L.el b hb, L.er _ hi] at q;exact q
def conj (a b : Sym) : Sym := zJ (zJ a b) (invS a)
theorem conj_mul {n : Nat} {a b c : Sym} (ha : DP n a) (hb : DP n b) (hc : DP n c) : conj a (zJ b c) = zJ (conj a b) (conj a c) := by
 have L := jO n;have hi := xA ha;have hab := L.dm a b ha hb;have hac := L.dm a c ha hc;have hci := L.dm _ _ hac hi;unfold conj;rw [L.assoc (zJ a b) (invS a) (zJ (zJ a c) (invS a)) hab hi hci, <- L.assoc (invS a) (zJ a c) (invS a) hi hac hi, <- L.assoc (invS a) a c hi ha hc, inv_l ha, L.el c hc, <- L.assoc (zJ a b) c (invS a) hab hc hi, L.assoc a b c ha hb hc]
theorem conj_comp {n : Nat} {a b c : Sym} (ha : DP n a) (hb : DP n b) (hc : DP n c) : conj (zJ a b) c = conj a (conj b c) := by
 have L := jO n;have hia := xA ha;have hib := xA hb;have hab := L.dm a b ha hb;have e : invS (zJ a b) = zJ (invS b) (invS a) := by
  refine (inv_uniq hab (L.dm _ _ hib hia) ?_).symm;rw [L.assoc a b _ ha hb (L.dm _ _ hib hia), <- L.assoc b (invS b) (invS a) hb hib hia, inv_r hb, L.el _ hia, inv_r ha]
 have hbc := L.dm b c hb hc;unfold conj;rw [e, L.assoc a b c ha hb hc, <- L.assoc (zJ a (zJ b c)) (invS b) (invS a) (L.dm _ _ ha hbc) hib hia, L.assoc a (zJ b c) (invS b) ha hbc hib]
theorem conj_dp {n : Nat} {a b : Sym} (ha : DP n a) (hb : DP n b) : DP n (conj a b) := (jO n).dm _ _ ((jO n).dm _ _ ha hb) (xA ha)
def normB (G S : List Sym) : Bool := G.all fun a => S.all fun b => decide (conj a b ∈ S)
theorem normB_gen {G S u1 q1 u2 q2 : List Sym} {n : Nat} (hG : qw G n) (hS : qw S n) (hu1 : ∀ c ∈ u1, c ∈ G) (h1 : CloS n u1 q1) (hq1 : ∀ a, a ∈ q1 ↔ a ∈ G) (hu2 : ∀ c ∈ u2, c ∈ S) (h2 : CloS n u2 q2) (hq2 : ∀ a, a ∈ q2 ↔ a ∈ S) :
  (u1.all fun a => u2.all fun b => decide (conj a b ∈ S)) = normB G S := by
 rw [Bool.eq_iff_iff];simp only [normB, Zah, decide_eq_true_eq];have L := jO n;constructor
 ·intro h;have k1 : ∀ a ∈ u1, ∀ b ∈ S, conj a b ∈ S := fun a ha b hb => by
   have da := hG.dp a (hu1 a ha)
   have := h2.ind (fun b => DP n b /\ conj a b ∈ S) ⟨L.de, by unfold conj; rw [L.er a da, inv_r da]; exact hS.one⟩ (fun x hx c hc => by
    have dc := hS.dp c (hu2 c hc);exact ⟨L.dm _ _ dc hx.1, by rw [conj_mul da dc hx.1]; exact hS.cl _ (h a ha c hc) _ hx.2⟩) b ((hq2 b).2 hb)
   exact this.2
  intro a ha
  have := h1.ind (fun a => DP n a /\ ∀ b ∈ S, conj a b ∈ S) ⟨L.de, fun b hb => by
   have e : invS (idS n) = idS n := (inv_uniq L.de L.de (L.el _ L.de)).symm;unfold conj
   rw [e, L.er _ (L.dm _ _ L.de (hS.dp b hb)), L.el b (hS.dp b hb)]; exact hb⟩ (fun x hx c hc => by
    have dc := hG.dp c (hu1 c hc);exact ⟨L.dm _ _ dc hx.1, fun b hb => by rw [conj_comp dc hx.1 (hS.dp b hb)]; exact k1 c hc _ (hx.2 b hb)⟩) a ((hq1 a).2 ha)
  exact this.2
 ·intro h a ha b hb;exact h a (hu1 a ha) b (hu2 b hb)
end Go.Ev
namespace Go.Ev
open Go Go.Proofs
variable {B : Nat}
set_option maxRecDepth 100000
theorem inv124 {a : Sym} {n : Nat} (ha : DP n a) (hn : n <= 1000) : Pure Tryz.prog B 124 [encS a] (· = encS (invS a)) := by
 have hl := ha.1.1;refine yP fun h nx K H0 hK => zS zX yg 10000 fun hf' => ?_;rw [zx.go, zx.t20, zA, zx.t0_s];refine H0.box (l := [encI a.1, .bool a.2]) rfl fun b1 h1 nx1 H1 => ?_;refine H1.alloc fun b2 h2 nx2 H2 => ?_;have ld0 : ∀ {hh nn L'} (HH : Hp h hh nn (L' ++ [.arr b2 [.zf, .bool false], .arr b1 [encI a.1, .bool a.2]])) (op : AV -> OP), zF (.ptr b1 (0 + 0)) hh op = op (encI a.1) := fun {hh nn L'} HH op => HH.load (k := L'.length + 1) (i := 0) (l := [encI a.1, .bool a.2]) (by rw [List.getElem?_append_right (by omega)]; simp) rfl;have ld1 : ∀ {hh nn L'} (HH : Hp h hh nn (L' ++ [.arr b2 [.zf, .bool false], .arr b1 [encI a.1, .bool a.2]])) (op : AV -> OP), zF (.ptr b1 (0 + 1)) hh op = op (.bool a.2) := fun {hh nn L'} HH op => HH.load (k := L'.length + 1) (i := 1) (l := [encI a.1, .bool a.2]) (by rw [List.getElem?_append_right (by omega)]; simp) rfl;have mk : mkSl 8 (I (a.1.length : Int)) (I (a.1.length : Int)) = true := by
  show (Nat.ble a.1.length a.1.length && Nat.ble a.1.length 1000000 && Nat.ble (8 * a.1.length) 281474976710656) = true;rw [Zab (Zaf _), Zab (by omega), Zab (by omega)]; rfl
 rw [zx.t19, zA, zx.t1_s];simp only [Bool.and_self, jX, sFx];rw [ld0 (L' := []) H2, zG, mk];simp only [Bool.and_self, jX];rw [ld1 (L' := []) H2];refine H2.mk1 a.1.length rfl rfl (by omega) (by decide) fun tb h3 nx3 H3 => ?_;rw [ld1 (L' := [_]) H3];simp only [zB, zG];rw [ld0 (L' := [_]) H3]
 try simp only [zB]
 rw [dD rfl rfl];refine H3.alloc fun b3 h4 nx4 H4 => ?_;rw [dD rfl rfl]
 try simp only [zB]
 rw [ld1 (L' := [_, _]) H4]
 try simp only [zB, zG]
 rw [ld0 (L' := [_, _]) H4]
 try simp only [zB]
 refine H4.gy (k := 0) (n := 2) rfl rfl rfl fun h5 H5 => ?_;rw [zx.t18, zA, zx.t15, zA, zx.t2_s, sFx, ld0 (L' := [_, _]) H5, zG];have e0 : List.replicate a.1.length (I 0) = (kG a.1.length false a.1 (idL a.1.length) 0).map I := by simp [kG]
 rw [e0] at H5;rw [zx.t14, zZ]
 refine zx.t13_L (fun m x8 h' nx' => ∃ i : Nat, x8 = I i /\ m = a.1.length - i /\ i <= a.1.length /\ Hp h h' nx' [.arr b3 [.sl tb 0 a.1.length (some a.1.length) 1, .bool a.2], .arr tb ((kG a.1.length false a.1 (idL a.1.length) i).map I), .arr b2 [.zf, .bool false], .arr b1 [encI a.1, .bool a.2]]) (m := a.1.length) (by omega)
  ⟨0, rfl, by omega, by omega, H5⟩ ?_
 rintro m z4 z5 z8 z9 h6 nx6 R ⟨i, rfl, rfl, hi, H6⟩ hR;rw [zx.t12, zA, zx.t3_s, qi];by_cases hlt : i < a.1.length
 case neg =>
  rw [decide_eq_false (by omega), zx.t11, zA, zx.t4, zI, zx.v9, zE, jH, gN, zx.t17, zA, zx.t16_s, H6.zi (k := 0) (n := 2) rfl rfl];refine H6.gy (k := 2) (n := 2) rfl rfl rfl fun h7 H7 => ?_;simp only [yJ, jA];rw [zx.ret, H7.zi (k := 2) (n := 2) rfl rfl];obtain rfl : i = a.1.length := by omega
  have hal := gZ a.1.length false a.1 (idL a.1.length) a.1.length;have e : invS a = (kG a.1.length false a.1 (idL a.1.length) a.1.length, a.2) := by
   unfold invS applyS; rw [mK]
  refine hK _ _ _ _ (encS (invS a)) H7 (frz_agg2 ?_ (zH rfl) rfl) rfl;rw [e];have := H7.frzArr (k := 1) (e := 1) (n := a.1.length) (cap := some a.1.length) rfl (Zaf _) (by simp [hal]) fixdI;show FrzN h h7 _ (AV.lst 1 (kG _ _ _ _ _).length _);rw [hal];exact this
 rw [decide_eq_true (by omega), zx.t11, zA, zx.t4, zI, zx.v9, zD, zQ];have hx : a.1[i]? = some a.1[i] := List.getElem?_eq_getElem hlt;have hgb := ha.perm.2 _ (Zao hlt);have hgd : a.1.getD i 0 = a.1[i] := by rw [Zac, hx]; rfl
 rw [zx.t10, zA, zx.t8, zZ, zx.t7, zA, zx.t5_s, mV rfl hlt, ldL (getI hx), zx.t6_s, sFx, H6.load (k := 0) (i := 0 + 0) rfl rfl, sIx (i := (a.1[i]).toNat) (by omega) (by omega)];refine H6.store (k := 1) rfl (by rw [Zar, gZ]; omega) rfl fun h7 H7 => ?_;rw [zx.t9_s, qp (by omega)];refine hR _ _ _ _ _ _ _ (by omega) ⟨i + 1, rfl, rfl, by omega, H7.cast ?_⟩;rw [xK, hgd, idL_get hlt];simp [List.map_set, xOf]
def nrmV (G S : List Sym) (n : Int) : AV := if subE G S n ≠ 0 then .tup [.bool false, I (subE G S n)] else .tup [.bool (normB G S), I 0]
theorem vL {α : Type} {l : List α} {p : α -> Bool} {i : Nat} {x : α} (hx : l[i]? = some x) (h : (l.take i).all p = true) (hp : p x = true) : (l.take (i + 1)).all p = true := by
 rw [Zas, hx, List.all_append, h]; simp [hp]
theorem d6 {α : Type} {l : List α} {p : α -> Bool} (h : (l.take l.length).all p = true) : l.all p = true := by rwa [Zaq (Zaf _)] at h
theorem isNormal40 {G S : List Sym} {n : Int} (hG : G.length <= 100000) (hw : ∀ g ∈ G, g.1.length <= 100000) (hS : S.length <= 100000) (hw2 : ∀ g ∈ S, g.1.length <= 100000) : Pure Tryz.prog B 40 [yw G, yw S, I n] (· = nrmV G S n) := by
 refine yP fun h nx K H0 hK => zS zX yg 10000000 fun hf' => ?_;rw [F40.go, F40.t43, zA, F40.t0_s, F40.t42, zA, F40.t1_s];refine p8 hG hw hS hw2 H0 (fun e h2 nx2 X he hne H2 => ?_) fun n' u1 q1 u2 q2 g o1 o2 h2 nx2 X hn ok1 ok2 hse hu1 hul1 hC1 hq1 hu2 hul2 hC2 hq2 hsub H2 => ?_
 ·rw [jC, jI, jW];refine H2.alloc fun b6 h3 nx3 H3 => ?_;refine H3.gy (k := 0) (n := 2) rfl rfl rfl fun h4 H4 => ?_;rw [F40.t41, zA, F40.t6, zA, F40.t2_s, qm, decide_eq_false hne, Zaj, F40.t5, zI, F40.v10, zD, F40.t4, zA, F40.t3_s];simp only [yJ, jA];rw [F40.ret];exact hK _ _ _ _ _ H4 (u7 (zH rfl) (zH rfl)) (by rw [nrmV, <- he, if_pos hne])
 subst hn;have hn256 := ok1.n256;have hgen := normB_gen ok1 ok2 hu1 hC1 hq1 hu2 hC2 hq2;rw [jC, jI, jW];refine H2.alloc fun b6 h3 nx3 H3 => ?_;refine H3.gy (k := 0) (n := 2) rfl rfl rfl fun h4 H4 => ?_;rw [F40.t41, zA, F40.t6, zA, F40.t2_s, qm, decide_eq_true rfl, Zai, F40.t5, zI, F40.v10, zE, zQ, F40.t40, zA, F40.t37, zA, F40.t7_s, sAx0, H4.load (k := 0) (i := 0) rfl rfl, H4.groLen (k := 3) rfl];have hd2 : ∀ b ∈ q2, DS n' b := fun b hb => (ok2.dp b ((hq2 b).1 hb)).1;have no : ∀ {h' nx' L'}, Hp h h' nx' L' -> (∃ a ∈ u1, ∃ b ∈ u2, conj a b ∉ S) -> K (.tup [.bool false, I 0]) h' nx' = .ok True := fun H' ⟨a, ha, b, hb, hc⟩ => by
  refine hK _ _ _ _ _ H' (u7 (zH rfl) (zH rfl)) ?_;rw [nrmV, hse, if_neg (by decide), <- hgen]
  congr 3
  refine (Bool.eq_false_iff.2 fun q => ?_).symm;have := List.all_eq_true.1 (List.all_eq_true.1 q a ha) b hb;exact hc (of_decide_eq_true this)
 rw [F40.t36, zZ]
 refine F40.t35_L (fun m x13 h' nx' => ∃ i : Nat, x13 = I i /\ m = u1.length - i /\ i <= u1.length /\ (u1.take i).all (fun a => u2.all fun b => decide (conj a b ∈ S)) = true /\ Hp h h' nx' (.arr b6 [jm o1 2 u1.length, jm o2 2 u2.length] :: .map g (uw q2) :: .gro o2 2 u2.length (yH u2) :: .gro o1 2 u1.length (yH u1) :: (X ++ []))) (m := u1.length) (by omega)
  ⟨0, rfl, by omega, by omega, by simp, H4⟩ ?_
 rintro m z3 z4 z8 z9 z13 z14 z15 z16 z17 z18 z19 h6 nx6 R ⟨i, rfl, rfl, hi, hal, H6⟩ hR;rw [F40.t34, zA, F40.t8_s, qi];by_cases hlt : i < u1.length
 case neg =>
  rw [decide_eq_false (by omega), F40.t33, zA, F40.t9, zI, F40.v14, zE, jH, gN, F40.t39, zA, F40.t38_s];simp only [yJ, jA];rw [F40.ret];obtain rfl : i = u1.length := by omega
  exact hK _ _ _ _ _ H6 (u7 (zH rfl) (zH rfl)) (by rw [nrmV, hse, if_neg (by decide), <- hgen, d6 hal])
 rw [decide_eq_true (by omega), F40.t33, zA, F40.t9, zI, F40.v14, zD, zQ, F40.t32, zA, F40.t30, zZ, F40.t29, zA, F40.t10_s];have hx : u1[i]? = some u1[i] := List.getElem?_eq_getElem hlt;have hxm := Zaa hx;have hdx := ok1.dp _ (hu1 _ hxm);obtain ⟨iu, ou, e1, e2⟩ := groIx2 (k := 3) H6 rfl hx;rw [e1, e2];refine H6.alloc fun b8 h7 nx7 H7 => ?_;refine H7.gy (k := 0) (n := 2) rfl rfl rfl fun h8 H8 => ?_;rw [F40.t28, zA, F40.t11_s, sAx1, H8.load (k := 1) (i := 0 + 1) rfl rfl, H8.groLen (k := 3) rfl, F40.t27, zZ]
 refine F40.t26_L (fun m x17 h' nx' => ∃ k : Nat, x17 = I k /\ m = u2.length - k /\ k <= u2.length /\ (u2.take k).all (fun b => decide (conj u1[i] b ∈ S)) = true /\ Hp h h' nx' (.arr b8 [encI u1[i].1, .bool u1[i].2] :: .arr b6 [jm o1 2 u1.length, jm o2 2 u2.length] :: .map g (uw q2) :: .gro o2 2 u2.length (yH u2) :: .gro o1 2 u1.length (yH u1) :: (X ++ []))) (m := u2.length) (by omega)
  ⟨0, rfl, by omega, by omega, by simp, H8⟩ ?_
 rintro m y3 y4 y9 y17 y18 y19 h9 nx9 R' ⟨k, rfl, rfl, hk, hal2, H9⟩ hR';rw [F40.t25, zA, F40.t12_s, qi];by_cases hlt2 : k < u2.length
 case neg =>
  rw [decide_eq_false (by omega), F40.t24, zA, F40.t13, zI, F40.v18, zE, jH, gN, F40.t31_s, qp (by omega)];obtain rfl : k = u2.length := by omega
  exact hR _ _ _ _ _ _ _ _ _ _ _ _ _ _ (by omega) ⟨i + 1, rfl, rfl, by omega, vL hx hal (d6 hal2), H9.drop⟩
 rw [decide_eq_true (by omega), F40.t24, zA, F40.t13, zI, F40.v18, zD, zQ, F40.t23, zA, F40.t21, zZ, F40.t20, zA, F40.t14_s];have hy : u2[k]? = some u2[k] := List.getElem?_eq_getElem hlt2;have hym := Zaa hy;have hdy := ok2.dp _ (hu2 _ hym);obtain ⟨iv, ov, e3, e4⟩ := groIx2 (k := 3) H9 rfl hy;rw [e3, e4];refine H9.alloc fun b9 h10 nx10 H10 => ?_;refine H10.gy (k := 0) (n := 2) rfl rfl rfl fun h11 H11 => ?_;rw [F40.t19, zA, F40.t15_s, H11.zi (k := 1) (n := 2) rfl rfl, H11.zi (k := 0) (n := 2) rfl rfl, H11.zi (k := 1) (n := 2) rfl rfl];refine d8 (a := u1[i]) (b := u2[k]) (fun z hz => by rw [hdx.1.1]; exact hdy.1.2 z hz) (by rw [hdy.1.1]; omega) _ _ _ _ ?_;rintro _ rfl _;rw [H11.zi (k := 1) (n := 2) rfl rfl, zB, zB];refine inv124 (a := u1[i]) hdx (by omega) _ _ _ _ ?_;rintro _ rfl _;have hdi := xA hdx;have hdxy := (jO n').dm _ _ hdx hdy;rw [zB];refine d8 (a := zJ u1[i] u2[k]) (b := invS u1[i]) (fun z hz => by rw [hdxy.1.1]; exact hdi.1.2 z hz) (by rw [hdi.1.1]; omega) _ _ _ _ ?_;rintro _ rfl _;rw [zB];have hdc : DP n' (conj u1[i] u2[k]) := conj_dp hdx hdy;refine has204 (a := conj u1[i] u2[k]) hn256 hdc.1 hd2 H11 (k := 3) rfl ?_;rw [y5, F40.t18, zI, F40.v19];by_cases c : conj u1[i] u2[k] ∈ q2
 ·rw [decide_eq_true c, Zai, zE, zQ, F40.t22_s, qp (by omega)];exact hR' _ _ _ _ _ _ _ _ _ (by omega) ⟨k + 1, rfl, rfl, by omega, vL hy hal2 (decide_eq_true ((hq2 _).1 c)), H11.drop⟩
 ·rw [decide_eq_false c, Zaj, zD, F40.t17, zA, F40.t16_s];simp only [yJ, blk_rt, jA];rw [F40.ret];exact no H11 ⟨_, hxm, _, hym, fun q => c ((hq2 _).2 q)⟩
end Go.Ev
namespace Go.Ev
abbrev AscS (l : List Sym) : Prop := l.Pairwise fun a b => befS a b = true
theorem AscS.nd {l : List Sym} (h : AscS l) : l.Nodup := h.imp fun hab e => by rw [e, qJ] at hab; cases hab
theorem asc_uniq : ∀ {a b : List Sym}, AscS a -> AscS b -> (∀ x, x ∈ a ↔ x ∈ b) -> a = b
 | [], [], _, _, _ => rfl
 | [], y :: b, _, _, h => by have := (h y).2 (by simp); cases this
 | x :: a, [], _, _, h => by have := (h x).1 (by simp); cases this
 | x :: a, y :: b, ha, hb, h => by
  have ha' := List.pairwise_cons.1 ha;have hb' := List.pairwise_cons.1 hb;have e : x = y := by
   have h1 := (h x).1 (by simp);have h2 := (h y).2 (by simp);rcases List.mem_cons.1 h1 with q | q
   ·exact q
   ·rcases List.mem_cons.1 h2 with r | r
    ·exact r.symm
    ·have h3 := hb'.1 x q;have h4 := ha'.1 y r;rw [befS_asymm h3] at h4; cases h4
  subst e
  congr 1
  refine asc_uniq ha'.2 hb'.2 fun z => ?_;have hz := h z;simp only [Zae] at hz;constructor
  ·intro q;rcases hz.1 (.inr q) with rfl | r
   ·have := ha'.1 z q; rw [qJ] at this; cases this
   ·exact r
  ·intro q;rcases hz.2 (.inr q) with rfl | r
   ·have := hb'.1 z q; rw [qJ] at this; cases this
   ·exact r
end Go.Ev
namespace Go.Ev
open Go Go.Proofs
theorem ordS_bef {a b : Sym} (h : a ≠ b) (h2 : pz a b <= 0) : befS a b = true := by
 rw [qZ] at h2;unfold befS;by_cases c : a.1 = b.1
 ·rw [if_pos c] at h2 ⊢;have : a.2 ≠ b.2 := fun q => h (Prod.ext c q)
  revert h2 this; cases a.2 <;> cases b.2 <;> simp
 ·rw [if_neg c] at h2 ⊢;rw [q8];have := pM c;exact decide_eq_true (by omega)
theorem asc_of_ord {s : List Sym} (hn : s.Nodup) (h : s.Pairwise fun a b => pz a b <= 0) : AscS s := (List.pairwise_and_iff.2 ⟨hn, h⟩).imp fun ⟨h1, h2⟩ => ordS_bef h1 h2
end Go.Ev
namespace Go.Ev
open Go Go.Proofs
variable {B : Nat}
set_option maxRecDepth 100000
theorem CS_args {P : Program} {f : Nat} {p : Pa} {args args' : List AV} {h : T Blk} {nx : Pa} {K : Kw Prop} (hv : ∀ (E : Env) (vs : List Value), VRL E args vs -> VRL E args' vs) (hk : (CS P B).fn f p args' h nx K = .ok True) : (CS P B).fn f p args h nx K = .ok True := by
 rw [CS_fn] at hk ⊢;exact ⟨fun E w vs H hv' => hk.1 E w vs H (hv _ _ hv'), rfl⟩
theorem VR_nil0 {E : Env} {e : Nat} {vv : Value} (h : VR E .zf vv) : VR E (.lst e 0 []) vv := by
 simp only [VR] at h ⊢;exact ⟨rfl, by simp, none, 0, h, .inl (by simp)⟩
def LG (v : AV) (l : List Sym) : Prop := (v = .zf /\ l = []) \/ (v = yw l /\ l ≠ [])
theorem LG.len {v : AV} {l : List Sym} (h : LG v l) {op : AV -> OP} : sLen v op = op (I l.length) := by
 rcases h with ⟨rfl, rfl⟩ | ⟨rfl, _⟩
 ·exact yZ
 ·exact zG ..
theorem LG.frz {v : AV} {l : List Sym} (h : LG v l) {N : Pa -> Prop} {O : AV -> Prop} {hh : T Blk} : Frz True N O hh v (yw l) := by
 rcases h with ⟨rfl, rfl⟩ | ⟨rfl, _⟩
 ·exact .lnils 2
 ·exact zH (fixd_encG _)
theorem LG.call {P : Program} {f : Nat} {p : Pa} {v : AV} {rest : List AV} {l : List Sym} (h : LG v l) {hh : T Blk} {nx : Pa} {K : Kw Prop} (hk : (CS P B).fn f p (yw l :: rest) hh nx K = .ok True) : (CS P B).fn f p (v :: rest) hh nx K = .ok True := by
 rcases h with ⟨rfl, rfl⟩ | ⟨rfl, _⟩
 ·refine CS_args (fun E vs hv => ?_) hk;simp only [VRL] at hv ⊢;obtain ⟨a, m, q, r, s⟩ := hv;exact ⟨a, m, q, VR_nil0 r, s⟩
 ·exact hk
end Go.Ev
namespace Go.Ev
open Go.Proofs (uf wX qO kQ gX)
abbrev AscT (l : List (List Int)) : Prop := l.Pairwise fun a b => jS a b = true
end Go.Ev
namespace Go.Ev
open Go Go.Proofs
variable {B : Nat}
set_option maxRecDepth 100000
def Kept (s r : List (List Int)) (j : Nat) : Prop := AscT r /\ (∀ x, x ∈ r ↔ x ∈ s.take j) /\ 1 <= r.length /\ r.length <= j /\ r.getLast? = s[j - 1]?
theorem Kept.same {s r : List (List Int)} {j : Nat} (hj : 1 <= j) (h : Kept s r j) (hl : j < s.length) (e : s[j] = s[j - 1]) : Kept s r (j + 1) := by
 obtain ⟨h1, h2, h3, h4, h5⟩ := h;have hp : s[j - 1]? = some s[j - 1] := List.getElem?_eq_getElem (by omega);refine ⟨h1, fun x => ?_, h3, by omega, ?_⟩
 ·rw [h2, Zas, List.getElem?_eq_getElem hl, Zap];constructor
  ·exact .inl
  ·rintro (q | q)
   ·exact q
   ·have : x = s[j - 1] := by rw [<- e]; simpa using q
    rw [this];exact Zaa (i := j - 1) (by rw [List.getElem?_take_of_lt (by omega)]; exact hp)
 ·rw [h5, hp, Nat.add_sub_cancel, List.getElem?_eq_getElem hl, e]
theorem Kept.new {s r : List (List Int)} {j : Nat} (hj : 1 <= j) (h : Kept s r j) (hs : s.Pairwise fun a b => uf a b <= 0) (hl : j < s.length) (e : s[j] ≠ s[j - 1]) : Kept s (r ++ [s[j]]) (j + 1) := by
 obtain ⟨h1, h2, h3, h4, h5⟩ := h;have hlt : ∀ x ∈ s.take j, jS x s[j] = true := fun x hx => by
  have hpw := List.pairwise_iff_getElem.1 hs;obtain ⟨i, hi⟩ := List.getElem?_of_mem hx;have hil := (List.getElem?_eq_some_iff.1 hi).1;rw [Zbc] at hil;rw [List.getElem?_take_of_lt (by omega), List.getElem?_eq_getElem (by omega)] at hi;obtain rfl := Option.some.inj hi;have a1 := hpw i j (by omega) hl (by omega);have a2 := hpw (j - 1) j (by omega) hl (by omega);have a3 : uf s[j - 1] s[j] ≠ 0 := fun q => e (qO q).symm;rw [q8];by_cases q : i = j - 1
  ·subst q; exact decide_eq_true (by omega)
  ·have a4 := hpw i (j - 1) (by omega) (by omega) (by omega);by_cases z : uf s[i] s[j - 1] = 0
   ·rw [qO z]; exact decide_eq_true (by omega)
   ·exact decide_eq_true (gX (b := s[j - 1]) (by omega) (by omega))
 refine ⟨List.pairwise_append.2 ⟨h1, by simp, fun x hx y hy => ?_⟩, fun x => ?_, by simp, by simp; omega, ?_⟩
 ·rw [List.mem_singleton.1 hy]; exact hlt x ((h2 x).1 hx)
 ·rw [Zap, h2, Zas, List.getElem?_eq_getElem hl, Zap]; simp
 ·rw [Nat.add_sub_cancel, List.getElem?_eq_getElem hl]; simp
theorem qS {a b c : List Int} (h1 : uf a b <= 0) (h2 : uf b c <= 0) : uf a c <= 0 := by
 by_cases z1 : uf a b = 0
 ·rw [qO z1]; exact h2
 ·by_cases z2 : uf b c = 0
  ·rw [<- qO z2]; exact h1
  ·have := gX (a := a) (b := b) (c := c) (by omega) (by omega); omega
def LT (v : AV) (l : List (List Int)) : Prop := (v = .zf /\ l = []) \/ (v = encT l /\ l ≠ [])
theorem LT.len {v : AV} {l : List (List Int)} (h : LT v l) {op : AV -> OP} : sLen v op = op (I l.length) := by
 rcases h with ⟨rfl, rfl⟩ | ⟨rfl, _⟩
 ·exact yZ
 ·exact zG ..
theorem LT.frz {v : AV} {l : List (List Int)} (h : LT v l) {N : Pa -> Prop} {O : AV -> Prop} {hh : T Blk} : Frz True N O hh v (encT l) := by
 rcases h with ⟨rfl, rfl⟩ | ⟨rfl, _⟩
 ·exact .lnils 1
 ·exact zH (fixd_encT _)
theorem scal_T (q : List (List Int)) : (q.map encI).all yx = true := List.all_eq_true.2 fun v hv => by obtain ⟨a, _, rfl⟩ := List.mem_map.1 hv; exact bJ.yx (kT a)
end Go.Ev
namespace Go.Ev
open Go.Proofs
section
variable {G S : List Sym} {n : Nat}
end
end Go.Ev
namespace Go.Ev
abbrev atG (g : Sym) (i : Nat) : Int := g.1.getD i 0
def je (G : List Sym) (i : Nat) : List Int := G.map fun g => atG g i
def orbC (G : List Sym) (n i : Nat) : List Int := ((List.range n).filter fun k : Nat => decide ((k : Int) ∈ je G i)).map fun k : Nat => (k : Int)
def hadC (G : List Sym) (i x : Nat) : Prop := ∃ j, j < i /\ (x : Int) ∈ je G j
def hadB (G : List Sym) (i x : Nat) : Bool := (List.range i).any fun j => decide ((x : Int) ∈ je G j)
theorem ku {G : List Sym} {i x : Nat} : hadB G i x = true ↔ hadC G i x := by
 unfold hadB hadC;rw [List.any_eq_true];constructor
 ·rintro ⟨j, hj, h⟩; exact ⟨j, List.mem_range.1 hj, of_decide_eq_true h⟩
 ·rintro ⟨j, hj, h⟩; exact ⟨j, List.mem_range.2 hj, decide_eq_true h⟩
def qD (G : List Sym) (n : Nat) : Nat -> List (List Int)
 | 0 => []
 | i + 1 => if hadB G i i = true then qD G n i else qD G n i ++ [orbC G n i]
def ddC (l : List Int) : List Int := l.foldl (fun acc x => if x ∈ acc then acc else acc ++ [x]) []
theorem ddC_snoc (l : List Int) (x : Int) : ddC (l ++ [x]) = if x ∈ ddC l then ddC l else ddC l ++ [x] := by
 unfold ddC; rw [List.foldl_append]; rfl
theorem dV : ∀ (l : List Int) (acc : List Int), acc.Nodup -> (l.foldl (fun acc x => if x ∈ acc then acc else acc ++ [x]) acc).Nodup /\ ∀ y, y ∈ l.foldl (fun acc x => if x ∈ acc then acc else acc ++ [x]) acc ↔ y ∈ acc \/ y ∈ l
 | [], acc, h => ⟨h, fun y => by simp⟩
 | x :: l, acc, h => by
  rw [List.foldl_cons];by_cases c : x ∈ acc
  ·rw [if_pos c];obtain ⟨h1, h2⟩ := dV l acc h;refine ⟨h1, fun y => ?_⟩;rw [h2, Zae];constructor
   ·rintro (q | q)
    ·exact .inl q
    ·exact .inr (.inr q)
   ·rintro (q | rfl | q)
    ·exact .inl q
    ·exact .inl c
    ·exact .inr q
  ·rw [if_neg c];have hn : (acc ++ [x]).Nodup := List.nodup_append.2 ⟨h, by simp, fun a ha b hb e => by simp at hb; subst hb; subst e; exact c ha⟩;obtain ⟨h1, h2⟩ := dV l _ hn;refine ⟨h1, fun y => ?_⟩;rw [h2, Zae, Zap, Zay];constructor
   ·rintro ((q | q) | q)
    ·exact .inl q
    ·exact .inr (.inl q)
    ·exact .inr (.inr q)
   ·rintro (q | q | q)
    ·exact .inl (.inl q)
    ·exact .inl (.inr q)
    ·exact .inr q
theorem ddC_nodup (l : List Int) : (ddC l).Nodup := (dV l [] .nil).1
theorem mem_ddC {l : List Int} {y : Int} : y ∈ ddC l ↔ y ∈ l := by rw [ddC, (dV l [] .nil).2]; simp
section
variable {G : List Sym} {n : Nat}
theorem at_lt (ok : qw G n) {g : Sym} (hg : g ∈ G) {i : Nat} (hi : i < n) : 0 <= atG g i /\ atG g i < n := by
 obtain ⟨_, b1, b2⟩ := (ok.dp g hg).1.get hi;exact ⟨b1, b2⟩
theorem img_lt (ok : qw G n) {i : Nat} (hi : i < n) {x : Int} (hx : x ∈ je G i) : 0 <= x /\ x < n := by
 obtain ⟨g, hg, rfl⟩ := List.mem_map.1 hx;exact at_lt ok hg hi
theorem at_comp (ok : qw G n) {a b : Sym} (hb : b ∈ G) {i : Nat} (hi : i < n) : atG (zJ a b) i = atG a (atG b i).toNat := by
 unfold atG;rw [Zac, gL (ok.dp b hb).1 hi]; rfl
theorem at_id {i : Nat} (hi : i < n) : atG (idS n) i = i := by
 show ((List.range n).map fun j : Nat => (j : Int)).getD i 0 = _;rw [Zac, List.getElem?_map, List.getElem?_range hi]; rfl
theorem img_self (ok : qw G n) {i : Nat} (hi : i < n) : (i : Int) ∈ je G i := List.mem_map.2 ⟨_, ok.one, at_id hi⟩
theorem img_trans (ok : qw G n) {i j : Nat} (hi : i < n) (hj : (j : Int) ∈ je G i) {x : Int} (hx : x ∈ je G j) : x ∈ je G i := by
 obtain ⟨g, hg, e⟩ := List.mem_map.1 hj;obtain ⟨g', hg', rfl⟩ := List.mem_map.1 hx;refine List.mem_map.2 ⟨zJ g' g, ok.cl g' hg' g hg, ?_⟩;have e : atG g i = j := e;rw [at_comp ok hg hi, e, Int.toNat_natCast]
theorem img_symm (ok : qw G n) {i j : Nat} (hi : i < n) (hj : (j : Int) ∈ je G i) : (i : Int) ∈ je G j := by
 obtain ⟨g, hg, e⟩ := List.mem_map.1 hj;obtain ⟨c, hc, e2⟩ := ok.linv hg;refine List.mem_map.2 ⟨c, hc, ?_⟩;have e : atG g i = j := e;have := at_comp ok (a := c) hg hi;rw [e2, at_id hi, e, Int.toNat_natCast] at this;exact this.symm
theorem had_skip (ok : qw G n) {i : Nat} (hi : i < n) (h : hadC G i i) (x : Nat) : hadC G (i + 1) x ↔ hadC G i x := by
 constructor
 ·rintro ⟨j, hj, hx⟩;rcases Nat.lt_or_ge j i with q | q
  ·exact ⟨j, q, hx⟩
  ·obtain rfl : j = i := by omega
   obtain ⟨k, hk, hx2⟩ := h;exact ⟨k, hk, img_trans ok (by omega) hx2 hx⟩
 ·rintro ⟨j, hj, hx⟩; exact ⟨j, by omega, hx⟩
theorem had_succ {i x : Nat} : hadC G (i + 1) x ↔ hadC G i x \/ (x : Int) ∈ je G i := by
 constructor
 ·rintro ⟨j, hj, hx⟩;rcases Nat.lt_or_ge j i with q | q
  ·exact .inl ⟨j, q, hx⟩
  ·obtain rfl : j = i := by omega
   exact .inr hx
 ·rintro (⟨j, hj, hx⟩ | hx)
  ·exact ⟨j, by omega, hx⟩
  ·exact ⟨i, by omega, hx⟩
theorem had_new (ok : qw G n) {i : Nat} (hi : i < n) (h : ¬ hadC G i i) {x : Nat} (hx : (x : Int) ∈ je G i) : ¬ hadC G i x := by
 rintro ⟨j, hj, hx2⟩;have hxn := img_lt ok hi hx;exact h ⟨j, hj, img_trans ok (by omega) hx2 (img_symm ok hi hx)⟩
theorem orbC_mem (ok : qw G n) {i : Nat} (hi : i < n) (x : Int) : x ∈ orbC G n i ↔ x ∈ je G i := by
 unfold orbC;rw [Zak];constructor
 ·rintro ⟨k, hk, rfl⟩;exact of_decide_eq_true (List.mem_filter.1 hk).2
 ·intro hx;obtain ⟨h1, h2⟩ := img_lt ok hi hx;refine ⟨x.toNat, List.mem_filter.2 ⟨List.mem_range.2 (by omega), decide_eq_true ?_⟩, by omega⟩;rw [Int.toNat_of_nonneg h1]; exact hx
theorem orbC_asc (i : Nat) : (orbC G n i).Pairwise (· < ·) := by
 unfold orbC;refine List.pairwise_map.2 ?_;exact (List.Pairwise.sublist List.filter_sublist List.pairwise_lt_range).imp fun h => by omega
theorem orbC_srt (ok : qw G n) {i : Nat} (hi : i < n) : srt (ddC (je G i)) = orbC G n i := by
 refine (srt_unique ?_ ((orbC_asc i).imp fun h => by omega)).symm;have h1 : (orbC G n i).Nodup := (orbC_asc i).imp fun h e => by omega
 refine (List.perm_ext_iff_of_nodup h1 (ddC_nodup _)).2 fun x => ?_;rw [orbC_mem ok hi, mem_ddC]
theorem pN (i : Nat) : (qD G n i).length <= i := by
 induction i with
 | zero => simp [qD]
 | succ i ih =>
  rw [qD];split
  ·omega
  ·simp; omega
theorem orbC_len (i : Nat) : (orbC G n i).length <= n := by
 unfold orbC;have := List.length_filter_le (fun k : Nat => decide ((k : Int) ∈ je G i)) (List.range n);rw [Zar]; simpa using this
end
end Go.Ev
namespace Go.Ev
open Go Go.Proofs Go.RowKit Go.Sort
noncomputable def xB : List AV -> Option (List Int)
 | [] => some []
 | .int k n :: l => match k with
  | .i64 => match xB l with
   | some xs => some (n :: xs)
   | none => none
  | _ => none
 | _ => none
theorem intsA_eq : ∀ {l : List AV} {xs : List Int}, xB l = some xs -> l = xs.map I
 | [], xs, h => by simp [xB] at h; subst h; rfl
 | x :: l, xs, h => by
  cases x <;> first | (simp [xB] at h; done) | skip
  rename_i k n;cases k <;> first | (simp [xB] at h; done) | skip
  simp only [xB] at h;cases hl : xB l with
  | none => simp [hl] at h
  | some ys => simp [hl] at h; subst h; simp [intsA_eq hl]
theorem intsA_map (l : List Int) : xB (l.map I) = some l := by
 induction l with
 | nil => rfl
 | cons a l ih => show (match xB (l.map I) with | some xs => some (a :: xs) | none => none) = _; rw [ih]
noncomputable def sortJ (v : AV) (h : T Blk) : Option (T Blk) := match v with
 | .sl id off ln _ esz => match T.get .no id h with
  | .cells op m t => bif Nat.beq esz 1 && Nat.ble (off + ln) m && Nat.ble ln 1000000 then (match xB (yC t off ln) with
   | some l => some (T.set .no (.cells op m (yO ((srt l).map I) t off)) id h)
   | none => none) else none
  | _ => none
 | .zf => some h
 | _ => none
noncomputable def hookS (f : Nat) (args : List AV) (h : T Blk) : Option (AV × T Blk) := bif Nat.beq f 91 then (match args with
 | [v] => match sortJ v h with
  | some h => some (.tup [], h)
  | none => none
 | _ => none) else none
theorem HR.sorted {P : Program} {B : Nat} {E : Env} {h : T Blk} {nx : Pa} {w : World} (H : HR P B E h nx w) {id : Pa} {op : Bool} {m off b n k : Nat} {t : T AV} {l l' : List Int} {os : Array Obj} (hb : T.get .no id h = .cells op m t) (hE : E id = some (b, n))
  (hl' : l'.length = l.length) (hm : off + l.length <= m) :
  HR P B E (T.set .no (.cells op m (yO (l'.map I) t off)) id h) nx (grow (putRow (Value.int .i64) (Sort.ahead w k) b off l'.toArray) os) /\ Ex E E w (grow (putRow (Value.int .i64) (Sort.ahead w k) b off l'.toArray) os) := by
 have hid : T.get .no id h ≠ .no := by rw [hb]; intro e; cases e
 obtain ⟨b', n', o, h1, h2, h3⟩ := H.blk id hid;rw [hE] at h1; cases h1;rw [hb] at h3;obtain ⟨c, ty, fr, rfl, q1, q2, q3, q4, q5⟩ := h3;have hcs : (putCells (Value.int .i64) off l'.toArray c).size = c.size := by simp [putCells]
 have hbr : BR P E n (.cells op m (yO (l'.map I) t off)) (.cells (putCells (Value.int .i64) off l'.toArray c) ty fr) := by
  refine ⟨_, ty, fr, rfl, by rw [hcs]; exact q1, by rw [hcs]; exact q2, q3, q4, fun i hi => ?_⟩;rw [gC];have hic : i < c.size := by omega
  have hce : (putCells (Value.int .i64) off l'.toArray c)[i]? = some (if off <= i /\ i < off + l'.length then Value.int .i64 (l'.toArray[i - off]!) else c[i]) := by
   simp [putCells, Array.getElem?_eq_getElem hic]
  rw [Zar];by_cases hr : off <= i /\ i < off + l'.length
  ·rw [if_pos hr];rw [if_pos hr] at hce;have hj : i - off < l'.length := by omega
   have e1 : (l'.map I).getD (i - off) .undef = I l'[i - off] := by
    rw [Zac, List.getElem?_map, List.getElem?_eq_getElem hj]; rfl
   have e2 : l'.toArray[i - off]! = l'[i - off] := by simp [getElem!_pos, hj]
   rw [e1];exact ⟨rfl, _, hce, by rw [e2]; simp only [VR]⟩
  ·rw [if_neg hr];rw [if_neg hr] at hce;obtain ⟨r1, v, r2, r3⟩ := q5 i hi;rw [Array.getElem?_eq_getElem hic] at r2;exact ⟨r1, _, hce, by rw [Option.some.inj r2]; exact r3⟩
 have H1 := H.put hid hE hbr;have X1 : Ex E E w (w.putObj b (.cells (putCells (Value.int .i64) off l'.toArray c) ty fr)) := Ex.put hE h2 fun L hL => by cases hL
 have hbl : b < w.heap.size := (Array.getElem?_eq_some_iff.1 h2).1;have hBel : Below (w.putObj b (.cells (putCells (Value.int .i64) off l'.toArray c) ty fr)).heap.size (w.putObj b (.cells (putCells (Value.int .i64) off l'.toArray c) ty fr)) (grow (putRow (Value.int .i64) (Sort.ahead w k) b off l'.toArray) os) := by
  refine ⟨rfl, rfl, rfl, ?_, fun j hj => ?_⟩
  ·rw [World.putObj_size]; simp [grow, putRow, mapBlock, Sort.ahead]
  ·rw [World.putObj_size] at hj;have e1 : (grow (putRow (Value.int .i64) (Sort.ahead w k) b off l'.toArray) os).heap[j]? = (w.heap.modify b (onCells (putCells (Value.int .i64) off l'.toArray)))[j]? := by
    show (w.heap.modify b (onCells (putCells (Value.int .i64) off l'.toArray)) ++ os)[j]? = _;rw [Array.getElem?_append_left (by simpa using hj)]
   rw [e1, Array.getElem?_modify];by_cases e : b = j
   ·subst e;rw [if_pos rfl, h2, j7 _ hbl]; rfl
   ·rw [if_neg e, yD _ (fun q => e q.symm)]
 obtain ⟨r1, r2⟩ := H1.below hBel;exact ⟨r1, X1.trans r2⟩
theorem hookS_ok {B : Nat} (law : ∀ (blk off cap : Nat) (zs : List Int) (w : World), Holds (Value.int .i64) w blk off zs.toArray -> blk < w.heap.size -> zs.length < 4611686018427387904 ->
   Go.Calls Tryz.prog 91 #[.slice (some ⟨blk, off, none⟩) zs.length cap] w fun e w' => e = .returned (.tuple #[]) /\ ∃ n os, w' = grow (putRow (Value.int .i64) (Sort.ahead w n) blk off (zs.mergeSort fun x y => decide (x <= y)).toArray) os)
  (law0 : ∀ (p : Option Addr) (cap : Nat) (w : World), Go.Calls Tryz.prog 91 #[.slice p 0 cap] w fun e w' => e = .returned (.tuple #[]) /\ w' = w) : JOk Tryz.prog B hookS := by
 intro E h nx w f args vs v h2 H hv hj;unfold hookS at hj;cases hf : Nat.beq f 91 with
 | false => simp [hf] at hj
 | true =>
  obtain rfl := zY hf;rw [hf, cond_true] at hj;split at hj
  case h_2 => cases hj
  rename_i _ x;cases hjj : sortJ x h with
  | none => simp [hjj] at hj
  | some hs =>
  simp only [hjj, Option.some.injEq, Prod.mk.injEq] at hj;obtain ⟨rfl, rfl⟩ := hj;refine ⟨_, Tryz.func91, by kernel_rfl, by kernel_rfl, fun n => callsIn_wide.2 ?_⟩;obtain ⟨l⟩ := vs;simp only [VRL] at hv;obtain ⟨u, _, rfl, hu, rfl⟩ := hv;unfold sortJ at hjj;split at hjj
  ·rename_i id off ln cap esz;split at hjj
   ·rename_i op m t hb;cases hq : (Nat.beq esz 1 && Nat.ble (off + ln) m && Nat.ble ln 1000000) with
    | false => simp [hq] at hjj
    | true =>
     rw [hq, cond_true] at hjj;simp only [Zad] at hq;obtain ⟨⟨q1, q2⟩, q3⟩ := hq;obtain rfl := zY q1;have q2 := zR q2;have q3 := zR q3;cases hx : xB (yC t off ln) with
     | none => simp [hx] at hjj
     | some xs =>
      simp only [hx, Option.some.injEq] at hjj;subst hjj;have hxs := intsA_eq hx;have hln : xs.length = ln := by
       have := congrArg List.length hxs;simpa using this.symm
      obtain ⟨b, n, c, hE, rfl, hcap⟩ := hu.sl_inv;obtain ⟨b', n', o, h1, h2, h3⟩ := H.blk id (by rw [hb]; intro e; cases e);rw [hE] at h1; cases h1;rw [hb] at h3;obtain ⟨cs, ty, fr, rfl, g1, g2, g3, g4, hc⟩ := h3;have hH : Holds (Value.int .i64) w b off xs.toArray := by
       intro j hj;have hj : j < xs.length := by simpa using hj
       obtain ⟨_, v', k1, k2⟩ := hc (off + j) (by omega);have he : T.get .undef (.of (off + j)) t = I xs[j] := by
        have e1 := zV t off ln j (by omega);rw [hxs, List.getElem?_map, List.getElem?_eq_getElem hj] at e1;exact (Option.some.inj e1).symm
       rw [he] at k2;simp only [VR] at k2;subst k2;have e2 : xs.toArray[j]! = xs[j] := by simp [getElem!_pos, hj]
       rw [e2];refine ⟨by simp [World.cell?, h2, k1], ?_⟩;have := g1 (off + j) (Array.getElem?_eq_some_iff.1 k1).1;simp only [World.frozen?, h2];obtain ⟨lo, hi⟩ := fr;simp only [Bool.and_eq_false_iff, decide_eq_false_iff_not];simp only at this;omega
      rw [<- hln];refine (law b off c xs w hH (H.lt _ _ _ hE).2 (by omega)).mono ?_;rintro e w' ⟨rfl, k, os, rfl⟩;have hp : (srt xs).length = xs.length := (wV xs).length_eq;obtain ⟨r1, r2⟩ := H.sorted (off := off) (l := xs) (l' := srt xs) (k := k) (os := os) hb hE hp (by omega);exact ⟨_, E, rfl, by simp only [VR, VRL]; exact ⟨_, rfl, rfl⟩, r1, r2⟩
   ·cases hjj
  ·obtain rfl := (Option.some.inj hjj).symm;simp only [VR] at hu;subst hu;refine (law0 none 0 w).mono ?_;rintro e w' ⟨rfl, rfl⟩;exact ⟨_, E, rfl, by simp only [VR, VRL]; exact ⟨_, rfl, rfl⟩, H, .refl _ _⟩
  ·cases hjj
end Go.Ev
namespace Go.Ev
open Go Go.Proofs
variable {B : Nat}
set_option maxRecDepth 100000
theorem hookS91 {B : Nat} : JOk Tryz.prog B hookS := hookS_ok Tryz.slices_Sort_int Tryz.slices_Sort_int_none
theorem sort91g {h0 h : T Blk} {nx p id : Pa} {L : List Ob} {k n : Nat} {K : Kw Prop} {l : List Int} (H : Hp h0 h nx L) (hk : L[k]? = some (.gro (some id) 1 n (l.map I))) (hn : n <= 1000000)
  (hK : ∀ h', Hp h0 h' nx (L.set k (.gro (some id) 1 n ((srt l).map I))) -> K (.tup []) h' nx = .ok True) : (CS Tryz.prog B).fn 91 p [jm (some id) 1 n] h nx K = .ok True := by
 obtain ⟨t, h1, h2, h3⟩ := H.own _ (Zaa hk);rw [Zar] at h2;have hp := (wV l).length_eq;have hln : l.length = n := by omega
 have hsl : ((srt l).map I).length = n * 1 := by rw [Zar, hp, h2]
 refine CS_hook hookS91 (v := .tup []) (h2 := T.set .no (.cells true (n * 1) (yO ((srt l).map I) t 0)) id h) ?_ (hK _ ?_)
 ·show (match sortJ (.sl id 0 n none 1) h with
   | some h => some (AV.tup [], h)
   | none => none) = _
  have e : sortJ (.sl id 0 n none 1) h = some (T.set .no (.cells true (n * 1) (yO ((srt l).map I) t 0)) id h) := by
   unfold sortJ;simp only [h1];rw [Zca] at h3 ⊢;simp only [Zba, Zat, Zab (Zaf n), Zab hn, Bool.and_self, cond_true, h3, intsA_map]
  rw [e]
 ·refine H.upd hk (by simp [Ob.names]) rfl ⟨_, T.get_set_same .., hsl, ?_⟩;have := uX t [] ((srt l).map I) 0 rfl;rw [Zat, List.nil_append, hsl] at this;exact this
def uK (R : List (Pa × List Int)) : List AV := R.map fun p => .sl p.1 0 p.2.length none 1
def objR (R : List (Pa × List Int)) : List Ob := R.map fun p => .gro (some p.1) 1 p.2.length (p.2.map I)
theorem Hp.frzRows {R : List (Pa × List Int)} {o : Option Pa} {h0 h : T Blk} {nx : Pa} {L : List Ob} {k : Nat} (H : Hp h0 h nx L) (hk : L[k]? = some (.gro o 1 R.length (uK R))) (hR : ∀ x ∈ objR R, x ∈ L) : FrzN h0 h (jm o 1 R.length) (encT (R.map (·.2))) := by
 have own := H.own _ (Zaa hk);have hoff := H.off;have hlen : (R.map (·.2)).length = R.length := Zar _;cases o with
 | none =>
  obtain ⟨h1, h2⟩ := own;have : R = [] := Zaz (by omega);subst this;exact .lnils 1
 | some id =>
  obtain ⟨t, h1, h2, h3⟩ := own;show FrzN h0 h (jm (some id) 1 R.length) (.lst 1 (R.map (·.2)).length ((R.map (·.2)).map encI));rw [hlen];refine .sl _ _ _ _ _ true _ t _ (hoff id (List.mem_flatMap.2 ⟨_, Zaa hk, by simp [Ob.names]⟩)) trivial h1 (by omega) (by simp) (scal_T _) fun i v hi => ?_;rw [List.map_map, List.getElem?_map] at hi;cases hq : R[i]? with
  | none => rw [hq] at hi; cases hi
  | some p =>
   rw [hq] at hi;have hi := Option.some.inj hi;subst hi;have hil := (List.getElem?_eq_some_iff.1 hq).1;have := zV t 0 (R.length * 1) i (by omega);rw [h3, uK, List.getElem?_map, hq] at this;rw [<- Option.some.inj this];obtain ⟨k', hk'⟩ := List.getElem?_of_mem (hR _ (List.mem_map.2 ⟨p, Zaa hq, rfl⟩));exact H.frzGro hk' fun v hv => by obtain ⟨a, _, rfl⟩ := List.mem_map.1 hv; rfl
def gQ (G : List Sym) (n i j : Nat) : List AV := (List.range n).map fun x => .bool (hadB G i x || decide ((x : Int) ∈ je (G.take j) i))
theorem wB {G : List Sym} {n i j x : Nat} (hx : x < n) : (gQ G n i j)[x]? = some (.bool (hadB G i x || decide ((x : Int) ∈ je (G.take j) i))) := by
 rw [gQ, List.getElem?_map, List.getElem?_range hx]; rfl
theorem wA {G : List Sym} {n i j : Nat} : (gQ G n i j).length = n := by simp [gQ]
theorem xT {G : List Sym} {i j : Nat} {g : Sym} (hg : G[j]? = some g) : je (G.take (j + 1)) i = je (G.take j) i ++ [atG g i] := by
 unfold je; rw [Zas, hg, Zbd]; rfl
theorem hadL2_set {G : List Sym} {n i j : Nat} {g : Sym} (hg : G[j]? = some g) (h0 : 0 <= atG g i) : (gQ G n i j).set (atG g i).toNat (.bool true) = gQ G n i (j + 1) := by
 apply Zau;intro x;by_cases hx : x < n
 ·rw [wB hx, List.getElem?_set, wA, xT hg];by_cases e : (atG g i).toNat = x
  ·subst e;rw [if_pos rfl, if_pos hx, decide_eq_true (by rw [Zap]; right; rw [Int.toNat_of_nonneg h0]; simp), Bool.or_true]
  ·rw [if_neg e, wB hx];have : ((x : Int) ∈ je (G.take j) i ++ [atG g i]) ↔ (x : Int) ∈ je (G.take j) i := by
    rw [Zap, Zay];constructor
    ·rintro (q | q)
     ·exact q
     ·exact absurd (by omega) e
    ·exact .inl
   rw [decide_eq_decide.2 this]
 ·rw [List.getElem?_eq_none (by rw [List.length_set, wA]; omega), List.getElem?_eq_none (by rw [wA]; omega)]
theorem hadL2_same {G : List Sym} {n i j : Nat} {g : Sym} (hg : G[j]? = some g) (h : atG g i ∈ je (G.take j) i) : gQ G n i (j + 1) = gQ G n i j := by
 unfold gQ;refine Zbt fun x _ => ?_;rw [xT hg];have : ((x : Int) ∈ je (G.take j) i ++ [atG g i]) ↔ (x : Int) ∈ je (G.take j) i := by
  rw [Zap, Zay];constructor
  ·rintro (q | q)
   ·exact q
   ·rw [q]; exact h
  ·exact .inl
 rw [decide_eq_decide.2 this]
theorem hadB_eq {G : List Sym} {i x i' x' : Nat} (h : hadC G i x ↔ hadC G i' x') : hadB G i x = hadB G i' x' := by
 cases c : hadB G i x with
 | true => exact (ku.2 (h.1 (ku.1 c))).symm
 | false =>
  cases c' : hadB G i' x' with
  | true => rw [ku.2 (h.2 (ku.1 c'))] at c; cases c
  | false => rfl
theorem hadL2_next {G : List Sym} {n i : Nat} : gQ G n i G.length = gQ G n (i + 1) 0 := by
 unfold gQ;refine Zbt fun x _ => ?_;rw [Zaq (Zaf _), List.take_zero]
 congr 1
 have e2 : decide ((x : Int) ∈ je [] (i + 1)) = false := rfl;rw [e2, Bool.or_false];cases c : hadB G (i + 1) x with
 | true =>
  rcases had_succ.1 (ku.1 c) with q | q
  ·rw [ku.2 q, Bool.true_or]
  ·rw [decide_eq_true q, Bool.or_true]
 | false =>
  have hn : ¬ hadC G (i + 1) x := fun q => by rw [ku.2 q] at c; cases c
  have h1 : hadB G i x = false := by
   cases q : hadB G i x with
   | false => rfl
   | true => exact absurd (had_succ.2 (.inl (ku.1 q))) hn
  rw [h1, decide_eq_false fun q => hn (had_succ.2 (.inr q))]; rfl
theorem hadL2_skip {G : List Sym} {n i : Nat} (ok : qw G n) (hi : i < n) (h : hadB G i i = true) : gQ G n (i + 1) 0 = gQ G n i 0 := by
 unfold gQ;refine Zbt fun x _ => ?_;rw [hadB_eq (had_skip ok hi (ku.1 h) x)]; rfl
def celV (G : List Sym) (n : Int) : AV := if yQ G n ≠ 0 then .tup [.zf, I (yQ G n)] else .tup [encT (qD G n.toNat n.toNat), I 0]
theorem cellOrbits21 {G : List Sym} {n : Int} (hG : G.length <= 100000) (hw : ∀ g ∈ G, g.1.length <= 100000) : Pure Tryz.prog B 21 [yw G, I n] (· = celV G n) := by
 refine yP fun h nx K H0 hK => zS zX yg 10000000 fun hf' => ?_;rw [F21.go, F21.t53, zA, F21.t0_s, F21.t52, zA, F21.t7, zA, F21.t1_s];refine gY hG hw _ _ _ _ ?_;rintro _ rfl _;rw [F21.t6, zA, F21.t2_s, qm, F21.t5, zI, F21.v11];by_cases c : yQ G n = 0
 case neg =>
  rw [decide_eq_false c, Zaj, zD, F21.t4, zA, F21.t3_s];simp only [yJ, jA];rw [F21.ret];exact hK _ _ _ _ _ H0 (u7 (zH rfl) (zH rfl)) (by rw [celV, if_pos c])
 obtain ⟨n', rfl, ok⟩ := pT c;have hn := ok.n256;have hgl := ok.len;rw [decide_eq_true c, Zai, zE, zQ, F21.t51, zA, F21.t8_s, F21.t50, zA, F21.t9_s];refine H0.mk1 (z := .bool false) n' rfl rfl (by omega) (by decide) fun bd h1 nx1 H1 => ?_;refine H1.alloc fun b6 h2 nx2 H2 => ?_;refine H2.store (k := 0) rfl (by simp) rfl fun h3 H3 => ?_;rw [F21.t49, zA, F21.t46, zA, F21.t10_s, F21.t45, zZ];have eb : List.replicate n' (AV.bool false) = gQ G n' 0 0 := by
  apply Zau;intro x;by_cases hx : x < n'
  ·rw [wB hx, List.getElem?_replicate, if_pos hx]; rfl
  ·rw [List.getElem?_eq_none (by simp; omega), List.getElem?_eq_none (by rw [wA]; omega)]
 rw [eb] at H3;refine F21.t44_L (fun m x5 x9 x10 x13 x17 x18 x19 h' nx' => ∃ (i : Nat) (o : Option Pa) (R : List (Pa × List Int)), x13 = I i /\ x5 = jm o 1 R.length /\ m = n' - i /\ i <= n' /\ R.map (·.2) = qD G n' i /\ Hp h h' nx' (.gro o 1 R.length (uK R) :: .arr b6 [.sl bd 0 n' (some n') 1] :: .arr bd (gQ G n' i 0) :: objR R)) (m := n') (by omega) ⟨0, none, [], rfl, rfl, by omega, by omega, rfl, H3.addGro 1⟩ ?_;rintro m z5 z7 z8 z9 z10 z13 z14 z15 z16 z17 z18 z19 h4 nx4 Rt ⟨i, o, R, rfl, rfl, rfl, hi, hRo, H4⟩ hR;have hRl : R.length <= i := by have := pN (G := G) (n := n') i; rw [<- hRo, Zar] at this; exact this
 rw [F21.t43, zA, F21.t11_s, qi];by_cases hlt : i < n'
 case neg =>
  rw [decide_eq_false (by omega), F21.t42, zA, F21.t12, zI, F21.v14, zE, jH, gN, F21.t48, zA, F21.t47_s];simp only [yJ, jA];rw [F21.ret];obtain rfl : i = n' := by omega
  refine hK _ _ _ _ _ H4 (u7 (H4.frzRows (k := 0) rfl fun x hx => by simp [hx]) (zH rfl)) ?_;rw [celV, if_neg (fun q => q c), hRo]; rfl
 rw [decide_eq_true (by omega), F21.t42, zA, F21.t12, zI, F21.v14, zD, zQ, F21.t41, zA, F21.t39, zZ, F21.t38, zA, F21.t13_s];refine H4.alloc fun b7 h5 nx5 H5 => ?_;refine H5.store (k := 0) rfl (by simp) rfl fun h6 H6 => ?_;have hg0 := wB (G := G) (i := i) (j := 0) hlt;have eg : (hadB G i i || decide ((i : Int) ∈ je (G.take 0) i)) = hadB G i i := by
  have e2 : decide ((i : Int) ∈ je (G.take 0) i) = false := rfl;rw [e2, Bool.or_false]
 rw [eg] at hg0;rw [F21.t37, zA, F21.t16, zA, F21.t14_s, H6.load (k := 2) (i := 0) rfl rfl, H6.load (k := 0) (i := 0) rfl rfl, sIx rfl hlt, H6.load (k := 3) rfl hg0, F21.t15, zI, F21.v15];cases hh : hadB G i i with
 | true =>
  rw [zD, jH, gN, F21.t40_s, qp (by omega)];refine hR (n' - (i + 1)) _ _ _ _ _ _ _ _ _ _ _ _ _ _ (by omega) ⟨i + 1, o, R, rfl, rfl, rfl, by omega, by rw [qD, if_pos hh, hRo], ?_⟩;rw [hadL2_skip ok hlt hh];exact H6.drop
 | false =>
 have hnh : ¬ hadC G i i := fun q => by rw [ku.2 q] at hh; cases hh
 rw [zE, zQ, F21.t36, zA, F21.t17_s];refine H6.alloc fun b8 h7 nx7 H7 => ?_;rw [F21.t35, zA, F21.t31, zA, F21.t18_s];refine all185 _ _ _ _ ?_;rintro _ rfl _;rw [F21.t30, zZ, F21.t29];have H8 := H7.addGro 1;have hdl : ∀ j, (ddC (je (G.take j) i)).length <= n' := fun j => by
  have := lenG (ddC_nodup (je (G.take j) i)) (r := (List.range n').map fun k : Nat => (k : Int)) fun x hx => by
   obtain ⟨g, hg, rfl⟩ := List.mem_map.1 (mem_ddC.1 hx);obtain ⟨a1, a2⟩ := at_lt ok (List.mem_of_mem_take hg) hlt;exact List.mem_map.2 ⟨(atG g i).toNat, List.mem_range.2 (by omega), by omega⟩
  simpa using this
 refine rfAll H8 F21.t29_f (fun v w k => F21.t29_b k) (by omega)
  (fun j L' => ∃ o8, L' = .gro o8 1 (ddC (je (G.take j) i)).length ((ddC (je (G.take j) i)).map I) :: .arr b8 [jm o8 1 (ddC (je (G.take j) i)).length] :: .arr b7 [I i] :: .gro o 1 R.length (uK R) :: .arr b6 [.sl bd 0 n' (some n') 1] :: .arr bd (gQ G n' i j) :: objR R)
  (fun _ => False) (fun _ _ => False) ⟨none, rfl⟩
  (fun j x Rb Rb' h10 nx10 L' M E O1 O2 hx hJ H10 hM hE hR2 hX => ?_) (fun h10 nx10 L' hJ H10 => ?_) (fun _ _ _ hX _ => hX.elim) (fun _ _ _ _ hX _ => hX.elim)
 ·obtain ⟨o8, rfl⟩ := hJ;have hxm := Zaa hx;have hdp := ok.dp x hxm;obtain ⟨a1, a2⟩ := at_lt ok hxm hlt;have hxi : x.1[i]? = some (atG x i) := (hdp.1.get hlt).1;have hxl : i < x.1.length := by rw [hdp.1.1]; exact hlt
  have htn : ((atG x i).toNat : Int) = atG x i := Int.toNat_of_nonneg a1;rw [F21.t19_s];refine H10.alloc fun b9 h11 nx11 H11 => ?_;refine H11.gy (k := 0) (n := 2) rfl rfl rfl fun h12 H12 => ?_;refine hM _ _ _ [_] H12 fun h13 H13 => ?_;have hgj := wB (G := G) (i := i) (j := j) (x := (atG x i).toNat) (n := n') (by omega);have hnx : hadB G i (atG x i).toNat = false := by
   cases q : hadB G i (atG x i).toNat with
   | false => rfl
   | true => exact absurd (ku.1 q) (had_new ok hlt hnh (by rw [htn]; exact List.mem_map.2 ⟨x, hxm, rfl⟩))
  rw [hnx, Bool.false_or, htn] at hgj;rw [F21.t28, zZ, F21.t27, zA, F21.t20_s, sFx, H13.load (k := 0) (i := 0 + 0) rfl rfl, H13.load (k := 4) (i := 0) rfl rfl, mV rfl hxl, ldL (getI hxi), F21.t26, zA, F21.t21_s, H13.load (k := 6) (i := 0) rfl rfl, sIx htn.symm (by omega), H13.load (k := 7) rfl hgj, y5, F21.t25, zI, F21.v19];have hsn := ddC_snoc (je (G.take j) i) (atG x i);rw [<- xT hx] at hsn;by_cases d : atG x i ∈ je (G.take j) i
  ·rw [if_pos (mem_ddC.2 d)] at hsn;rw [decide_eq_true d, Zai, zE, zQ];exact hE _ _ _ [_] _ ⟨o8, by rw [hsn, hadL2_same hx d]⟩ H13
  ·rw [if_neg (fun q => d (mem_ddC.1 q))] at hsn;rw [decide_eq_false d, Zaj, zD, F21.t24, zA, F21.t22_s, H13.load (k := 6) (i := 0) rfl rfl, sIx htn.symm (by omega)];refine H13.store (k := 7) rfl (by rw [wA]; omega) rfl fun h14 H14 => ?_;rw [F21.t23_s, H14.load (k := 3) (i := 0) rfl rfl];refine H14.zy (l := [I (atG x i)]) rfl fun tb h15 nx15 H15 => ?_;refine H15.appN (k := 3) (o := o8) (c := 1) (esz := 1) (new := [I (atG x i)]) rfl (yu.rd (l := [I (atG x i)]) (n := 1) (e := 1) (H15.own _ (Zag ..)) rfl) rfl rfl (by decide) (by decide) (by have := hdl j; omega) fun o'' h16 nx16 _ H16 => ?_;refine H16.store (k := 4) rfl (by simp) (uB _ _ _) fun h17 H17 => ?_;refine hE _ _ _ [_, _] _ ⟨o'', ?_⟩ H17;rw [hsn, Zaw, Zbd, <- hadL2_set hx a1]
   rfl
 ·obtain ⟨o8, rfl⟩ := hJ;rw [Zaq (Zaf _)] at H10;have hself : (i : Int) ∈ ddC (je G i) := mem_ddC.2 (img_self ok hlt);have hpos := List.length_pos_of_mem hself;have hdl' := hdl G.length;rw [Zaq (Zaf _)] at hdl';obtain ⟨id, rfl⟩ : ∃ id, o8 = some id := by
   cases o8 with
   | some id => exact ⟨id, rfl⟩
   | none => obtain ⟨h1, h2⟩ := H10.own _ (Zag ..); omega
  have hsl := (wV (ddC (je G i))).length_eq;rw [F21.t34, zA, F21.t32_s, H10.load (k := 1) (i := 0) rfl rfl];refine sort91g H10 (k := 0) rfl (by omega) fun h11 H11 => ?_;rw [F21.t33_s, H11.load (k := 1) (i := 0) rfl rfl];refine H11.zy (l := [jm (some id) 1 (ddC (je G i)).length]) rfl fun tb h15 nx15 H15 => ?_;refine H15.appN (k := 4) (o := o) (c := 1) (esz := 1) (new := [jm (some id) 1 (ddC (je G i)).length]) rfl (yu.rd (l := [jm (some id) 1 (ddC (je G i)).length]) (n := 1) (e := 1) (H15.own _ (Zag ..)) rfl) rfl rfl (by decide) (by decide) (by omega) fun o'' h16 nx16 _ H16 => ?_;rw [F21.t40_s, qp (by omega)];rw [hadL2_next] at H16;have e1 : R.length + 1 = (R ++ [(id, srt (ddC (je G i)))]).length := by simp
  have e2 : uK R ++ [jm (some id) 1 (ddC (je G i)).length] = uK (R ++ [(id, srt (ddC (je G i)))]) := by
   unfold uK; rw [Zbd, <- hsl]; rfl
  refine hR (n' - (i + 1)) _ _ _ _ _ _ _ _ _ _ _ _ _ _ (by omega) ⟨i + 1, o'', R ++ [(id, srt (ddC (je G i)))], rfl, by rw [e1], rfl, by omega, ?_, ?_⟩
  ·rw [qD, if_neg (by rw [hh]; decide), Zbd, hRo, <- orbC_srt ok hlt]; rfl
  ·rw [<- e1, <- e2];have e3 : objR (R ++ [(id, srt (ddC (je G i)))]) = objR R ++ [.gro (some id) 1 (ddC (je G i)).length ((srt (ddC (je G i))).map I)] := by
    unfold objR; rw [Zbd, <- hsl]; rfl
   rw [e3];have H17 : Hp h h16 nx16 (.arr tb [jm (some id) 1 (ddC (je G i)).length] :: .gro (some id) 1 (ddC (je G i)).length ((srt (ddC (je G i))).map I) :: .arr b8 [jm (some id) 1 (ddC (je G i)).length] :: .arr b7 [I i] :: .gro o'' 1 (R.length + 1) (uK R ++ [jm (some id) 1 (ddC (je G i)).length]) :: .arr b6 [.sl bd 0 n' (some n') 1] :: .arr bd (gQ G n' (i + 1) 0) :: objR R) := H16;have H18 := H17.drop;have hp : (Ob.gro (some id) 1 (ddC (je G i)).length ((srt (ddC (je G i))).map I) :: .arr b8 [jm (some id) 1 (ddC (je G i)).length] :: .arr b7 [I i] :: .gro o'' 1 (R.length + 1) (uK R ++ [jm (some id) 1 (ddC (je G i)).length]) :: .arr b6 [.sl bd 0 n' (some n') 1] :: .arr bd (gQ G n' (i + 1) 0) :: objR R).Perm ((Ob.arr b8 [jm (some id) 1 (ddC (je G i)).length] :: .arr b7 [I i] :: .gro o'' 1 (R.length + 1) (uK R ++ [jm (some id) 1 (ddC (je G i)).length]) :: .arr b6 [.sl bd 0 n' (some n') 1] :: .arr bd (gQ G n' (i + 1) 0) :: objR R) ++ [Ob.gro (some id) 1 (ddC (je G i)).length ((srt (ddC (je G i))).map I)]) := by
    have := List.perm_append_comm (l₁ := [Ob.gro (some id) 1 (ddC (je G i)).length ((srt (ddC (je G i))).map I)]) (l₂ := (Ob.arr b8 [jm (some id) 1 (ddC (je G i)).length] :: .arr b7 [I i] :: .gro o'' 1 (R.length + 1) (uK R ++ [jm (some id) 1 (ddC (je G i)).length]) :: .arr b6 [.sl bd 0 n' (some n') 1] :: .arr bd (gQ G n' (i + 1) 0) :: objR R));exact this
   exact (H18.perm hp).drop.drop
theorem heavyB_no {G : List Sym} {n : Int} (h : vT G n = false) : (G.length : Int) <= n /\ ∀ g ∈ G, g.1.length <= 16 := by
 simp only [vT, Bool.or_eq_false_iff, decide_eq_false_iff_not, List.any_eq_false, decide_eq_true_eq] at h;exact ⟨by omega, fun g hg => by have := h.2 g hg; omega⟩
def rL (p : Nat -> Bool) (l : List Int) (n : Nat) : List AV := (List.range n).map fun x => .bool (p x || decide ((x : Int) ∈ l))
theorem rL_get {p : Nat -> Bool} {l : List Int} {n x : Nat} (hx : x < n) : (rL p l n)[x]? = some (.bool (p x || decide ((x : Int) ∈ l))) := by
 rw [rL, List.getElem?_map, List.getElem?_range hx]; rfl
theorem pJ {p : Nat -> Bool} {l : List Int} {n : Nat} : (rL p l n).length = n := by simp [rL]
theorem rL_set {p : Nat -> Bool} {l : List Int} {n y : Nat} : (rL p l n).set y (.bool true) = rL p (l ++ [(y : Int)]) n := by
 apply Zau;intro x;by_cases hx : x < n
 ·rw [rL_get hx, List.getElem?_set, pJ];by_cases e : y = x
  ·subst e;rw [if_pos rfl, if_pos hx, decide_eq_true (by simp), Bool.or_true]
  ·rw [if_neg e, rL_get hx];have : ((x : Int) ∈ l ++ [(y : Int)]) ↔ (x : Int) ∈ l := by
    rw [Zap, Zay];constructor
    ·rintro (q | q)
     ·exact q
     ·exact absurd (by omega) e
    ·exact .inl
   rw [decide_eq_decide.2 this]
 ·rw [List.getElem?_eq_none (by rw [List.length_set, pJ]; omega), List.getElem?_eq_none (by rw [pJ]; omega)]
theorem rL_zero (n : Nat) : List.replicate n (AV.bool false) = rL (fun _ => false) [] n := by
 apply Zau;intro x;by_cases hx : x < n
 ·rw [rL_get hx, List.getElem?_replicate, if_pos hx]; rfl
 ·rw [List.getElem?_eq_none (by simp; omega), List.getElem?_eq_none (by rw [pJ]; omega)]
def orbP (G : List Sym) (i k : Nat) : List Int := ((List.range k).filter fun k : Nat => decide ((k : Int) ∈ je G i)).map fun k : Nat => (k : Int)
theorem orbP_succ {G : List Sym} {i k : Nat} : orbP G i (k + 1) = if (k : Int) ∈ je G i then orbP G i k ++ [(k : Int)] else orbP G i k := by
 unfold orbP;rw [List.range_succ, List.filter_append];by_cases c : (k : Int) ∈ je G i
 ·rw [if_pos c, List.filter_cons_of_pos (p := fun k : Nat => decide ((k : Int) ∈ je G i)) (decide_eq_true c), Zbd]; rfl
 ·rw [if_neg c, List.filter_cons_of_neg (p := fun k : Nat => decide ((k : Int) ∈ je G i)) (by rw [decide_eq_false c]; decide)]; simp
theorem orbP_len (G : List Sym) (i k : Nat) : (orbP G i k).length <= k := by
 unfold orbP;have := List.length_filter_le (fun k : Nat => decide ((k : Int) ∈ je G i)) (List.range k);rw [Zar]; simpa using this
theorem rL_orb {G : List Sym} {n i : Nat} (ok : qw G n) (hi : i < n) : rL (hadB G i) (orbC G n i) n = rL (hadB G (i + 1)) [] n := by
 unfold rL;refine Zbt fun x _ => ?_
 congr 1
 have e2 : decide ((x : Int) ∈ ([] : List Int)) = false := rfl;rw [e2, Bool.or_false, decide_eq_decide.2 (orbC_mem ok hi (x : Int))];cases c : hadB G (i + 1) x with
 | true =>
  rcases had_succ.1 (ku.1 c) with q | q
  ·rw [ku.2 q, Bool.true_or]
  ·rw [decide_eq_true q, Bool.or_true]
 | false =>
  have hn : ¬ hadC G (i + 1) x := fun q => by rw [ku.2 q] at c; cases c
  have h1 : hadB G i x = false := by
   cases q : hadB G i x with
   | false => rfl
   | true => exact absurd (had_succ.2 (.inl (ku.1 q))) hn
  rw [h1, decide_eq_false fun q => hn (had_succ.2 (.inr q))]; rfl
theorem rL_skip {G : List Sym} {n i : Nat} (ok : qw G n) (hi : i < n) (h : hadB G i i = true) : rL (hadB G (i + 1)) [] n = rL (hadB G i) [] n := by
 unfold rL;refine Zbt fun x _ => ?_;rw [hadB_eq (had_skip ok hi (ku.1 h) x)]
theorem cellOrbits24 {G : List Sym} {n : Nat} (ok : qw G n) : Pure Tryz.prog B 24 [yw G, I n] (· = encT (qD G n n)) := by
 refine yP fun h nx K H0 hK => zS zX yg 10000000 fun hf' => ?_;have hn := ok.n256;have hgl := ok.len;rw [F24.go, F24.t59, zA, F24.t0_s, F24.t58, zA, F24.t1_s, F24.t57, zA, F24.t2_s];refine H0.mk1 (z := .bool false) n rfl rfl (by omega) (by decide) fun bd h1 nx1 H1 => ?_;rw [F24.t56, zA, F24.t53, zA, F24.t3_s, F24.t52, zZ];have eb : List.replicate n (AV.bool false) = rL (hadB G 0) [] n := rL_zero n;rw [eb] at H1;refine F24.t51_L (fun m x3 x5 h' nx' => ∃ (i : Nat) (o : Option Pa) (R : List (Pa × List Int)), x5 = I i /\ x3 = jm o 1 R.length /\ m = n - i /\ i <= n /\ R.map (·.2) = qD G n i /\ Hp h h' nx' (.gro o 1 R.length (uK R) :: .arr bd (rL (hadB G i) [] n) :: objR R)) (m := n) (by omega) ⟨0, none, [], rfl, rfl, by omega, by omega, rfl, H1.addGro 1⟩ ?_;rintro m z3 z5 z6 z7 z8 z9 z10 z11 z12 z13 z14 h4 nx4 Rt ⟨i, o, R, rfl, rfl, rfl, hi, hRo, H4⟩ hR;have hRl : R.length <= i := by have := pN (G := G) (n := n) i; rw [<- hRo, Zar] at this; exact this
 rw [F24.t50, zA, F24.t6, zA, F24.t4_s, qi];by_cases hlt : i < n
 case neg =>
  rw [decide_eq_false (by omega), F24.t5, zI, F24.v10, zE, jH, gN, F24.t55, zA, F24.t54_s];simp only [yJ, jA];rw [F24.ret];obtain rfl : i = n := by omega
  exact hK _ _ _ _ _ H4 (H4.frzRows (k := 0) rfl fun x hx => by simp [hx]) (by rw [hRo])
 have hg0 := rL_get (p := hadB G i) (l := []) hlt;have eg : (hadB G i i || decide ((i : Int) ∈ ([] : List Int))) = hadB G i i := by
  have e2 : decide ((i : Int) ∈ ([] : List Int)) = false := rfl;rw [e2, Bool.or_false]
 rw [eg] at hg0;rw [decide_eq_true (by omega), F24.t5, zI, F24.v10, zD, zQ, F24.t49, zA, F24.t47, zZ, F24.t46, zA, F24.t9, zA, F24.t7_s, sIx rfl hlt, H4.load (k := 1) rfl hg0, F24.t8, zI, F24.v11];cases hh : hadB G i i with
 | true =>
  rw [zD, jH, gN, F24.t48_s, qp (by omega)];refine hR (n - (i + 1)) _ _ _ _ _ _ _ _ _ _ _ _ _ (by omega) ⟨i + 1, o, R, rfl, rfl, rfl, by omega, by rw [qD, if_pos hh, hRo], ?_⟩;rw [rL_skip ok hlt hh];exact H4
 | false =>
 have hnh : ¬ hadC G i i := fun q => by rw [ku.2 q] at hh; cases hh
 rw [zE, zQ, F24.t45, zA, F24.t10_s];refine H4.mk1 (z := .bool false) n rfl rfl (by omega) (by decide) fun bv h5 nx5 H5 => ?_;rw [rL_zero] at H5;rw [F24.t44, zA, F24.t22, zA, F24.t11_s, F24.t21, zZ];refine F24.t20_L (fun m x7 h' nx' => ∃ j : Nat, x7 = I j /\ m = G.length - j /\ j <= G.length /\ Hp h h' nx' (.arr bv (rL (fun _ => false) (je (G.take j) i) n) :: .gro o 1 R.length (uK R) :: .arr bd (rL (hadB G i) [] n) :: objR R)) (m := G.length) (by omega) ⟨0, rfl, by omega, by omega, H5⟩ ?_;rintro m y7 y12 h6 nx6 Rt2 ⟨j, rfl, rfl, hj, H6⟩ hR2;rw [F24.t19, zA, F24.t14, zA, F24.t12_s, zG, qi];by_cases hlj : j < G.length
 case pos =>
  have hx : G[j]? = some G[j] := List.getElem?_eq_getElem hlj;have hxm := Zao hlj;have hdp := ok.dp _ hxm;obtain ⟨a1, a2⟩ := at_lt ok hxm hlt;have hxi : G[j].1[i]? = some (atG G[j] i) := (hdp.1.get hlt).1;have hxl : i < G[j].1.length := by rw [hdp.1.1]; exact hlt
  have htn : ((atG G[j] i).toNat : Int) = atG G[j] i := Int.toNat_of_nonneg a1;have e0 : ∀ (a b : AV) (l : List AV) (op : AV -> OP), zP 0 (.fp (a :: b :: l)) op = op (.fp (a :: b :: l)) := fun a b l op => nr rfl;rw [decide_eq_true (by omega), F24.t13, zI, F24.v12, zD, zQ, F24.t18, zA, F24.t16, zZ, F24.t15_s, mV rfl hlj, jB hlj, e0, sLoad_fp, mV rfl hxl, ldL (getI hxi), sIx htn.symm (by omega)];refine H6.store (k := 0) rfl (by rw [pJ]; omega) rfl fun h7 H7 => ?_;rw [F24.t17_s, qp (by omega)];refine hR2 (G.length - (j + 1)) _ _ _ _ (by omega) ⟨j + 1, rfl, rfl, by omega, ?_⟩;have e := rL_set (p := fun _ => false) (l := je (G.take j) i) (n := n) (y := (atG G[j] i).toNat);rw [htn, <- xT hx] at e;rw [<- e];exact H7
 obtain rfl : j = G.length := by omega
 rw [Zaq (Zaf _)] at H6;rw [decide_eq_false (by omega), F24.t13, zI, F24.v12, zE, jH, gN, F24.t43, zA, F24.t23_s, F24.t42, zA, F24.t40, zA, F24.t24_s, F24.t39, zZ];have H7 : Hp h h6 nx6 (.gro none 1 0 [] :: .arr bv (rL (fun _ => false) (je G i) n) :: .gro o 1 R.length (uK R) :: .arr bd (rL (hadB G i) [] n) :: objR R) := H6.addGro 1;refine F24.t38_L (fun m x8 x9 h' nx' => ∃ (k : Nat) (o8 : Option Pa), x9 = I k /\ x8 = jm o8 1 (orbP G i k).length /\ m = n - k /\ k <= n /\ Hp h h' nx' (.gro o8 1 (orbP G i k).length ((orbP G i k).map I) :: .arr bv (rL (fun _ => false) (je G i) n) :: .gro o 1 R.length (uK R) :: .arr bd (rL (hadB G i) (orbP G i k) n) :: objR R)) (m := n) (by omega) ⟨0, none, rfl, rfl, by omega, by omega, H7⟩ ?_;rintro m w8 w9 w13 w14 h8 nx8 Rt3 ⟨k, o8, rfl, rfl, rfl, hk, H8⟩ hR3;rw [F24.t37, zA, F24.t27, zA, F24.t25_s, qi];by_cases hlk : k < n
 case pos =>
  have hg1 := rL_get (p := fun _ => false) (l := je G i) hlk;rw [Bool.false_or] at hg1;have hps := orbP_succ (G := G) (i := i) (k := k);rw [decide_eq_true (by omega), F24.t26, zI, F24.v13, zD, zQ, F24.t36, zA, F24.t34, zZ, F24.t33, zA, F24.t28_s, sIx rfl hlk, H8.load (k := 1) rfl hg1, F24.t32, zI, F24.v14];by_cases d : (k : Int) ∈ je G i
  ·rw [if_pos d] at hps;rw [decide_eq_true d, zD, F24.t31, zA, F24.t29_s];refine H8.zy (l := [I (k : Int)]) rfl fun tb h15 nx15 H15 => ?_;refine H15.appN (k := 1) (o := o8) (c := 1) (esz := 1) (new := [I (k : Int)]) rfl (yu.rd (l := [I (k : Int)]) (n := 1) (e := 1) (H15.own _ (Zag ..)) rfl) rfl rfl (by decide) (by decide) (by have := orbP_len G i k; omega) fun o'' h16 nx16 _ H16 => ?_;have H17 := H16.drop;rw [F24.t30_s, sIx rfl hlk];refine H17.store (k := 3) rfl (by rw [pJ]; omega) rfl fun h18 H18 => ?_;rw [F24.t35_s, qp (by omega)];have e1 : (orbP G i k).length + 1 = (orbP G i (k + 1)).length := by rw [hps, Zaw]; rfl
   refine hR3 (n - (k + 1)) _ _ _ _ _ _ (by omega) ⟨k + 1, o'', rfl, by rw [e1], rfl, by omega, ?_⟩;rw [<- e1];have e2 : (orbP G i (k + 1)).map I = (orbP G i k).map I ++ [I (k : Int)] := by rw [hps, Zbd]; rfl
   have e3 : rL (hadB G i) (orbP G i (k + 1)) n = (rL (hadB G i) (orbP G i k) n).set k (.bool true) := by rw [rL_set, hps]
   rw [e2, e3];exact H18
  ·rw [if_neg d] at hps;rw [decide_eq_false d, zE, zQ, F24.t35_s, qp (by omega)];exact hR3 (n - (k + 1)) _ _ _ _ _ _ (by omega) ⟨k + 1, o8, rfl, by rw [hps], rfl, by omega, by rw [hps]; exact H8⟩
 obtain rfl : k = n := by omega
 have eo : orbP G i k = orbC G k i := rfl;rw [eo] at H8 ⊢;rw [rL_orb ok hlt] at H8;rw [decide_eq_false (by omega), F24.t26, zI, F24.v13, zE, jH, gN];have hpos := List.length_pos_of_mem ((orbC_mem ok hlt (i : Int)).2 (img_self ok hlt));obtain ⟨id, rfl⟩ : ∃ id, o8 = some id := by
  cases o8 with
  | some id => exact ⟨id, rfl⟩
  | none => obtain ⟨h1, h2⟩ := H8.own _ (Zag ..); omega
 rw [F24.t41_s];refine H8.zy (l := [jm (some id) 1 (orbC G k i).length]) rfl fun tb h15 nx15 H15 => ?_;refine H15.appN (k := 3) (o := o) (c := 1) (esz := 1) (new := [jm (some id) 1 (orbC G k i).length]) rfl (yu.rd (l := [jm (some id) 1 (orbC G k i).length]) (n := 1) (e := 1) (H15.own _ (Zag ..)) rfl) rfl rfl (by decide) (by decide) (by omega) fun o'' h16 nx16 _ H16 => ?_;rw [F24.t48_s, qp (by omega)];have e1 : R.length + 1 = (R ++ [(id, orbC G k i)]).length := by simp
 have e2 : uK R ++ [jm (some id) 1 (orbC G k i).length] = uK (R ++ [(id, orbC G k i)]) := by
  unfold uK; rw [Zbd]; rfl
 refine hR (k - (i + 1)) _ _ _ _ _ _ _ _ _ _ _ _ _ (by omega) ⟨i + 1, o'', R ++ [(id, orbC G k i)], rfl, by rw [e1], rfl, by omega, ?_, ?_⟩
 ·rw [qD, if_neg (by rw [hh]; decide), Zbd, hRo]; rfl
 ·rw [<- e1, <- e2];have e3 : objR (R ++ [(id, orbC G k i)]) = objR R ++ [.gro (some id) 1 (orbC G k i).length ((orbC G k i).map I)] := by
   unfold objR; rw [Zbd]; rfl
  rw [e3];have H17 : Hp h h16 nx16 (.arr tb [jm (some id) 1 (orbC G k i).length] :: .gro (some id) 1 (orbC G k i).length ((orbC G k i).map I) :: .arr bv (rL (fun _ => false) (je G i) k) :: .gro o'' 1 (R.length + 1) (uK R ++ [jm (some id) 1 (orbC G k i).length]) :: .arr bd (rL (hadB G (i + 1)) [] k) :: objR R) := H16;have H18 := H17.drop;have hp := List.perm_append_comm (l₁ := [Ob.gro (some id) 1 (orbC G k i).length ((orbC G k i).map I)]) (l₂ := (Ob.arr bv (rL (fun _ => false) (je G i) k) :: .gro o'' 1 (R.length + 1) (uK R ++ [jm (some id) 1 (orbC G k i).length]) :: .arr bd (rL (hadB G (i + 1)) [] k) :: objR R));exact (H18.perm hp).drop
theorem law3 {G : List Sym} {n : Int} (haw : ∀ {B}, Pure Tryz.prog B 18 [] (· = .bool true)) : Pure Tryz.prog B 3 [yw G, I n] (· = .bool true) := by
 refine yP fun h nx K H0 hK => zS zX yg 1000 fun hf => ?_;have awk : ∀ (h : T Blk) (nx : Pa) (Z : Kw Prop), Z (.bool true) h nx = .ok True -> (CS Tryz.prog B).fn 18 (.of 18) [] h nx Z = .ok True := fun h nx Z hZ => haw _ _ _ _ fun v hv _ => by rw [hv]; exact hZ
 have ret : ∀ {h1 nx1 L}, Hp h h1 nx1 L -> K (.bool true) h1 nx1 = .ok True := fun H => hK _ _ _ _ _ H (zH rfl) rfl;rw [F3.go, F3.t25, zA, F3.t0_s, F3.t24, zA, F3.t5, zA, F3.t1_s];refine awk _ _ _ ?_;rw [y5, Zai];simp only [gU, gW_ff]
 (refine heavy19 (by decide) _ _ _ _ ?_; rintro _ rfl _)
 rw [yT, F3.t4, zI, F3.v6];cases c1 : vT G 24 with
 | true =>
  rw [zD, F3.t3, zA, F3.t2_s];refine awk _ _ _ ?_;simp only [yJ, jA];rw [F3.ret];exact ret H0
 | false =>
 obtain ⟨hG1, hw⟩ := heavyB_no c1;have hG : G.length <= 100000 := by omega
 have hw' : ∀ g ∈ G, g.1.length <= 100000 := fun g hg => by have := hw g hg; omega
 rw [zE, zQ, F3.t23, zA, F3.t6_s];refine refGroup110 hG _ _ _ _ ?_;rintro _ rfl _;rw [F3.t22, zA, F3.t7_s];refine cellOrbits21 hG hw' _ _ _ _ ?_;rintro _ rfl _;by_cases c2 : yQ G n = 0
 case neg =>
  rw [celV, if_pos c2, jC, jI, F3.t21, zA, F3.t12, zA, F3.t8_s];refine gY hG hw' _ _ _ _ ?_;rintro _ rfl _;rw [qm, decide_eq_true rfl, Zai, F3.t11, zI, F3.v7, zE, zQ, F3.t20, zA, F3.t17, zA, F3.t13_s, qm, decide_eq_false c2, Zaj, F3.t16, zI, F3.v8, zD, F3.t15, zA, F3.t14_s];refine tab_bad c2 _ _ _ _ ?_;rintro _ rfl _;simp only [yJ, jA];rw [F3.ret];exact ret H0
 obtain ⟨n', rfl, ok⟩ := pT c2;rw [celV, if_neg (fun q => q c2), jC, jI, F3.t21, zA, F3.t12, zA, F3.t8_s];refine gY hG hw' _ _ _ _ ?_;rintro _ rfl _;rw [qm, decide_eq_true rfl, Zai, F3.t11, zI, F3.v7, zE, zQ, F3.t20, zA, F3.t17, zA, F3.t13_s, qm, decide_eq_true c2, Zai, F3.t16, zI, F3.v8, zE, zQ, F3.t19, zA, F3.t18_s];refine cellOrbits24 ok _ _ _ _ ?_;rintro _ rfl _;have hn := ok.n256;have hlen := pN (G := G) (n := n') n';have hws : ∀ i, ∀ g ∈ qD G n' i, g.length <= n' := fun i => by
  induction i with
  | zero => intro g hg; cases hg
  | succ i ih =>
   intro g hg;rw [qD] at hg;split at hg
   ·exact ih g hg
   ·rcases List.mem_append.1 hg with q | q
    ·exact ih g q
    ·rw [List.mem_singleton.1 q]; exact orbC_len i
 rw [Int.toNat_natCast];refine tab_ok (by omega) (fun g hg => by have := hws n' g hg; omega) _ _ _ _ ?_;rintro _ rfl _;simp only [yJ, jA];rw [F3.ret];exact ret H0
end Go.Ev
