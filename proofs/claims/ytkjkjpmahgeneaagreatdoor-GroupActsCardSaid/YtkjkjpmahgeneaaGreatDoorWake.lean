import Derived.Test.YtkjkjpmahgeneaaGreatDoorWordsa
import Derived.Test.YtkjkjpmahgeneaaGreatDoorWordsb
import Derived.KernelRfl
set_option linter.unusedSimpArgs false
set_option linter.unusedVariables false
namespace Go.Ev
open Go Go.Proofs
def gD3 : List Sym := [([0, 1, 2, 3, 4, 5, 6, 7, 8], false), ([0, 3, 6, 1, 4, 7, 2, 5, 8], false), ([2, 1, 0, 5, 4, 3, 8, 7, 6], false), ([2, 5, 8, 1, 4, 7, 0, 3, 6], false), ([6, 3, 0, 7, 4, 1, 8, 5, 2], false), ([6, 7, 8, 3, 4, 5, 0, 1, 2], false), ([8, 5, 2, 7, 4, 1, 6, 3, 0], false), ([8, 7, 6, 5, 4, 3, 2, 1, 0], false)]
def gD2 : List Sym := [([0, 1, 2, 3], false), ([0, 2, 1, 3], false), ([1, 0, 3, 2], false), ([1, 3, 0, 2], false), ([2, 0, 3, 1], false), ([2, 3, 0, 1], false), ([3, 1, 2, 0], false), ([3, 2, 1, 0], false)]
def gR4 : List Sym := [([0, 1, 2, 3, 4, 5, 6, 7, 8, 9, 10, 11, 12, 13, 14, 15], false), ([0, 2, 1, 3, 8, 10, 9, 11, 4, 6, 5, 7, 12, 14, 13, 15], false), ([5, 4, 7, 6, 1, 0, 3, 2, 13, 12, 15, 14, 9, 8, 11, 10], false), ([5, 7, 4, 6, 13, 15, 12, 14, 1, 3, 0, 2, 9, 11, 8, 10], false), ([10, 8, 11, 9, 2, 0, 3, 1, 14, 12, 15, 13, 6, 4, 7, 5], false), ([10, 11, 8, 9, 14, 15, 12, 13, 2, 3, 0, 1, 6, 7, 4, 5], false), ([15, 13, 14, 12, 7, 5, 6, 4, 11, 9, 10, 8, 3, 1, 2, 0], false), ([15, 14, 13, 12, 11, 10, 9, 8, 7, 6, 5, 4, 3, 2, 1, 0], false)]
def gCl : List Sym := [([2, 5, 8, 1, 4, 7, 0, 3, 6], false), ([2, 1, 0, 5, 4, 3, 8, 7, 6], false)]
def gHf : List Sym := [([0, 1, 2, 3, 4, 5, 6, 7, 8], false), ([8, 7, 6, 5, 4, 3, 2, 1, 0], false)]
def lShu : List Int := [2, 7, 6, 9, 5, 1, 4, 3, 8]
theorem Pure.mono {P : Program} {B f : Nat} {args : List AV} {Q Q' : AV → Prop} (h : Pure P B f args Q) (hq : ∀ v, Q v → Q' v) : Pure P B f args Q' := fun p h0 nx K hK => h p h0 nx K fun v hv hf => hK v (hq v hv) hf
theorem gD3_asc : AscS gD3 := mZ (by decide +kernel)
theorem gD3_ok : GrOk gD3 9 := by
  have h : jP gD3 9 = 0 := by decide +kernel
  obtain ⟨n, hn, ok⟩ := grpErr_ok h
  have : n = 9 := by omega
  subst this; exact ok
theorem clos_in {u q : List Sym} (hu : ∀ c ∈ u, c ∈ gCl) (hi : ∀ T : Sym → Prop, T (idS 9) → (∀ x, T x → ∀ b ∈ u, T (zK b x)) → ∀ x ∈ q, T x) : ∀ x ∈ q, x ∈ gD3 := by
  have hc : ∀ b ∈ gCl, b ∈ gD3 := by decide +kernel
  exact hi (· ∈ gD3) gD3_ok.one fun x hx b hb => gD3_ok.cl b (hc b (hu b hb)) x hx
theorem r27 {B : Nat} : Pure Tryz.prog B 27 [encG gCl, I 9] (· = .tup [encG gD3, I 0]) := by
  refine (closure27 (l := gCl) (n := 9) (by decide) (by decide)).mono fun v hv => ?_
  have he : closE gCl 9 = 0 := by decide +kernel
  rw [ClosQ, if_neg (by rw [he]; decide)] at hv
  obtain ⟨n', hn, _, hd, hh⟩ := hv
  have : n' = 9 := by omega
  subst this
  rcases hh with ⟨⟨u, q, i, x, k, b, hu, hB, hb, _, hq⟩, _⟩ | ⟨u, q, s, hu, hin, hnd, hC, hl, hp, hs, rfl⟩
  · have h1 := clos_in hu hB.ind
    have := lenG hB.nd h1
    rw [hq] at this
    exact absurd this (by decide)
  · have h1 := clos_in hu hC.ind
    have hpr : kQ zK q := hC.prod (jG 9) fun b hb => hd b (hu b hb)
    have e : s = gD3 := by
      refine asc_uniq (asc_of_ord ((hp.nodup_iff).2 hnd) hs) gD3_asc fun x => ⟨fun hx => h1 x (hp.mem_iff.1 hx), fun hx => hp.mem_iff.2 ?_⟩
      have r := hin ([2, 5, 8, 1, 4, 7, 0, 3, 6], false) (by decide +kernel)
      have m := hin ([2, 1, 0, 5, 4, 3, 8, 7, 6], false) (by decide +kernel)
      have r2 := hpr _ r _ r
      have r3 := hpr _ r _ r2
      have key : ∀ x ∈ gD3, x = idS 9 ∨ x = ([2, 5, 8, 1, 4, 7, 0, 3, 6], false) ∨ x = ([2, 1, 0, 5, 4, 3, 8, 7, 6], false) ∨ x = zK ([2, 5, 8, 1, 4, 7, 0, 3, 6], false) ([2, 5, 8, 1, 4, 7, 0, 3, 6], false) ∨ x = zK ([2, 5, 8, 1, 4, 7, 0, 3, 6], false) (zK ([2, 5, 8, 1, 4, 7, 0, 3, 6], false) ([2, 5, 8, 1, 4, 7, 0, 3, 6], false)) ∨ x = zK ([2, 5, 8, 1, 4, 7, 0, 3, 6], false) ([2, 1, 0, 5, 4, 3, 8, 7, 6], false) ∨ x = zK (zK ([2, 5, 8, 1, 4, 7, 0, 3, 6], false) ([2, 5, 8, 1, 4, 7, 0, 3, 6], false)) ([2, 1, 0, 5, 4, 3, 8, 7, 6], false) ∨ x = zK (zK ([2, 5, 8, 1, 4, 7, 0, 3, 6], false) (zK ([2, 5, 8, 1, 4, 7, 0, 3, 6], false) ([2, 5, 8, 1, 4, 7, 0, 3, 6], false))) ([2, 1, 0, 5, 4, 3, 8, 7, 6], false) := by decide +kernel
      rcases key x hx with rfl | rfl | rfl | rfl | rfl | rfl | rfl | rfl
      · exact hC.one
      · exact r
      · exact m
      · exact r2
      · exact r3
      · exact hpr _ r _ m
      · exact hpr _ r2 _ m
      · exact hpr _ r3 _ m
    rw [e]
theorem sub_ok : subE gD3 gHf 9 = 0 := by decide +kernel
def gC4 : List Sym := [([0, 1, 2, 3, 4, 5, 6, 7, 8], false), ([0, 3, 6, 1, 4, 7, 2, 5, 8], false), ([2, 1, 0, 5, 4, 3, 8, 7, 6], false), ([2, 5, 8, 1, 4, 7, 0, 3, 6], false)]
theorem cos_ok : cosL gD3 gHf = gC4 := by decide +kernel
theorem r39 : PureN Tryz.prog 39 [encG gD3, encG gHf, I 9] (.tup [encG gC4, I 0]) := cos_ok ▸ cosets39N (by decide) (by decide) (by decide) (by decide) sub_ok (by decide)
theorem nrm_ok : normB gD3 gHf = true := by decide +kernel
theorem r40 {B : Nat} : Pure Tryz.prog B 40 [encG gD3, encG gHf, I 9] (· = .tup [.bool true, I 0]) := by
  have := isNormal40 (B := B) (G := gD3) (S := gHf) (n := 9) (by decide) (by decide) (by decide) (by decide)
  rw [nrmV, sub_ok, nrm_ok] at this
  exact this
theorem r22a {B : Nat} : Pure Tryz.prog B 22 [encG gD3, I 9] (· = I 0) := by
  have := vZ (B := B) (G := gD3) (n := 9) (by decide) (by decide)
  rw [show jP gD3 9 = 0 by decide +kernel] at this
  exact this
theorem r22b {B : Nat} : Pure Tryz.prog B 22 [encG gD2, I 4] (· = I 0) := by
  have := vZ (B := B) (G := gD2) (n := 4) (by decide) (by decide)
  rw [show jP gD2 4 = 0 by decide +kernel] at this
  exact this
noncomputable def Na_22 : List (List AV × AV) := ([encG gD3, I 9], I 0) :: ([encG gD2, I 4], I 0) :: []
theorem Na_22_ok : kK Tryz.prog 22 Na_22 := List.forall_mem_cons.2 ⟨fun _ => r22a, List.forall_mem_cons.2 ⟨fun _ => r22b, fun _ h => by cases h⟩⟩
theorem vG {P : Program} {k : Nat} {l : List (List AV × AV)} {g : Nat → List (List AV × AV)} (h1 : kK P k l) {f : Nat} (h2 : kK P f (g f)) : kK P f (bif Nat.beq f k then l else g f) := by
  cases q : Nat.beq f k with
  | false => exact h2
  | true => obtain rfl := zY q; exact h1
noncomputable def Na (f : Nat) : List (List AV × AV) := bif Nat.beq f 22 then Na_22 else []
theorem Na_ok (f : Nat) : kK Tryz.prog f (Na f) := vG (g := fun _ => []) Na_22_ok (fun _ h => by cases h)
noncomputable abbrev wZ : Nat → List AV → T Blk → Option (AV × T Blk) := memoJ Na listJ
theorem uQ {B : Nat} : JOk Tryz.prog B wZ := memo_ok Na_ok listJ_ok
def noS (_ : Nat) : Bool := false
end Go.Ev
namespace Go.Ev
open Go Go.Proofs
set_option maxRecDepth 100000 in
theorem r66a {B : Nat} : Pure Tryz.prog B 66 [I 3] (· = .tup [encG gD3, I 0]) :=
  jI (S := noS) (J := wZ) (fuel := 1000) (n := 60) zV mixed (fun _ => uQ) (by kernel_rfl) (by kernel_rfl)
set_option maxRecDepth 100000 in
theorem r66b {B : Nat} : Pure Tryz.prog B 66 [I 2] (· = .tup [encG gD2, I 0]) :=
  jI (S := noS) (J := wZ) (fuel := 1000) (n := 60) zV mixed (fun _ => uQ) (by kernel_rfl) (by kernel_rfl)
set_option maxRecDepth 100000 in
theorem r75 {B : Nat} : Pure Tryz.prog B 75 [encG gD3, encI lShu] (· = .tup [encT [[2, 7, 6, 9, 5, 1, 4, 3, 8], [2, 9, 4, 7, 5, 3, 6, 1, 8], [4, 3, 8, 9, 5, 1, 2, 7, 6], [4, 9, 2, 3, 5, 7, 8, 1, 6], [6, 1, 8, 7, 5, 3, 2, 9, 4], [6, 7, 2, 1, 5, 9, 8, 3, 4], [8, 1, 6, 3, 5, 7, 4, 9, 2], [8, 3, 4, 1, 5, 9, 6, 7, 2]], I 0]) :=
  jI (S := noS) (J := wZ) (fuel := 1000) (n := 60) zV mixed (fun _ => uQ) (by kernel_rfl) (by kernel_rfl)
set_option maxRecDepth 100000 in
theorem r47 {B : Nat} : Pure Tryz.prog B 47 [encG gD3, encI [8, 3, 4, 1, 5, 9, 6, 7, 2]] (· = .tup [encI lShu, I 0]) :=
  jI (S := noS) (J := wZ) (fuel := 1000) (n := 60) zV mixed (fun _ => uQ) (by kernel_rfl) (by kernel_rfl)
set_option maxRecDepth 100000 in
theorem r36 {B : Nat} : Pure Tryz.prog B 36 [encG gD2, I 4, I 2] (· = .tup [.str [54], I 0]) :=
  jI (S := noS) (J := wZ) (fuel := 1000) (n := 60) zV mixed (fun _ => uQ) (by kernel_rfl) (by kernel_rfl)
set_option maxRecDepth 100000 in
theorem r21 {B : Nat} : Pure Tryz.prog B 21 [encG gD3, I 9] (· = .tup [encT [[0, 2, 6, 8], [1, 3, 5, 7], [4]], I 0]) :=
  jI (S := noS) (J := wZ) (fuel := 1000) (n := 60) zV mixed (fun _ => uQ) (by kernel_rfl) (by kernel_rfl)
set_option maxRecDepth 100000 in
theorem r68 {B : Nat} : Pure Tryz.prog B 68 [I 4] (· = .tup [encG gR4, I 0]) :=
  jI (S := noS) (J := wZ) (fuel := 1000) (n := 60) zV mixed (fun _ => uQ) (by kernel_rfl) (by kernel_rfl)
set_option maxRecDepth 100000 in
theorem r34 {B : Nat} : Pure Tryz.prog B 34 [.agg [I 4, encT [[0, 1], [2, 3], [0, 2], [1, 3]]]] (· = .tup [encG gD2, I 0]) :=
  jI (S := noS) (J := wZ) (fuel := 1000) (n := 60) zV mixed (fun _ => uQ) (by kernel_rfl) (by kernel_rfl)
end Go.Ev
namespace Go.Ev
open Go Go.Proofs
noncomputable def Nb_21 : List (List AV × AV) := ([encG gD3, I 9], .tup [encT [[0, 2, 6, 8], [1, 3, 5, 7], [4]], I 0]) :: []
theorem Nb_21_ok : kK Tryz.prog 21 Nb_21 := List.forall_mem_cons.2 ⟨fun _ => r21, fun _ h => by cases h⟩
noncomputable def Nb_36 : List (List AV × AV) := ([encG gD2, I 4, I 2], .tup [.str [54], I 0]) :: []
theorem Nb_36_ok : kK Tryz.prog 36 Nb_36 := List.forall_mem_cons.2 ⟨fun _ => r36, fun _ h => by cases h⟩
noncomputable def Nb_66 : List (List AV × AV) := ([I 3], .tup [encG gD3, I 0]) :: ([I 2], .tup [encG gD2, I 0]) :: []
theorem Nb_66_ok : kK Tryz.prog 66 Nb_66 := List.forall_mem_cons.2 ⟨fun _ => r66a, List.forall_mem_cons.2 ⟨fun _ => r66b, fun _ h => by cases h⟩⟩
noncomputable def Nb_68 : List (List AV × AV) := ([I 4], .tup [encG gR4, I 0]) :: []
theorem Nb_68_ok : kK Tryz.prog 68 Nb_68 := List.forall_mem_cons.2 ⟨fun _ => r68, fun _ h => by cases h⟩
noncomputable def Nb_75 : List (List AV × AV) := ([encG gD3, encI lShu], .tup [encT [[2, 7, 6, 9, 5, 1, 4, 3, 8], [2, 9, 4, 7, 5, 3, 6, 1, 8], [4, 3, 8, 9, 5, 1, 2, 7, 6], [4, 9, 2, 3, 5, 7, 8, 1, 6], [6, 1, 8, 7, 5, 3, 2, 9, 4], [6, 7, 2, 1, 5, 9, 8, 3, 4], [8, 1, 6, 3, 5, 7, 4, 9, 2], [8, 3, 4, 1, 5, 9, 6, 7, 2]], I 0]) :: []
theorem Nb_75_ok : kK Tryz.prog 75 Nb_75 := List.forall_mem_cons.2 ⟨fun _ => r75, fun _ h => by cases h⟩
noncomputable def Nb (f : Nat) : List (List AV × AV) := bif Nat.beq f 21 then Nb_21 else (bif Nat.beq f 36 then Nb_36 else (bif Nat.beq f 66 then Nb_66 else (bif Nat.beq f 68 then Nb_68 else (bif Nat.beq f 75 then Nb_75 else ([])))))
theorem Nb_ok (f : Nat) : kK Tryz.prog f (Nb f) := vG (g := fun f => bif Nat.beq f 36 then Nb_36 else (bif Nat.beq f 66 then Nb_66 else (bif Nat.beq f 68 then Nb_68 else (bif Nat.beq f 75 then Nb_75 else ([]))))) Nb_21_ok (vG (g := fun f => bif Nat.beq f 66 then Nb_66 else (bif Nat.beq f 68 then Nb_68 else (bif Nat.beq f 75 then Nb_75 else ([])))) Nb_36_ok (vG (g := fun f => bif Nat.beq f 68 then Nb_68 else (bif Nat.beq f 75 then Nb_75 else ([]))) Nb_66_ok (vG (g := fun f => bif Nat.beq f 75 then Nb_75 else ([])) Nb_68_ok (vG (g := fun f => []) Nb_75_ok (fun _ h => by cases h)))))
theorem pl40 : Plain (.tup [.bool true, I 0]) := .tup _ fun x hx => by
  simp only [List.mem_cons, List.not_mem_nil, or_false] at hx
  rcases hx with rfl | rfl
  · exact .bool _
  · exact .int _ _
theorem mk_if {k : Nat} {l : List (List AV × AV × MK)} {g : Nat → List (List AV × AV × MK)} (h1 : ∀ e ∈ l, MKok Tryz.prog k e) {f : Nat} (h2 : ∀ e ∈ g f, MKok Tryz.prog f e) : ∀ e ∈ (bif Nat.beq f k then l else g f), MKok Tryz.prog f e := by
  cases q : Nat.beq f k with
  | false => exact h2
  | true => obtain rfl := zY q; exact h1
theorem mk_one {f : Nat} {e : List AV × AV × MK} (h : MKok Tryz.prog f e) : ∀ x ∈ [e], MKok Tryz.prog f x := fun x hx => by rw [List.mem_singleton.1 hx]; exact h
noncomputable def Nx_27 : List AV × AV × MK := ([encG gCl, I 9], .tup [encG gD3, I 0], .lett)
theorem Nx_27_ok : MKok Tryz.prog 27 Nx_27 := ⟨by kernel_rfl, fun _ => r27⟩
noncomputable def Nx_47 : List AV × AV × MK := ([encG gD3, encI [8, 3, 4, 1, 5, 9, 6, 7, 2]], .tup [encI lShu, I 0], .lett)
theorem Nx_47_ok : MKok Tryz.prog 47 Nx_47 := ⟨by kernel_rfl, fun _ => r47⟩
noncomputable def Nx_34 : List AV × AV × MK := ([.agg [I 4, encT [[0, 1], [2, 3], [0, 2], [1, 3]]]], .tup [encG gD2, I 0], .lett)
theorem Nx_34_ok : MKok Tryz.prog 34 Nx_34 := ⟨by kernel_rfl, fun _ => r34⟩
noncomputable def Nx_39 : List AV × AV × MK := ([encG gD3, encG gHf, I 9], .tup [encG gC4, I 0], .neww)
theorem Nx_39_ok : MKok Tryz.prog 39 Nx_39 := ⟨by kernel_rfl, r39⟩
noncomputable def Nx_40 : List AV × AV × MK := ([encG gD3, encG gHf, I 9], .tup [.bool true, I 0], .plain)
theorem Nx_40_ok : MKok Tryz.prog 40 Nx_40 := ⟨by kernel_rfl, ⟨fun _ => r40, pl40⟩⟩
noncomputable def Nx (f : Nat) : List (List AV × AV × MK) := bif Nat.beq f 27 then [Nx_27] else (bif Nat.beq f 47 then [Nx_47] else (bif Nat.beq f 34 then [Nx_34] else (bif Nat.beq f 39 then [Nx_39] else (bif Nat.beq f 40 then [Nx_40] else ([])))))
theorem Nx_ok (f : Nat) : ∀ e ∈ Nx f, MKok Tryz.prog f e := mk_if (g := fun f => bif Nat.beq f 47 then [Nx_47] else (bif Nat.beq f 34 then [Nx_34] else (bif Nat.beq f 39 then [Nx_39] else (bif Nat.beq f 40 then [Nx_40] else ([]))))) (mk_one Nx_27_ok) (mk_if (g := fun f => bif Nat.beq f 34 then [Nx_34] else (bif Nat.beq f 39 then [Nx_39] else (bif Nat.beq f 40 then [Nx_40] else ([])))) (mk_one Nx_47_ok) (mk_if (g := fun f => bif Nat.beq f 39 then [Nx_39] else (bif Nat.beq f 40 then [Nx_40] else ([]))) (mk_one Nx_34_ok) (mk_if (g := fun f => bif Nat.beq f 40 then [Nx_40] else ([])) (mk_one Nx_39_ok) (mk_if (g := fun f => []) (mk_one Nx_40_ok) (fun e h => by cases h)))))
noncomputable abbrev hookNx : Nat → List AV → T Blk → Option (AV × T Blk) := memoJ Nb (memoX Nx listJ)
theorem hookNx_ok {B : Nat} : JOk Tryz.prog B hookNx := memo_ok Nb_ok (memoX_ok Nx_ok listJ_ok)
def s52 (n : Nat) : Bool := Nat.beq n 52 || Nat.beq n 89
set_option maxRecDepth 100000 in
theorem awake18 {B : Nat} : Pure Tryz.prog B 18 [] (· = .bool true) :=
  jI (S := s52) (J := hookNx) (fuel := 1000) (n := 60) zV mixed (fun _ => hookNx_ok) (by kernel_rfl) (by kernel_rfl)
end Go.Ev
