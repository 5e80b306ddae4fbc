import Derived.Test.YtkjkjpmahgeneaaGreatDoorWordsb
import Derived.KernelRfl
set_option linter.unusedSimpArgs false
set_option linter.unusedVariables false
noncomputable section
namespace Go.Ev
open Go Go.Proofs
def gD3:List Sym:=[([0,1,2,3,4,5,6,7,8],false),([0,3,6,1,4,7,2,5,8],false),([2,1,0,5,4,3,8,7,6],false),([2,5,8,1,4,7,0,3,6],false),([6,3,0,7,4,1,8,5,2],false),([6,7,8,3,4,5,0,1,2],false),([8,5,2,7,4,1,6,3,0],false),([8,7,6,5,4,3,2,1,0],false)]
def gD2:List Sym:=[([0,1,2,3],false),([0,2,1,3],false),([1,0,3,2],false),([1,3,0,2],false),([2,0,3,1],false),([2,3,0,1],false),([3,1,2,0],false),([3,2,1,0],false)]
def gR4:List Sym:=[([0,1,2,3,4,5,6,7,8,9,10,11,12,13,14,15],false),([0,2,1,3,8,10,9,11,4,6,5,7,12,14,13,15],false),([5,4,7,6,1,0,3,2,13,12,15,14,9,8,11,10],false),([5,7,4,6,13,15,12,14,1,3,0,2,9,11,8,10],false),([10,8,11,9,2,0,3,1,14,12,15,13,6,4,7,5],false),([10,11,8,9,14,15,12,13,2,3,0,1,6,7,4,5],false),([15,13,14,12,7,5,6,4,11,9,10,8,3,1,2,0],false),([15,14,13,12,11,10,9,8,7,6,5,4,3,2,1,0],false)]
def gCl:List Sym:=[([2,5,8,1,4,7,0,3,6],false),([2,1,0,5,4,3,8,7,6],false)]
def gHf:List Sym:=[([0,1,2,3,4,5,6,7,8],false),([8,7,6,5,4,3,2,1,0],false)]
def lShu:List Int:=[2,7,6,9,5,1,4,3,8]
theorem Pure.mono {P:Program} {B f:Nat} {args:List AV} {Q Q':AV->Prop} (h:Pure P B f args Q) (hq:∀ v,Q v->Q' v):Pure P B f args Q':=fun p h0 nx K hK=>h p h0 nx K fun v hv hf=>hK v (hq v hv) hf
theorem zqf:AscS gD3:=mZ (by decide +kernel)
theorem znz:fQ gD3 9:=by
  have h:jR gD3 9=0:=by decide +kernel
  obtain ⟨n,hn,ok⟩:=zkx h;have:n=9:=by omega
  subst this;exact ok
theorem zjg {u q:List Sym} (hu:∀ c∈u,c∈gCl) (hi:∀ T:Sym->Prop,T (idS 9)->(∀ x,T x->∀ b∈u,T (zQ b x))->∀ x∈q,T x):∀ x∈q,x∈gD3:=by
  have hc:∀ b∈gCl,b∈gD3:=by decide +kernel
  exact hi (· ∈ gD3) znz.one fun x hx b hb=>znz.cl b (hc b (hu b hb)) x hx
theorem r27 {B:Nat}:Pure Tryz.prog B 27 [jq gCl,I 9] (· = .tup [jq gD3,I 0]):=by
  refine (zky (l:=gCl) (n:=9) (by decide) (by decide)).mono fun v hv => ?_;have he:zbq gCl 9=0:=by decide +kernel
  rw [zjh,if_neg (by rw [he];decide)] at hv;obtain ⟨n',hn,_,hd,hh⟩:=hv;have:n'=9:=by omega
  subst this;rcases hh with ⟨⟨u,q,i,x,k,b,hu,hB,hb,_,hq⟩,_⟩ | ⟨u,q,s,hu,hin,hnd,hC,hl,hp,hs,rfl⟩
  · have h1:=zjg hu hB.ind;have:=lenG hB.nd h1;rw [hq] at this;exact absurd this (by decide)
  · have h1:=zjg hu hC.ind;have hpr:kX zQ q:=hC.prod (j4 9) fun b hb=>hd b (hu b hb);have e:s=gD3:=by
      refine zf1 (zh3 ((hp.nodup_iff).2 hnd) hs) zqf fun x=>⟨fun hx=>h1 x (hp.mem_iff.1 hx),fun hx=>hp.mem_iff.2 ?_⟩;have r:=hin ([2,5,8,1,4,7,0,3,6],false) (by decide +kernel);have m:=hin ([2,1,0,5,4,3,8,7,6],false) (by decide +kernel);have r2:=hpr _ r _ r;have r3:=hpr _ r _ r2;have key:∀ x∈gD3,x=idS 9\/x=([2,5,8,1,4,7,0,3,6],false)\/x=([2,1,0,5,4,3,8,7,6],false)\/x=zQ ([2,5,8,1,4,7,0,3,6],false) ([2,5,8,1,4,7,0,3,6],false)\/x=zQ ([2,5,8,1,4,7,0,3,6],false) (zQ ([2,5,8,1,4,7,0,3,6],false) ([2,5,8,1,4,7,0,3,6],false))\/x=zQ ([2,5,8,1,4,7,0,3,6],false) ([2,1,0,5,4,3,8,7,6],false)\/x=zQ (zQ ([2,5,8,1,4,7,0,3,6],false) ([2,5,8,1,4,7,0,3,6],false)) ([2,1,0,5,4,3,8,7,6],false)\/x=zQ (zQ ([2,5,8,1,4,7,0,3,6],false) (zQ ([2,5,8,1,4,7,0,3,6],false) ([2,5,8,1,4,7,0,3,6],false))) ([2,1,0,5,4,3,8,7,6],false):=by decide +kernel
      rcases key x hx with rfl | rfl | rfl | rfl | rfl | rfl | rfl | rfl
      · exact hC.one
      · exact r
      · exact m
      · exact r2
      · exact r3
      · exact hpr _ r _ m
      · exact hpr _ r2 _ m
      · exact hpr _ r3 _ m
    rw [e]
theorem zn0:subE gD3 gHf 9=0:=by decide +kernel
def gC4:List Sym:=[([0,1,2,3,4,5,6,7,8],false),([0,3,6,1,4,7,2,5,8],false),([2,1,0,5,4,3,8,7,6],false),([2,5,8,1,4,7,0,3,6],false)]
theorem ztm:cosL gD3 gHf=gC4:=by decide +kernel
theorem r39:zjb Tryz.prog 39 [jq gD3,jq gHf,I 9] (.tup [jq gC4,I 0]):=ztm ▸ zkz (by decide) (by decide) (by decide) (by decide) zn0 (by decide)
theorem ztn:zji gD3 gHf=true:=by decide +kernel
theorem r40 {B:Nat}:Pure Tryz.prog B 40 [jq gD3,jq gHf,I 9] (· = .tup [.bool true,I 0]):=by
  have:=zh4 (B:=B) (G:=gD3) (S:=gHf) (n:=9) (by decide) (by decide) (by decide) (by decide);rw [nrmV,zn0,ztn] at this;exact this
theorem r22a {B:Nat}:Pure Tryz.prog B 22 [jq gD3,I 9] (· = I 0):=by
  have:=dC (B:=B) (G:=gD3) (n:=9) (by decide) (by decide);rw [show jR gD3 9=0 by decide +kernel] at this;exact this
theorem r22b {B:Nat}:Pure Tryz.prog B 22 [jq gD2,I 4] (· = I 0):=by
  have:=dC (B:=B) (G:=gD2) (n:=4) (by decide) (by decide);rw [show jR gD2 4=0 by decide +kernel] at this;exact this
def zr0:List (List AV×AV):=([jq gD3,I 9],I 0)::([jq gD2,I 4],I 0)::[]
theorem zn1:kO Tryz.prog 22 zr0:=List.forall_mem_cons.2 ⟨fun _=>r22a,List.forall_mem_cons.2 ⟨fun _=>r22b,fun _ h=>by cases h⟩⟩
theorem vI {P:Program} {k:Nat} {l:List (List AV×AV)} {g:Nat->List (List AV×AV)} (h1:kO P k l) {f:Nat} (h2:kO P f (g f)):kO P f (bif Nat.beq f k then l else g f):=by
  cases q:Nat.beq f k with
  | false=>exact h2
  | true=>obtain rfl:=yE q;exact h1
def Na (f:Nat):List (List AV×AV):=bif Nat.beq f 22 then zr0 else []
theorem zwa (f:Nat):kO Tryz.prog f (Na f):=vI (g:=fun _=>[]) zn1 (fun _ h=>by cases h)
noncomputable abbrev wX:Nat->List AV->T Blk->Option (AV×T Blk):=zi9 Na zjj
theorem uS {B:Nat}:JOk Tryz.prog B wX:=zja zwa zf2
def noS (_:Nat):Bool:=false
end Go.Ev
namespace Go.Ev
open Go Go.Proofs
set_option maxRecDepth 100000 in
theorem r66a {B:Nat}:Pure Tryz.prog B 66 [I 3] (· = .tup [jq gD3,I 0]) :=
  jK (S:=noS) (J:=wX) (fuel:=1000) (n:=60) zV mixed (fun _=>uS) (by kernel_rfl) (by kernel_rfl)
set_option maxRecDepth 100000 in
theorem r66b {B:Nat}:Pure Tryz.prog B 66 [I 2] (· = .tup [jq gD2,I 0]) :=
  jK (S:=noS) (J:=wX) (fuel:=1000) (n:=60) zV mixed (fun _=>uS) (by kernel_rfl) (by kernel_rfl)
set_option maxRecDepth 100000 in
theorem r75 {B:Nat}:Pure Tryz.prog B 75 [jq gD3,encI lShu] (· = .tup [encT [[2,7,6,9,5,1,4,3,8],[2,9,4,7,5,3,6,1,8],[4,3,8,9,5,1,2,7,6],[4,9,2,3,5,7,8,1,6],[6,1,8,7,5,3,2,9,4],[6,7,2,1,5,9,8,3,4],[8,1,6,3,5,7,4,9,2],[8,3,4,1,5,9,6,7,2]],I 0]) :=
  jK (S:=noS) (J:=wX) (fuel:=1000) (n:=60) zV mixed (fun _=>uS) (by kernel_rfl) (by kernel_rfl)
set_option maxRecDepth 100000 in
theorem r47 {B:Nat}:Pure Tryz.prog B 47 [jq gD3,encI [8,3,4,1,5,9,6,7,2]] (· = .tup [encI lShu,I 0]) :=
  jK (S:=noS) (J:=wX) (fuel:=1000) (n:=60) zV mixed (fun _=>uS) (by kernel_rfl) (by kernel_rfl)
set_option maxRecDepth 100000 in
theorem r36 {B:Nat}:Pure Tryz.prog B 36 [jq gD2,I 4,I 2] (· = .tup [.str [54],I 0]) :=
  jK (S:=noS) (J:=wX) (fuel:=1000) (n:=60) zV mixed (fun _=>uS) (by kernel_rfl) (by kernel_rfl)
set_option maxRecDepth 100000 in
theorem r21 {B:Nat}:Pure Tryz.prog B 21 [jq gD3,I 9] (· = .tup [encT [[0,2,6,8],[1,3,5,7],[4]],I 0]) :=
  jK (S:=noS) (J:=wX) (fuel:=1000) (n:=60) zV mixed (fun _=>uS) (by kernel_rfl) (by kernel_rfl)
set_option maxRecDepth 100000 in
theorem r68 {B:Nat}:Pure Tryz.prog B 68 [I 4] (· = .tup [jq gR4,I 0]) :=
  jK (S:=noS) (J:=wX) (fuel:=1000) (n:=60) zV mixed (fun _=>uS) (by kernel_rfl) (by kernel_rfl)
set_option maxRecDepth 100000 in
theorem r34 {B:Nat}:Pure Tryz.prog B 34 [.agg [I 4,encT [[0,1],[2,3],[0,2],[1,3]]]] (· = .tup [jq gD2,I 0]) :=
  jK (S:=noS) (J:=wX) (fuel:=1000) (n:=60) zV mixed (fun _=>uS) (by kernel_rfl) (by kernel_rfl)
end Go.Ev
namespace Go.Ev
open Go Go.Proofs
def zr1:List (List AV×AV):=([jq gD3,I 9],.tup [encT [[0,2,6,8],[1,3,5,7],[4]],I 0])::[]
theorem zn2:kO Tryz.prog 21 zr1:=List.forall_mem_cons.2 ⟨fun _=>r21,fun _ h=>by cases h⟩
def zn3:List (List AV×AV):=([jq gD2,I 4,I 2],.tup [.str [54],I 0])::[]
theorem zn4:kO Tryz.prog 36 zn3:=List.forall_mem_cons.2 ⟨fun _=>r36,fun _ h=>by cases h⟩
def zjk:List (List AV×AV):=([I 3],.tup [jq gD3,I 0])::([I 2],.tup [jq gD2,I 0])::[]
theorem zn5:kO Tryz.prog 66 zjk:=List.forall_mem_cons.2 ⟨fun _=>r66a,List.forall_mem_cons.2 ⟨fun _=>r66b,fun _ h=>by cases h⟩⟩
def zf3:List (List AV×AV):=([I 4],.tup [jq gR4,I 0])::[]
theorem zn6:kO Tryz.prog 68 zf3:=List.forall_mem_cons.2 ⟨fun _=>r68,fun _ h=>by cases h⟩
def zc0:List (List AV×AV):=([jq gD3,encI lShu],.tup [encT [[2,7,6,9,5,1,4,3,8],[2,9,4,7,5,3,6,1,8],[4,3,8,9,5,1,2,7,6],[4,9,2,3,5,7,8,1,6],[6,1,8,7,5,3,2,9,4],[6,7,2,1,5,9,8,3,4],[8,1,6,3,5,7,4,9,2],[8,3,4,1,5,9,6,7,2]],I 0])::[]
theorem zn7:kO Tryz.prog 75 zc0:=List.forall_mem_cons.2 ⟨fun _=>r75,fun _ h=>by cases h⟩
def Nb (f:Nat):List (List AV×AV):=bif Nat.beq f 21 then zr1 else (bif Nat.beq f 36 then zn3 else (bif Nat.beq f 66 then zjk else (bif Nat.beq f 68 then zf3 else (bif Nat.beq f 75 then zc0 else ([])))))
theorem zwb (f:Nat):kO Tryz.prog f (Nb f):=vI (g:=fun f=>bif Nat.beq f 36 then zn3 else (bif Nat.beq f 66 then zjk else (bif Nat.beq f 68 then zf3 else (bif Nat.beq f 75 then zc0 else ([]))))) zn2 (vI (g:=fun f=>bif Nat.beq f 66 then zjk else (bif Nat.beq f 68 then zf3 else (bif Nat.beq f 75 then zc0 else ([])))) zn4 (vI (g:=fun f=>bif Nat.beq f 68 then zf3 else (bif Nat.beq f 75 then zc0 else ([]))) zn5 (vI (g:=fun f=>bif Nat.beq f 75 then zc0 else ([])) zn6 (vI (g:=fun f=>[]) zn7 (fun _ h=>by cases h)))))
theorem pl40:Plain (.tup [.bool true,I 0]):=.tup _ fun x hx=>by
  simp only [List.mem_cons,List.not_mem_nil,or_false] at hx;rcases hx with rfl | rfl
  · exact .bool _
  · exact .int _ _
theorem zf4 {k:Nat} {l:List (List AV×AV×MK)} {g:Nat->List (List AV×AV×MK)} (h1:∀ e∈l,MKok Tryz.prog k e) {f:Nat} (h2:∀ e∈g f,MKok Tryz.prog f e):∀ e∈(bif Nat.beq f k then l else g f),MKok Tryz.prog f e:=by
  cases q:Nat.beq f k with
  | false=>exact h2
  | true=>obtain rfl:=yE q;exact h1
theorem mk_one {f:Nat} {e:List AV×AV×MK} (h:MKok Tryz.prog f e):∀ x∈[e],MKok Tryz.prog f x:=fun x hx=>by rw [List.mem_singleton.1 hx];exact h
def zr2:List AV×AV×MK:=([jq gCl,I 9],.tup [jq gD3,I 0],.lett)
theorem zn8:MKok Tryz.prog 27 zr2:=⟨by kernel_rfl,fun _=>r27⟩
def zn9:List AV×AV×MK:=([jq gD3,encI [8,3,4,1,5,9,6,7,2]],.tup [encI lShu,I 0],.lett)
theorem zoa:MKok Tryz.prog 47 zn9:=⟨by kernel_rfl,fun _=>r47⟩
def zjl:List AV×AV×MK:=([.agg [I 4,encT [[0,1],[2,3],[0,2],[1,3]]]],.tup [jq gD2,I 0],.lett)
theorem zob:MKok Tryz.prog 34 zjl:=⟨by kernel_rfl,fun _=>r34⟩
def zf5:List AV×AV×MK:=([jq gD3,jq gHf,I 9],.tup [jq gC4,I 0],.neww)
theorem zoc:MKok Tryz.prog 39 zf5:=⟨by kernel_rfl,r39⟩
def zc1:List AV×AV×MK:=([jq gD3,jq gHf,I 9],.tup [.bool true,I 0],.plain)
theorem zod:MKok Tryz.prog 40 zc1:=⟨by kernel_rfl,⟨fun _=>r40,pl40⟩⟩
def Nx (f:Nat):List (List AV×AV×MK):=bif Nat.beq f 27 then [zr2] else (bif Nat.beq f 47 then [zn9] else (bif Nat.beq f 34 then [zjl] else (bif Nat.beq f 39 then [zf5] else (bif Nat.beq f 40 then [zc1] else ([])))))
theorem zwc (f:Nat):∀ e∈Nx f,MKok Tryz.prog f e:=zf4 (g:=fun f=>bif Nat.beq f 47 then [zn9] else (bif Nat.beq f 34 then [zjl] else (bif Nat.beq f 39 then [zf5] else (bif Nat.beq f 40 then [zc1] else ([]))))) (mk_one zn8) (zf4 (g:=fun f=>bif Nat.beq f 34 then [zjl] else (bif Nat.beq f 39 then [zf5] else (bif Nat.beq f 40 then [zc1] else ([])))) (mk_one zoa) (zf4 (g:=fun f=>bif Nat.beq f 39 then [zf5] else (bif Nat.beq f 40 then [zc1] else ([]))) (mk_one zob) (zf4 (g:=fun f=>bif Nat.beq f 40 then [zc1] else ([])) (mk_one zoc) (zf4 (g:=fun f=>[]) (mk_one zod) (fun e h=>by cases h)))))
noncomputable abbrev zoe:Nat->List AV->T Blk->Option (AV×T Blk):=zi9 Nb (zne Nx zjj)
theorem zk0 {B:Nat}:JOk Tryz.prog B zoe:=zja zwb (znf zwc zf2)
def s52 (n:Nat):Bool:=Nat.beq n 52||Nat.beq n 89
set_option maxRecDepth 100000 in
theorem zqe {B:Nat}:Pure Tryz.prog B 18 [] (· = .bool true) :=
  jK (S:=s52) (J:=zoe) (fuel:=1000) (n:=60) zV mixed (fun _=>zk0) (by kernel_rfl) (by kernel_rfl)
end Go.Ev
