import Derived.Test.YtkjkjpmahgeneaaGreatDoorWordsb
import Derived.KernelRfl
set_option linter.unusedSimpArgs false
set_option linter.unusedVariables false
noncomputable section
namespace Go.Ev
open Go Go.Proofs
def gD3:List Sym:=[([0,1,2,3,4,5,6,7,8],false),([0,3,6,1,4,7,2,5,8],false),([2,1,0,5,4,3,8,7,6],false),([2,5,8,1,4,7,0,3,6],false),([6,3,0,7,4,1,8,5,2],false),([6,7,8,3,4,5,0,1,2],false),([8,5,2,7,4,1,6,3,0],false),([8,7,6,5,4,3,2,1,0],false)]
def gD2:List Sym:=[([0,1,2,3],false),([0,2,1,3],false),([1,0,3,2],false),([1,3,0,2],false),([2,0,3,1],false),([2,3,0,1],false),([3,1,2,0],false),([3,2,1,0],false)]
def gR4:List Sym:=[([0,1,2,3,4,5,6,7,8,9,10,11,12,13,14,15],false),([0,2,1,3,8,10,9,11,4,6,5,7,12,14,13,15],false),([5,4,7,6,1,0,3,2,13,12,15,14,9,8,11,10],false),([5,7,4,6,13,15,12,14,1,3,0,2,9,11,8,10],false),([10,8,11,9,2,0,3,1,14,12,15,13,6,4,7,5],false),([10,11,8,9,14,15,12,13,2,3,0,1,6,7,4,5],false),([15,13,14,12,7,5,6,4,11,9,10,8,3,1,2,0],false),([15,14,13,12,11,10,9,8,7,6,5,4,3,2,1,0],false)]
def gCl:List Sym:=[([2,5,8,1,4,7,0,3,6],false),([2,1,0,5,4,3,8,7,6],false)]
def gHf:List Sym:=[([0,1,2,3,4,5,6,7,8],false),([8,7,6,5,4,3,2,1,0],false)]
def lShu:List Int:=[2,7,6,9,5,1,4,3,8]
theorem Pure.mono {P:Program} {B f:Nat} {args:List AV} {Q Q':AV->Prop} (h:Pure P B f args Q) (hq:∀ v,Q v->Q' v):Pure P B f args Q':=fun p h0 nx K hK=>h p h0 nx K fun v hv hf=>hK v (hq v hv) hf
theorem zqc:AscS gD3:=bB (by decide +kernel)
theorem znr:sF gD3 9:=by
  have h:j5 gD3 9=0:=by decide +kernel
  obtain ⟨n,hn,ok⟩:=zkg h;have:n=9:=by omega
  subst this;exact ok
theorem zi3 {u q:List Sym} (hu:∀ c∈u,c∈gCl) (hi:∀ T:Sym->Prop,T (idS 9)->(∀ x,T x->∀ b∈u,T (zP b x))->∀ x∈q,T x):∀ x∈q,x∈gD3:=by
  have hc:∀ b∈gCl,b∈gD3:=by decide +kernel
  exact hi (· ∈ gD3) znr.one fun x hx b hb=>znr.cl b (hc b (hu b hb)) x hx
theorem r27 {B:Nat}:Pure Tryz.prog B 27 [jh gCl,I 9] (· = .tup [jh gD3,I 0]):=by
  refine (zkh (l:=gCl) (n:=9) (by decide) (by decide)).mono fun v hv => ?_;have he:zb0 gCl 9=0:=by decide +kernel
  rw [zi4,if_neg (by rw [he];decide)] at hv;obtain ⟨n',hn,_,hd,hh⟩:=hv;have:n'=9:=by omega
  subst this;rcases hh with ⟨⟨u,q,i,x,k,b,hu,hB,hb,_,hq⟩,_⟩ | ⟨u,q,s,hu,hin,hnd,hC,hl,hp,hs,rfl⟩
  · have h1:=zi3 hu hB.ind;have:=lenG hB.nd h1;rw [hq] at this;exact absurd this (by decide)
  · have h1:=zi3 hu hC.ind;have hpr:qB zP q:=hC.prod (gB 9) fun b hb=>hd b (hu b hb);have e:s=gD3:=by
      refine zfs (zhs ((hp.nodup_iff).2 hnd) hs) zqc fun x=>⟨fun hx=>h1 x (hp.mem_iff.1 hx),fun hx=>hp.mem_iff.2 ?_⟩;have r:=hin ([2,5,8,1,4,7,0,3,6],false) (by decide +kernel);have m:=hin ([2,1,0,5,4,3,8,7,6],false) (by decide +kernel);have r2:=hpr _ r _ r;have r3:=hpr _ r _ r2;have key:∀ x∈gD3,x=idS 9\/x=([2,5,8,1,4,7,0,3,6],false)\/x=([2,1,0,5,4,3,8,7,6],false)\/x=zP ([2,5,8,1,4,7,0,3,6],false) ([2,5,8,1,4,7,0,3,6],false)\/x=zP ([2,5,8,1,4,7,0,3,6],false) (zP ([2,5,8,1,4,7,0,3,6],false) ([2,5,8,1,4,7,0,3,6],false))\/x=zP ([2,5,8,1,4,7,0,3,6],false) ([2,1,0,5,4,3,8,7,6],false)\/x=zP (zP ([2,5,8,1,4,7,0,3,6],false) ([2,5,8,1,4,7,0,3,6],false)) ([2,1,0,5,4,3,8,7,6],false)\/x=zP (zP ([2,5,8,1,4,7,0,3,6],false) (zP ([2,5,8,1,4,7,0,3,6],false) ([2,5,8,1,4,7,0,3,6],false))) ([2,1,0,5,4,3,8,7,6],false):=by decide +kernel
      rcases key x hx with rfl | rfl | rfl | rfl | rfl | rfl | rfl | rfl
      · exact hC.one
      · exact r
      · exact m
      · exact r2
      · exact r3
      · exact hpr _ r _ m
      · exact hpr _ r2 _ m
      · exact hpr _ r3 _ m
    rw [e]
theorem zns:subE gD3 gHf 9=0:=by decide +kernel
def gC4:List Sym:=[([0,1,2,3,4,5,6,7,8],false),([0,3,6,1,4,7,2,5,8],false),([2,1,0,5,4,3,8,7,6],false),([2,5,8,1,4,7,0,3,6],false)]
theorem zth:cosL gD3 gHf=gC4:=by decide +kernel
theorem r39:ziz Tryz.prog 39 [jh gD3,jh gHf,I 9] (.tup [jh gC4,I 0]):=zth ▸ zki (by decide) (by decide) (by decide) (by decide) zns (by decide)
theorem zti:zi5 gD3 gHf=true:=by decide +kernel
theorem r40 {B:Nat}:Pure Tryz.prog B 40 [jh gD3,jh gHf,I 9] (· = .tup [.bool true,I 0]):=by
  have:=zht (B:=B) (G:=gD3) (S:=gHf) (n:=9) (by decide) (by decide) (by decide) (by decide);rw [nrmV,zns,zti] at this;exact this
theorem r22a {B:Nat}:Pure Tryz.prog B 22 [jh gD3,I 9] (· = I 0):=by
  have:=vZ (B:=B) (G:=gD3) (n:=9) (by decide) (by decide);rw [show j5 gD3 9=0 by decide +kernel] at this;exact this
theorem r22b {B:Nat}:Pure Tryz.prog B 22 [jh gD2,I 4] (· = I 0):=by
  have:=vZ (B:=B) (G:=gD2) (n:=4) (by decide) (by decide);rw [show j5 gD2 4=0 by decide +kernel] at this;exact this
def zrn:List (List AV×AV):=([jh gD3,I 9],I 0)::([jh gD2,I 4],I 0)::[]
theorem znt:uI Tryz.prog 22 zrn:=List.forall_mem_cons.2 ⟨fun _=>r22a,List.forall_mem_cons.2 ⟨fun _=>r22b,fun _ h=>by cases h⟩⟩
theorem vK {P:Program} {k:Nat} {l:List (List AV×AV)} {g:Nat->List (List AV×AV)} (h1:uI P k l) {f:Nat} (h2:uI P f (g f)):uI P f (bif Nat.beq f k then l else g f):=by
  cases q:Nat.beq f k with
  | false=>exact h2
  | true=>obtain rfl:=yE q;exact h1
def Na (f:Nat):List (List AV×AV):=bif Nat.beq f 22 then zrn else []
theorem zv6 (f:Nat):uI Tryz.prog f (Na f):=vK (g:=fun _=>[]) znt (fun _ h=>by cases h)
noncomputable abbrev xE:Nat->List AV->T Blk->Option (AV×T Blk):=zc0 Na zi6
theorem uY {B:Nat}:JOk Tryz.prog B xE:=zd8 zv6 zft
def noS (_:Nat):Bool:=false
end Go.Ev
namespace Go.Ev
open Go Go.Proofs
set_option maxRecDepth 100000 in
theorem r66a {B:Nat}:Pure Tryz.prog B 66 [I 3] (· = .tup [jh gD3,I 0]) :=
  jV (S:=noS) (J:=xE) (fuel:=1000) (n:=60) zT mixed (fun _=>uY) (by kernel_rfl) (by kernel_rfl)
set_option maxRecDepth 100000 in
theorem r66b {B:Nat}:Pure Tryz.prog B 66 [I 2] (· = .tup [jh gD2,I 0]) :=
  jV (S:=noS) (J:=xE) (fuel:=1000) (n:=60) zT mixed (fun _=>uY) (by kernel_rfl) (by kernel_rfl)
set_option maxRecDepth 100000 in
theorem r75 {B:Nat}:Pure Tryz.prog B 75 [jh gD3,encI lShu] (· = .tup [qo [[2,7,6,9,5,1,4,3,8],[2,9,4,7,5,3,6,1,8],[4,3,8,9,5,1,2,7,6],[4,9,2,3,5,7,8,1,6],[6,1,8,7,5,3,2,9,4],[6,7,2,1,5,9,8,3,4],[8,1,6,3,5,7,4,9,2],[8,3,4,1,5,9,6,7,2]],I 0]) :=
  jV (S:=noS) (J:=xE) (fuel:=1000) (n:=60) zT mixed (fun _=>uY) (by kernel_rfl) (by kernel_rfl)
set_option maxRecDepth 100000 in
theorem r47 {B:Nat}:Pure Tryz.prog B 47 [jh gD3,encI [8,3,4,1,5,9,6,7,2]] (· = .tup [encI lShu,I 0]) :=
  jV (S:=noS) (J:=xE) (fuel:=1000) (n:=60) zT mixed (fun _=>uY) (by kernel_rfl) (by kernel_rfl)
set_option maxRecDepth 100000 in
theorem r36 {B:Nat}:Pure Tryz.prog B 36 [jh gD2,I 4,I 2] (· = .tup [.str [54],I 0]) :=
  jV (S:=noS) (J:=xE) (fuel:=1000) (n:=60) zT mixed (fun _=>uY) (by kernel_rfl) (by kernel_rfl)
set_option maxRecDepth 100000 in
theorem r21 {B:Nat}:Pure Tryz.prog B 21 [jh gD3,I 9] (· = .tup [qo [[0,2,6,8],[1,3,5,7],[4]],I 0]) :=
  jV (S:=noS) (J:=xE) (fuel:=1000) (n:=60) zT mixed (fun _=>uY) (by kernel_rfl) (by kernel_rfl)
set_option maxRecDepth 100000 in
theorem r68 {B:Nat}:Pure Tryz.prog B 68 [I 4] (· = .tup [jh gR4,I 0]) :=
  jV (S:=noS) (J:=xE) (fuel:=1000) (n:=60) zT mixed (fun _=>uY) (by kernel_rfl) (by kernel_rfl)
set_option maxRecDepth 100000 in
theorem r34 {B:Nat}:Pure Tryz.prog B 34 [.agg [I 4,qo [[0,1],[2,3],[0,2],[1,3]]]] (· = .tup [jh gD2,I 0]) :=
  jV (S:=noS) (J:=xE) (fuel:=1000) (n:=60) zT mixed (fun _=>uY) (by kernel_rfl) (by kernel_rfl)
end Go.Ev
namespace Go.Ev
open Go Go.Proofs
def zro:List (List AV×AV):=([jh gD3,I 9],.tup [qo [[0,2,6,8],[1,3,5,7],[4]],I 0])::[]
theorem znu:uI Tryz.prog 21 zro:=List.forall_mem_cons.2 ⟨fun _=>r21,fun _ h=>by cases h⟩
def znv:List (List AV×AV):=([jh gD2,I 4,I 2],.tup [.str [54],I 0])::[]
theorem znw:uI Tryz.prog 36 znv:=List.forall_mem_cons.2 ⟨fun _=>r36,fun _ h=>by cases h⟩
def zi7:List (List AV×AV):=([I 3],.tup [jh gD3,I 0])::([I 2],.tup [jh gD2,I 0])::[]
theorem znx:uI Tryz.prog 66 zi7:=List.forall_mem_cons.2 ⟨fun _=>r66a,List.forall_mem_cons.2 ⟨fun _=>r66b,fun _ h=>by cases h⟩⟩
def zfu:List (List AV×AV):=([I 4],.tup [jh gR4,I 0])::[]
theorem zny:uI Tryz.prog 68 zfu:=List.forall_mem_cons.2 ⟨fun _=>r68,fun _ h=>by cases h⟩
def zc5:List (List AV×AV):=([jh gD3,encI lShu],.tup [qo [[2,7,6,9,5,1,4,3,8],[2,9,4,7,5,3,6,1,8],[4,3,8,9,5,1,2,7,6],[4,9,2,3,5,7,8,1,6],[6,1,8,7,5,3,2,9,4],[6,7,2,1,5,9,8,3,4],[8,1,6,3,5,7,4,9,2],[8,3,4,1,5,9,6,7,2]],I 0])::[]
theorem znz:uI Tryz.prog 75 zc5:=List.forall_mem_cons.2 ⟨fun _=>r75,fun _ h=>by cases h⟩
def Nb (f:Nat):List (List AV×AV):=bif Nat.beq f 21 then zro else (bif Nat.beq f 36 then znv else (bif Nat.beq f 66 then zi7 else (bif Nat.beq f 68 then zfu else (bif Nat.beq f 75 then zc5 else ([])))))
theorem zv7 (f:Nat):uI Tryz.prog f (Nb f):=vK (g:=fun f=>bif Nat.beq f 36 then znv else (bif Nat.beq f 66 then zi7 else (bif Nat.beq f 68 then zfu else (bif Nat.beq f 75 then zc5 else ([]))))) znu (vK (g:=fun f=>bif Nat.beq f 66 then zi7 else (bif Nat.beq f 68 then zfu else (bif Nat.beq f 75 then zc5 else ([])))) znw (vK (g:=fun f=>bif Nat.beq f 68 then zfu else (bif Nat.beq f 75 then zc5 else ([]))) znx (vK (g:=fun f=>bif Nat.beq f 75 then zc5 else ([])) zny (vK (g:=fun f=>[]) znz (fun _ h=>by cases h)))))
theorem pl40:Plain (.tup [.bool true,I 0]):=.tup _ fun x hx=>by
  simp only [List.mem_cons,List.not_mem_nil,or_false] at hx;rcases hx with rfl | rfl
  · exact .bool _
  · exact .int _ _
theorem zfv {k:Nat} {l:List (List AV×AV×MK)} {g:Nat->List (List AV×AV×MK)} (h1:∀ e∈l,MKok Tryz.prog k e) {f:Nat} (h2:∀ e∈g f,MKok Tryz.prog f e):∀ e∈(bif Nat.beq f k then l else g f),MKok Tryz.prog f e:=by
  cases q:Nat.beq f k with
  | false=>exact h2
  | true=>obtain rfl:=yE q;exact h1
theorem mk_one {f:Nat} {e:List AV×AV×MK} (h:MKok Tryz.prog f e):∀ x∈[e],MKok Tryz.prog f x:=fun x hx=>by rw [List.mem_singleton.1 hx];exact h
def zrp:List AV×AV×MK:=([jh gCl,I 9],.tup [jh gD3,I 0],.lett)
theorem zn0:MKok Tryz.prog 27 zrp:=⟨by kernel_rfl,fun _=>r27⟩
def zn1:List AV×AV×MK:=([jh gD3,encI [8,3,4,1,5,9,6,7,2]],.tup [encI lShu,I 0],.lett)
theorem zn2:MKok Tryz.prog 47 zn1:=⟨by kernel_rfl,fun _=>r47⟩
def zi8:List AV×AV×MK:=([.agg [I 4,qo [[0,1],[2,3],[0,2],[1,3]]]],.tup [jh gD2,I 0],.lett)
theorem zn3:MKok Tryz.prog 34 zi8:=⟨by kernel_rfl,fun _=>r34⟩
def zfw:List AV×AV×MK:=([jh gD3,jh gHf,I 9],.tup [jh gC4,I 0],.neww)
theorem zn4:MKok Tryz.prog 39 zfw:=⟨by kernel_rfl,r39⟩
def zc6:List AV×AV×MK:=([jh gD3,jh gHf,I 9],.tup [.bool true,I 0],.plain)
theorem zn5:MKok Tryz.prog 40 zc6:=⟨by kernel_rfl,⟨fun _=>r40,pl40⟩⟩
def Nx (f:Nat):List (List AV×AV×MK):=bif Nat.beq f 27 then [zrp] else (bif Nat.beq f 47 then [zn1] else (bif Nat.beq f 34 then [zi8] else (bif Nat.beq f 39 then [zfw] else (bif Nat.beq f 40 then [zc6] else ([])))))
theorem zv8 (f:Nat):∀ e∈Nx f,MKok Tryz.prog f e:=zfv (g:=fun f=>bif Nat.beq f 47 then [zn1] else (bif Nat.beq f 34 then [zi8] else (bif Nat.beq f 39 then [zfw] else (bif Nat.beq f 40 then [zc6] else ([]))))) (mk_one zn0) (zfv (g:=fun f=>bif Nat.beq f 34 then [zi8] else (bif Nat.beq f 39 then [zfw] else (bif Nat.beq f 40 then [zc6] else ([])))) (mk_one zn2) (zfv (g:=fun f=>bif Nat.beq f 39 then [zfw] else (bif Nat.beq f 40 then [zc6] else ([]))) (mk_one zn3) (zfv (g:=fun f=>bif Nat.beq f 40 then [zc6] else ([])) (mk_one zn4) (zfv (g:=fun f=>[]) (mk_one zn5) (fun e h=>by cases h)))))
noncomputable abbrev zn6:Nat->List AV->T Blk->Option (AV×T Blk):=zc0 Nb (zm7 Nx zi6)
theorem zkj {B:Nat}:JOk Tryz.prog B zn6:=zd8 zv7 (zm8 zv8 zft)
def s52 (n:Nat):Bool:=Nat.beq n 52||Nat.beq n 89
set_option maxRecDepth 100000 in
theorem zqb {B:Nat}:Pure Tryz.prog B 18 [] (· = .bool true) :=
  jV (S:=s52) (J:=zn6) (fuel:=1000) (n:=60) zT mixed (fun _=>zkj) (by kernel_rfl) (by kernel_rfl)
end Go.Ev
