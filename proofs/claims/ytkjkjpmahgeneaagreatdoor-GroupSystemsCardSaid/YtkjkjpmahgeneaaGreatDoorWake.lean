import Derived.Test.YtkjkjpmahgeneaaGreatDoorWordsb
import Derived.KernelRfl
set_option linter.unusedSimpArgs false
set_option linter.unusedVariables false
noncomputable section
namespace Go.Ev
open Go Go.Proofs
def gD3:List Sym:=[([0,1,2,3,4,5,6,7,8],false),([0,3,6,1,4,7,2,5,8],false),([2,1,0,5,4,3,8,7,6],false),([2,5,8,1,4,7,0,3,6],false),([6,3,0,7,4,1,8,5,2],false),([6,7,8,3,4,5,0,1,2],false),([8,5,2,7,4,1,6,3,0],false),([8,7,6,5,4,3,2,1,0],false)]
def gD2:List Sym:=[([0,1,2,3],false),([0,2,1,3],false),([1,0,3,2],false),([1,3,0,2],false),([2,0,3,1],false),([2,3,0,1],false),([3,1,2,0],false),([3,2,1,0],false)]
def gR4:List Sym:=[([0,1,2,3,4,5,6,7,8,9,10,11,12,13,14,15],false),([0,2,1,3,8,10,9,11,4,6,5,7,12,14,13,15],false),([5,4,7,6,1,0,3,2,13,12,15,14,9,8,11,10],false),([5,7,4,6,13,15,12,14,1,3,0,2,9,11,8,10],false),([10,8,11,9,2,0,3,1,14,12,15,13,6,4,7,5],false),([10,11,8,9,14,15,12,13,2,3,0,1,6,7,4,5],false),([15,13,14,12,7,5,6,4,11,9,10,8,3,1,2,0],false),([15,14,13,12,11,10,9,8,7,6,5,4,3,2,1,0],false)]
def gCl:List Sym:=[([2,5,8,1,4,7,0,3,6],false),([2,1,0,5,4,3,8,7,6],false)]
def gHf:List Sym:=[([0,1,2,3,4,5,6,7,8],false),([8,7,6,5,4,3,2,1,0],false)]
def lShu:List Int:=[2,7,6,9,5,1,4,3,8]
theorem Pure.mono {P:Program} {B f:Nat} {args:List AV} {Q Q':AV->Prop} (h:Pure P B f args Q) (hq:∀ v,Q v->Q' v):Pure P B f args Q':=fun p h0 nx K hK=>h p h0 nx K fun v hv hf=>hK v (hq v hv) hf
theorem zqg:AscS gD3:=bC (by decide +kernel)
theorem zn0:fU gD3 9:=by
  have h:jK gD3 9=0:=by decide +kernel
  obtain ⟨n,hn,ok⟩:=zkq h;have:n=9:=by omega
  subst this;exact ok
theorem zja {u q:List Sym} (hu:∀ c∈u,c∈gCl) (hi:∀ T:Sym->Prop,T (idS 9)->(∀ x,T x->∀ b∈u,T (zP b x))->∀ x∈q,T x):∀ x∈q,x∈gD3:=by
  have hc:∀ b∈gCl,b∈gD3:=by decide +kernel
  exact hi (· ∈ gD3) zn0.one fun x hx b hb=>zn0.cl b (hc b (hu b hb)) x hx
theorem r27 {B:Nat}:Pure Tryz.prog B 27 [jd gCl,I 9] (· = .tup [jd gD3,I 0]):=by
  refine (zkr (l:=gCl) (n:=9) (by decide) (by decide)).mono fun v hv => ?_;have he:zbq gCl 9=0:=by decide +kernel
  rw [zjb,if_neg (by rw [he];decide)] at hv;obtain ⟨n',hn,_,hd,hh⟩:=hv;have:n'=9:=by omega
  subst this;rcases hh with ⟨⟨u,q,i,x,k,b,hu,hB,hb,_,hq⟩,_⟩ | ⟨u,q,s,hu,hin,hnd,hC,hl,hp,hs,rfl⟩
  · have h1:=zja hu hB.ind;have:=lenG hB.nd h1;rw [hq] at this;exact absurd this (by decide)
  · have h1:=zja hu hC.ind;have hpr:qD zP q:=hC.prod (jY 9) fun b hb=>hd b (hu b hb);have e:s=gD3:=by
      refine zfp (zhv ((hp.nodup_iff).2 hnd) hs) zqg fun x=>⟨fun hx=>h1 x (hp.mem_iff.1 hx),fun hx=>hp.mem_iff.2 ?_⟩;have r:=hin ([2,5,8,1,4,7,0,3,6],false) (by decide +kernel);have m:=hin ([2,1,0,5,4,3,8,7,6],false) (by decide +kernel);have r2:=hpr _ r _ r;have r3:=hpr _ r _ r2;have key:∀ x∈gD3,x=idS 9\/x=([2,5,8,1,4,7,0,3,6],false)\/x=([2,1,0,5,4,3,8,7,6],false)\/x=zP ([2,5,8,1,4,7,0,3,6],false) ([2,5,8,1,4,7,0,3,6],false)\/x=zP ([2,5,8,1,4,7,0,3,6],false) (zP ([2,5,8,1,4,7,0,3,6],false) ([2,5,8,1,4,7,0,3,6],false))\/x=zP ([2,5,8,1,4,7,0,3,6],false) ([2,1,0,5,4,3,8,7,6],false)\/x=zP (zP ([2,5,8,1,4,7,0,3,6],false) ([2,5,8,1,4,7,0,3,6],false)) ([2,1,0,5,4,3,8,7,6],false)\/x=zP (zP ([2,5,8,1,4,7,0,3,6],false) (zP ([2,5,8,1,4,7,0,3,6],false) ([2,5,8,1,4,7,0,3,6],false))) ([2,1,0,5,4,3,8,7,6],false):=by decide +kernel
      rcases key x hx with rfl | rfl | rfl | rfl | rfl | rfl | rfl | rfl
      · exact hC.one
      · exact r
      · exact m
      · exact r2
      · exact r3
      · exact hpr _ r _ m
      · exact hpr _ r2 _ m
      · exact hpr _ r3 _ m
    rw [e]
theorem zn1:subE gD3 gHf 9=0:=by decide +kernel
def gC4:List Sym:=[([0,1,2,3,4,5,6,7,8],false),([0,3,6,1,4,7,2,5,8],false),([2,1,0,5,4,3,8,7,6],false),([2,5,8,1,4,7,0,3,6],false)]
theorem ztk:cosL gD3 gHf=gC4:=by decide +kernel
theorem r39:zi5 Tryz.prog 39 [jd gD3,jd gHf,I 9] (.tup [jd gC4,I 0]):=ztk ▸ zks (by decide) (by decide) (by decide) (by decide) zn1 (by decide)
theorem ztl:zjc gD3 gHf=true:=by decide +kernel
theorem r40 {B:Nat}:Pure Tryz.prog B 40 [jd gD3,jd gHf,I 9] (· = .tup [.bool true,I 0]):=by
  have:=zhw (B:=B) (G:=gD3) (S:=gHf) (n:=9) (by decide) (by decide) (by decide) (by decide);rw [nrmV,zn1,ztl] at this;exact this
theorem r22a {B:Nat}:Pure Tryz.prog B 22 [jd gD3,I 9] (· = I 0):=by
  have:=vY (B:=B) (G:=gD3) (n:=9) (by decide) (by decide);rw [show jK gD3 9=0 by decide +kernel] at this;exact this
theorem r22b {B:Nat}:Pure Tryz.prog B 22 [jd gD2,I 4] (· = I 0):=by
  have:=vY (B:=B) (G:=gD2) (n:=4) (by decide) (by decide);rw [show jK gD2 4=0 by decide +kernel] at this;exact this
def zrn:List (List AV×AV):=([jd gD3,I 9],I 0)::([jd gD2,I 4],I 0)::[]
theorem zn2:kY Tryz.prog 22 zrn:=List.forall_mem_cons.2 ⟨fun _=>r22a,List.forall_mem_cons.2 ⟨fun _=>r22b,fun _ h=>by cases h⟩⟩
theorem vH {P:Program} {k:Nat} {l:List (List AV×AV)} {g:Nat->List (List AV×AV)} (h1:kY P k l) {f:Nat} (h2:kY P f (g f)):kY P f (bif Nat.beq f k then l else g f):=by
  cases q:Nat.beq f k with
  | false=>exact h2
  | true=>obtain rfl:=yE q;exact h1
def Na (f:Nat):List (List AV×AV):=bif Nat.beq f 22 then zrn else []
theorem zv6 (f:Nat):kY Tryz.prog f (Na f):=vH (g:=fun _=>[]) zn2 (fun _ h=>by cases h)
noncomputable abbrev xA:Nat->List AV->T Blk->Option (AV×T Blk):=zi3 Na zjd
theorem u3 {B:Nat}:JOk Tryz.prog B xA:=zi4 zv6 zfq
def noS (_:Nat):Bool:=false
end Go.Ev
namespace Go.Ev
open Go Go.Proofs
set_option maxRecDepth 100000 in
theorem r66a {B:Nat}:Pure Tryz.prog B 66 [I 3] (· = .tup [jd gD3,I 0]) :=
  j4 (S:=noS) (J:=xA) (fuel:=1000) (n:=60) zW mixed (fun _=>u3) (by kernel_rfl) (by kernel_rfl)
set_option maxRecDepth 100000 in
theorem r66b {B:Nat}:Pure Tryz.prog B 66 [I 2] (· = .tup [jd gD2,I 0]) :=
  j4 (S:=noS) (J:=xA) (fuel:=1000) (n:=60) zW mixed (fun _=>u3) (by kernel_rfl) (by kernel_rfl)
set_option maxRecDepth 100000 in
theorem r75 {B:Nat}:Pure Tryz.prog B 75 [jd gD3,encI lShu] (· = .tup [qg [[2,7,6,9,5,1,4,3,8],[2,9,4,7,5,3,6,1,8],[4,3,8,9,5,1,2,7,6],[4,9,2,3,5,7,8,1,6],[6,1,8,7,5,3,2,9,4],[6,7,2,1,5,9,8,3,4],[8,1,6,3,5,7,4,9,2],[8,3,4,1,5,9,6,7,2]],I 0]) :=
  j4 (S:=noS) (J:=xA) (fuel:=1000) (n:=60) zW mixed (fun _=>u3) (by kernel_rfl) (by kernel_rfl)
set_option maxRecDepth 100000 in
theorem r47 {B:Nat}:Pure Tryz.prog B 47 [jd gD3,encI [8,3,4,1,5,9,6,7,2]] (· = .tup [encI lShu,I 0]) :=
  j4 (S:=noS) (J:=xA) (fuel:=1000) (n:=60) zW mixed (fun _=>u3) (by kernel_rfl) (by kernel_rfl)
set_option maxRecDepth 100000 in
theorem r36 {B:Nat}:Pure Tryz.prog B 36 [jd gD2,I 4,I 2] (· = .tup [.str [54],I 0]) :=
  j4 (S:=noS) (J:=xA) (fuel:=1000) (n:=60) zW mixed (fun _=>u3) (by kernel_rfl) (by kernel_rfl)
set_option maxRecDepth 100000 in
theorem r21 {B:Nat}:Pure Tryz.prog B 21 [jd gD3,I 9] (· = .tup [qg [[0,2,6,8],[1,3,5,7],[4]],I 0]) :=
  j4 (S:=noS) (J:=xA) (fuel:=1000) (n:=60) zW mixed (fun _=>u3) (by kernel_rfl) (by kernel_rfl)
set_option maxRecDepth 100000 in
theorem r68 {B:Nat}:Pure Tryz.prog B 68 [I 4] (· = .tup [jd gR4,I 0]) :=
  j4 (S:=noS) (J:=xA) (fuel:=1000) (n:=60) zW mixed (fun _=>u3) (by kernel_rfl) (by kernel_rfl)
set_option maxRecDepth 100000 in
theorem r34 {B:Nat}:Pure Tryz.prog B 34 [.agg [I 4,qg [[0,1],[2,3],[0,2],[1,3]]]] (· = .tup [jd gD2,I 0]) :=
  j4 (S:=noS) (J:=xA) (fuel:=1000) (n:=60) zW mixed (fun _=>u3) (by kernel_rfl) (by kernel_rfl)
end Go.Ev
namespace Go.Ev
open Go Go.Proofs
def zro:List (List AV×AV):=([jd gD3,I 9],.tup [qg [[0,2,6,8],[1,3,5,7],[4]],I 0])::[]
theorem zn3:kY Tryz.prog 21 zro:=List.forall_mem_cons.2 ⟨fun _=>r21,fun _ h=>by cases h⟩
def zn4:List (List AV×AV):=([jd gD2,I 4,I 2],.tup [.str [54],I 0])::[]
theorem zn5:kY Tryz.prog 36 zn4:=List.forall_mem_cons.2 ⟨fun _=>r36,fun _ h=>by cases h⟩
def zje:List (List AV×AV):=([I 3],.tup [jd gD3,I 0])::([I 2],.tup [jd gD2,I 0])::[]
theorem zn6:kY Tryz.prog 66 zje:=List.forall_mem_cons.2 ⟨fun _=>r66a,List.forall_mem_cons.2 ⟨fun _=>r66b,fun _ h=>by cases h⟩⟩
def zfr:List (List AV×AV):=([I 4],.tup [jd gR4,I 0])::[]
theorem zn7:kY Tryz.prog 68 zfr:=List.forall_mem_cons.2 ⟨fun _=>r68,fun _ h=>by cases h⟩
def zcy:List (List AV×AV):=([jd gD3,encI lShu],.tup [qg [[2,7,6,9,5,1,4,3,8],[2,9,4,7,5,3,6,1,8],[4,3,8,9,5,1,2,7,6],[4,9,2,3,5,7,8,1,6],[6,1,8,7,5,3,2,9,4],[6,7,2,1,5,9,8,3,4],[8,1,6,3,5,7,4,9,2],[8,3,4,1,5,9,6,7,2]],I 0])::[]
theorem zn8:kY Tryz.prog 75 zcy:=List.forall_mem_cons.2 ⟨fun _=>r75,fun _ h=>by cases h⟩
def Nb (f:Nat):List (List AV×AV):=bif Nat.beq f 21 then zro else (bif Nat.beq f 36 then zn4 else (bif Nat.beq f 66 then zje else (bif Nat.beq f 68 then zfr else (bif Nat.beq f 75 then zcy else ([])))))
theorem zv7 (f:Nat):kY Tryz.prog f (Nb f):=vH (g:=fun f=>bif Nat.beq f 36 then zn4 else (bif Nat.beq f 66 then zje else (bif Nat.beq f 68 then zfr else (bif Nat.beq f 75 then zcy else ([]))))) zn3 (vH (g:=fun f=>bif Nat.beq f 66 then zje else (bif Nat.beq f 68 then zfr else (bif Nat.beq f 75 then zcy else ([])))) zn5 (vH (g:=fun f=>bif Nat.beq f 68 then zfr else (bif Nat.beq f 75 then zcy else ([]))) zn6 (vH (g:=fun f=>bif Nat.beq f 75 then zcy else ([])) zn7 (vH (g:=fun f=>[]) zn8 (fun _ h=>by cases h)))))
theorem pl40:Plain (.tup [.bool true,I 0]):=.tup _ fun x hx=>by
  simp only [List.mem_cons,List.not_mem_nil,or_false] at hx;rcases hx with rfl | rfl
  · exact .bool _
  · exact .int _ _
theorem zfs {k:Nat} {l:List (List AV×AV×MK)} {g:Nat->List (List AV×AV×MK)} (h1:∀ e∈l,MKok Tryz.prog k e) {f:Nat} (h2:∀ e∈g f,MKok Tryz.prog f e):∀ e∈(bif Nat.beq f k then l else g f),MKok Tryz.prog f e:=by
  cases q:Nat.beq f k with
  | false=>exact h2
  | true=>obtain rfl:=yE q;exact h1
theorem mk_one {f:Nat} {e:List AV×AV×MK} (h:MKok Tryz.prog f e):∀ x∈[e],MKok Tryz.prog f x:=fun x hx=>by rw [List.mem_singleton.1 hx];exact h
def zrp:List AV×AV×MK:=([jd gCl,I 9],.tup [jd gD3,I 0],.lett)
theorem zn9:MKok Tryz.prog 27 zrp:=⟨by kernel_rfl,fun _=>r27⟩
def zoa:List AV×AV×MK:=([jd gD3,encI [8,3,4,1,5,9,6,7,2]],.tup [encI lShu,I 0],.lett)
theorem zob:MKok Tryz.prog 47 zoa:=⟨by kernel_rfl,fun _=>r47⟩
def zjf:List AV×AV×MK:=([.agg [I 4,qg [[0,1],[2,3],[0,2],[1,3]]]],.tup [jd gD2,I 0],.lett)
theorem zoc:MKok Tryz.prog 34 zjf:=⟨by kernel_rfl,fun _=>r34⟩
def zft:List AV×AV×MK:=([jd gD3,jd gHf,I 9],.tup [jd gC4,I 0],.neww)
theorem zod:MKok Tryz.prog 39 zft:=⟨by kernel_rfl,r39⟩
def zcz:List AV×AV×MK:=([jd gD3,jd gHf,I 9],.tup [.bool true,I 0],.plain)
theorem zoe:MKok Tryz.prog 40 zcz:=⟨by kernel_rfl,⟨fun _=>r40,pl40⟩⟩
def Nx (f:Nat):List (List AV×AV×MK):=bif Nat.beq f 27 then [zrp] else (bif Nat.beq f 47 then [zoa] else (bif Nat.beq f 34 then [zjf] else (bif Nat.beq f 39 then [zft] else (bif Nat.beq f 40 then [zcz] else ([])))))
theorem zv8 (f:Nat):∀ e∈Nx f,MKok Tryz.prog f e:=zfs (g:=fun f=>bif Nat.beq f 47 then [zoa] else (bif Nat.beq f 34 then [zjf] else (bif Nat.beq f 39 then [zft] else (bif Nat.beq f 40 then [zcz] else ([]))))) (mk_one zn9) (zfs (g:=fun f=>bif Nat.beq f 34 then [zjf] else (bif Nat.beq f 39 then [zft] else (bif Nat.beq f 40 then [zcz] else ([])))) (mk_one zob) (zfs (g:=fun f=>bif Nat.beq f 39 then [zft] else (bif Nat.beq f 40 then [zcz] else ([]))) (mk_one zoc) (zfs (g:=fun f=>bif Nat.beq f 40 then [zcz] else ([])) (mk_one zod) (zfs (g:=fun f=>[]) (mk_one zoe) (fun e h=>by cases h)))))
noncomputable abbrev zof:Nat->List AV->T Blk->Option (AV×T Blk):=zi3 Nb (znf Nx zjd)
theorem zkt {B:Nat}:JOk Tryz.prog B zof:=zi4 zv7 (zng zv8 zfq)
def s52 (n:Nat):Bool:=Nat.beq n 52||Nat.beq n 89
set_option maxRecDepth 100000 in
theorem zqf {B:Nat}:Pure Tryz.prog B 18 [] (· = .bool true) :=
  j4 (S:=s52) (J:=zof) (fuel:=1000) (n:=60) zW mixed (fun _=>zkt) (by kernel_rfl) (by kernel_rfl)
end Go.Ev
