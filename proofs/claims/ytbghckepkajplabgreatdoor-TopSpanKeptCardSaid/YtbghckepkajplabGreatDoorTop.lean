import Derived.Test.YtbghckepkajplabGreatDoorEvC
import Derived.Below
import Derived.Carry
import Derived.ChangeSame
import Derived.WideKeyArgs
import Derived.Test.YtbghckepkajplabGreatDoorCards
import Derived.Lib.LaidTab
import Derived.KernelRfl
import Derived.Test.YtbghckepkajplabGreatDoorEvD
import Derived.Deep.Matrix
import Derived.Lib.SmallJoins
import Derived.Test.YtbghckepkajplabGreatDoorIrT
import Derived.Test.YtbghckepkajplabGreatDoorFcA
import Derived.Test.YtbghckepkajplabGreatDoorFcB
import Derived.Test.YtbghckepkajplabGreatDoorFcC
import Derived.Test.YtbghckepkajplabGreatDoorFcD
import Derived.Test.YtbghckepkajplabGreatDoorFact
import Derived.Test.YtbghckepkajplabGreatDoorTie
import Derived.ProofKit
import Derived.LaidMore
import Derived.OpenShut
import Derived.Stop.Joined
import Derived.SevenTiedAt
import Derived.Test.YtbghckepkajplabGreatDoorWake
import Derived.Test.YtbghckepkajplabGreatDoorWordsd
set_option linter.unusedSimpArgs false
set_option linter.unusedVariables false
namespace Go.Ev
open Go Go.RowKit Go.ChangeShapes
open Classical
def mI (w:World):Prop:=∀ b i v,o8 b i=some v->uM w b i=some v
def allE (w:World) (hl:mI w):Env:=⟨λ_=>none,uM w,hl⟩
theorem HR.zrh (P:Program) (w:World) (hl:mI w):HR P w.heap.size (allE w hl) .e .z w:={
  blk id hid:=hid.elim (T.rV _ id)
  inj id id' b n n' h1:=(h1 (T.rV _ id)).elim
  fresh _ _:=rfl
  lt id b n hid:=by cases hid
  base:=Nat.le_refl _
  frz b i v h:=by
    refine ⟨?_,λid n hid=>by cases hid⟩;have h:uM w b i=some v:=h;unfold uM at h;split at h
    . rename_i c ty fr hb;exact ⟨c,ty,fr,hb,h⟩
    . cases h }
noncomputable def m8:Kw Prop:=λv _ _=>if v=.bool true then .ok True else .no 0
theorem zno {P:Program} {f:Nat} {args:List AV} {vs:Array Value} {w:World} {hl:mI w} {fn:Func} (hf:P.funcs[f]? = some fn) (hb:fn.body.isNone=false) (hn:(fn.name == "runtime.NumGoroutine")=false) (hv:VRL (allE w hl) args vs.toList) (h:(CS P w.heap.size).fn f (.of f) args .e .z m8=.ok True) :
    Go.Calls P f vs w λe w'=>e=.returned (.bool true)/\Below w.heap.size w w':=by
  obtain ⟨_,_,_,_,h⟩:=zqm.fn (HR.zrh P w hl) hv h;rcases h 0 with ⟨_,_,_,_,h⟩ | ⟨_,v,h,_⟩
  case inr=>rw [uD hf hb hn] at h;cases h
  refine (callsIn_wide.1 h).mono λe w' hc => ?_;cases e with
  | returned v =>
    obtain ⟨av,h',nx',E',h1,h2,h3,h4⟩:=hc;unfold m8 at h1;split at h1
    . rename_i hav;subst hav;simp only [VR] at h2;subst h2;exact ⟨rfl,h4.os,h4.tape,h4.output,h4.size,λk hk=>h4.keep k hk λid n hid=>by cases hid⟩
    . cases h1
  | _=>exact hc.elim
section
variable {H:Type} {enc:TypeId×Value->H} {P:Program}
theorem xH (hl:laidOutB P=true) {W W':World} (hb:Below W.heap.size W W') (sp:Nat->Bool):∀ {ts:List TypeId} {vs:List Value} {ds:List (DataW H)} {ps:List MemPlace},
    (∀ t∈ts,P.readableRec t=true/\t<P.types.size)->DataW.TrodAll enc P W 0 (λ_=>true) true ts vs ds ps->(∀ x∈ps,x.block<W.heap.size)->(∀ x∈ps,sp x.block=true)->DataW.TrodAll enc P W' 0 sp true ts vs ds ps
  | [],vs,ds,ps,_,h,_,_=>by
    cases vs <;> cases ds <;> simp only [DataW.TrodAll] at h ⊢ <;> exact h
  | t::ts,vs,ds,ps,ht,h,hlt,hs=>by
    cases vs <;> cases ds <;> simp only [DataW.TrodAll] at h ⊢
    obtain ⟨p,q,h1,h2,rfl⟩:=h;refine ⟨p,q,WideElems.Trod_stays hl (ht t (by simp)).1 (ht t (by simp)).2 h1 (λx hx=>hb.same (hlt x (by simp [hx]))) (λx hx=>hs x (by simp [hx])),?_,rfl⟩;exact xH hl hb sp (λt h=>ht t (by simp [h])) h2 (λx hx=>hlt x (by simp [hx])) (λx hx=>hs x (by simp [hx]))
theorem fC {w:World} {base:Nat} {sp:Nat->Bool} {held:Bool}:∀ {ts:List TypeId} {vs:List Value} {ds:List (DataW H)} {ps:List MemPlace},DataW.TrodAll enc P w base sp held ts vs ds ps->ds.length=ts.length
  | [],vs,ds,ps,h=>by cases vs <;> cases ds <;> simp only [DataW.TrodAll] at h <;> rfl
  | t::ts,vs,ds,ps,h=>by
    cases vs <;> cases ds <;> simp only [DataW.TrodAll] at h
    obtain ⟨p,q,_,h2,_⟩:=h;simp [fC h2]
theorem znp {f:Func} {s:ChangeSpec} {apart fresh handsOn again:Bool} {W W':World} {args:Array Value} {ds gs:List (DataW H)} {before:List MemPlace} {tb:TypeId}
    (hl:laidOutB P=true) (hts:∀ t∈f.params.toList,P.readableRec t=true/\t<P.types.size) (hvars:s.vars=[]) (hfn:∀ ds:List (DataW H),ds.length=f.params.size->s.fn H ds={ results:=[.lit (.bool true)],args:=ds })
    (hr:f.resultTypes = #[tb]) (htb:P.underlying tb=some .bool)
    (hW:DataW.Whole enc P f.params.toList s.vars apart W args.toList ds gs before) (hb:Below W.heap.size W W'):s.post enc P f apart fresh handsOn again W args (.bool true) W':=by
  have hW0:=hW;obtain ⟨p,q,h1,h2,hpq,hz,hn⟩:=hW;rw [hvars] at h2;obtain ⟨rfl,rfl⟩:=ChangeShapes.trodVars_none h2;have hlt:∀ x∈p,x.block<W.heap.size:=λx hx=>by
    have:=hW0.lt x (by rw [hpq];simp [hx]);simpa using this
  have hs:s.fn H (ds++[])={ results:=[.lit (.bool true)],args:=ds }:=by
    rw [List.append_nil];exact hfn ds (by rw [fC h1];simp)
  have hres:∀ (b:Nat) (sp:Nat->Bool) (hd:Bool),DataW.TrodAll enc P W' b sp hd f.resultTypes.toList ((Value.bool true).resultList f.resultTypes.size) [.lit (.bool true)] []:=by
    intro b sp hd;rw [hr];exact ChangeShapes.trodAll_mk1 ⟨1,by simp [DataW.trod,Value.cells,htb]⟩
  subst hpq;refine ⟨ds,[],p++[],[],p,[],hW0,?_,?_,?_,hb.frame _,λ_=>⟨ok_one hr rfl (okWide_bool_mk htb _),[.lit (.bool true)]++ds,[],[]++p,?_,?_⟩⟩
  . rw [hs];exact hres _ _ _
  . rw [hs];exact xH hl hb _ hts h1 hlt (λx hx=>by simpa using hlt x hx)
  . rw [hs,hvars];simp [DataW.TrodVars]
  . refine ⟨[]++p,[],trodAll_append (xH hl hb _ hts h1 hlt (λ_ _=>rfl)) (hres _ _ _),by rw [hvars];simp [DataW.TrodVars],by simp,?_,?_⟩
    . intro b off hp;have hp:MemPlace.cell b off∈p:=by simpa using hp
      rw [hb.frozen (hlt _ hp)];exact hz b off (by simpa using hp)
    . intro ha;have:=hn ha;simpa using this
  . intro x hx _;simpa using hx
end
end Go.Ev
namespace Go.Proofs.YtbghckepkajplabGreatDoor
open Go Go.Ev
abbrev zdp:List (String×DataW Unit):=[("math/bits.deBruijn32tab",Rows.laid_math_bits_deBruijn32tab),("math/bits.deBruijn64tab",Rows.laid_math_bits_deBruijn64tab),("internal/strconv.uint64pow10",Rows.laid_internal_strconv_uint64pow10)]
def powZ:List Int:=(layG 2).map λ(n:Nat)=>(n:Int)
theorem zlt {W:World} (h:laidMetH Tryz.prog zdp W):mI W:=by
  have h:laidMet Tryz.prog zdp W:=h;obtain ⟨ps,⟨_,_,_,_,_,_,_,_,_,_,⟨_,_,_,_,_,_,_,_,_,_,⟨g,t,cs,fuel,p,q,hg,ht,hvar,hd,_,_⟩,_⟩,_⟩,_⟩:=h;obtain rfl:2=g:=Option.some.inj ((show Tryz.prog.globalNamed "internal/strconv.uint64pow10" = some 2 by kernel_rfl).symm.trans hg);obtain rfl:315=t:=Option.some.inj ((show (Tryz.prog.globals[2]?).map (·.type)=some 315 by kernel_rfl).symm.trans ht);have e0:(Rows.laid_internal_strconv_uint64pow10:DataW Unit)=Lib.tabData .u64 powZ:=by kernel_rfl
  rw [e0] at hd;have hcs:cs.toList=powZ.map λz=>Value.int .u64 z:=Lib.cells_of_tab (n:=20) (e:=227) Tryz.underlying315 Tryz.underlying227 (by kernel_rfl) (by kernel_rfl) hd;intro b i v hb;unfold o8 at hb;by_cases hb2:b=2
  case neg =>
    have:layG b=[]:=by
      unfold layG
      rw [show Nat.beq b 2=false from by cases hq:Nat.beq b 2 with
        | false=>rfl
        | true=>exact absurd (Nat.eq_of_beq_eq_true hq) hb2];rfl
    rw [this] at hb;cases hb
  subst hb2;have hv:W.var? Tryz.prog "internal/strconv.uint64pow10" = some cs:=hvar;unfold World.var? at hv;rw [hg] at hv;simp only [Option.bind_some] at hv;unfold uM;split at hv
  . rename_i c ty fr hh;have hc:=Option.some.inj hv;rw [hh];simp only;rw [hc,<- Array.getElem?_toList,hcs];simp only [powZ,List.getElem?_map];cases hq:(layG 2)[i]? with
    | none=>rw [hq] at hb;cases hb
    | some n=>rw [hq] at hb;exact hb
  . cases hv
end Go.Proofs.YtbghckepkajplabGreatDoor
namespace Go.Ev
open Go Go.RowKit Go.ChangeShapes Go.WideShapes Go.Deep Go.Joins
variable {H:Type} {enc:TypeId×Value->H} {P:Program}
theorem kU {w:World} {a:Addr} {i:Nat} {v:Value} (h:w.cell? (a.add i)=some v):a=⟨a.block,a.off,a.spot⟩/\(i=0->a.spot=none)/\uM w a.block (a.off+i)=some v:=by
  unfold Addr.add at h;by_cases hi:i=0
  . subst hi;rw [if_pos rfl] at h;unfold World.cell? at h;split at h
    . rename_i c ty fr hb;split at h
      . cases h
      . rename_i hs;refine ⟨rfl,λ_=>by cases e:a.spot <;> simp_all,?_⟩;simp [uM,hb,h]
    . cases h
  . rw [if_neg hi] at h;unfold World.cell? at h;split at h
    . rename_i c ty fr hb;refine ⟨rfl,λq=>absurd q hi,?_⟩;simp at h hb;simp [uM,hb,h]
    . cases h
theorem zkh {E:Env} {b:Nat}:∀ {l:List AV} {off:Nat},(∀ i a,l[i]? = some a->∃ v,E.fz b (off+i)=some v/\VR E a v)->VRF E l b off
  | [],_,_=>by simp only [VRF]
  | a::l,off,h=>by
    simp only [VRF];obtain ⟨v,h1,h2⟩:=h 0 a rfl;refine ⟨v,h1,h2,zkh λi x hx => ?_⟩;obtain ⟨v',h3,h4⟩:=h (i+1) x (by simpa using hx);exact ⟨v',by rw [Nat.add_assoc,Nat.add_comm 1 i];exact h3,h4⟩
theorem zzl (l:List Int):(l.map I).all gy=true:=by
  rw [List.all_eq_true];intro v hv;obtain ⟨x,_,rfl⟩:=List.mem_map.1 hv;rfl
theorem zzm (l:List (List Int)):(l.map encI).all gy=true:=by
  rw [List.all_eq_true];intro v hv;obtain ⟨x,_,rfl⟩:=List.mem_map.1 hv;rfl
theorem zri {w:World} {hl:mI w} {p:Option Addr} {L C:Nat} {Z:List Int} (hL:L<=C) (hZ:Z.length=C) (h0:p=none->C=0) (hc:∀ a,p=some a->∀ c,c<C->w.cell? (a.add c)=some (.int .i64 (Z.getD c 0))) :
    VR (allE w hl) (encI (Z.take L)) (.slice p L C):=by
  have hlen:(Z.take L).length=L:=by rw [List.length_take];omega
  simp only [VR];refine ⟨zzl _,by simp,p,C,by rw [hlen],?_⟩;rw [hlen];cases p with
  | none=>exact .inl ⟨by have:=h0 rfl;omega,λ_=>h0 rfl⟩
  | some a =>
    by_cases hL0:L=0
    . exact .inl ⟨hL0,by intro q;cases q⟩
    . obtain ⟨_,hs,_⟩:=kU (hc a rfl 0 (by omega));obtain ⟨b,off,sp⟩:=a;have:sp=none:=hs rfl;subst this;refine .inr ⟨b,off,rfl,hL,zkh λi x hx => ?_⟩;rw [List.getElem?_map] at hx;have hi:i<L:=by
        cases e:(Z.take L)[i]? with
        | none=>rw [e] at hx;cases hx
        | some y=>have:=(List.getElem?_eq_some_iff.1 e).1;omega
      obtain ⟨_,_,h3⟩:=kU (hc _ rfl i (by omega));refine ⟨_,h3,?_⟩;rw [List.getElem?_take,if_pos hi] at hx;cases e:Z[i]? with
      | none=>rw [e] at hx;cases hx
      | some y =>
        rw [e] at hx;have hx:=Option.some.inj hx;subst hx;rw [List.getD_eq_getElem?_getD,e];simp only [VR,Option.getD_some]
theorem zbw {t e:TypeId} {w:World} {hl:mI w} {base:Nat} {held:Bool} {fuel:Nat} {cs:List Value} {x:DataW H×List MemPlace} (ht:P.underlying t=some (.slice e)) (he:P.underlying e=some (.int .i64)) (hc:P.cellsOf e=1)
    (h:DataW.trod enc P w base (λ_=>true) held fuel t cs=some x):∃ (l:List Int) (v:Value),cs=[v]/\VR (allE w hl) (encI l) v/\l.length<=maxLen/\∀ n∈l,(Lit.int .i64 n).wf=true:=by
  rcases open_ints ht he hc h with ⟨rfl,_⟩ | ⟨a,len,cap,zs,rfl,hb,hl,hm,hz,_,hcell,hwz⟩
  . exact ⟨[],_,rfl,by simp only [VR];exact ⟨rfl,rfl,none,0,rfl,.inl ⟨rfl,λ_=>rfl⟩⟩,by simp,by simp⟩
  . simp only [if_true] at hz;refine ⟨zs.take len,_,rfl,zri hl hz (λq=>by cases q) (λa' q c hc=>by cases q;exact hcell c (by rw [hz];exact hc)),by rw [List.length_take];omega,λn hn=>hwz n (List.mem_of_mem_take hn)⟩
theorem zki {r:Reach} {b0:Nat} {t e:TypeId} {w:World} {hl:mI w} {base:Nat} {held:Bool} {v:Value} {d:DataW H} {p:List MemPlace} (ht:P.underlying t=some (.slice e)) (he:P.underlying e=some (.int .i64)) (hc:P.cellsOf e=1)
    (hval:Value.okWide P w r b0 t v) (h:DataW.Trod enc P w base (λ_=>true) held t v d p):∃ l:List Int,VR (allE w hl) (encI l) v/\l.length<=maxLen/\∀ n∈l,(Lit.int .i64 n).wf=true:=by
  obtain ⟨fuel,hf⟩:=h;obtain ⟨a,len,cap,rfl⟩:=okWide_slice ht hval;obtain ⟨l,v',hv,h1,h2,h3⟩:=zbw ht he hc hf;simp only [Value.cells,List.cons.injEq,and_true] at hv;subst hv;exact ⟨l,h1,h2,h3⟩
theorem zkj {t e q:TypeId} {w:World} {hl:mI w} {base:Nat} {held:Bool} {fuel:Nat} {cs:List Value} {x:DataW H×List MemPlace} (ht:P.underlying t=some (.slice e)) (he:P.underlying e=some (.slice q)) (hq:P.underlying q=some (.int .i64))
    (ce:P.cellsOf e=1) (cq:P.cellsOf q=1) (h:DataW.trod enc P w base (λ_=>true) held fuel t cs=some x) :
    ∃ (ll:List (List Int)) (v:Value),cs=[v]/\VR (allE w hl) (uz ll) v/\ll.length<=maxLen/\∀ l∈ll,l.length<=maxLen/\∀ n∈l,(Lit.int .i64 n).wf=true:=by
  rcases open_int_rows ht he hq ce cq h with ⟨rfl,_⟩ | ⟨a,len,cap,A,L,C,Z,rfl,hb,hl,hm,_,hr⟩
  . exact ⟨[],_,rfl,by simp only [VR];exact ⟨rfl,rfl,none,0,rfl,.inl ⟨rfl,λ_=>rfl⟩⟩,by simp,by simp⟩
  . refine ⟨(List.range len).map λr=>(Z r).take (L r),_,rfl,?_,by simp;omega,λl hm' => ?_⟩
    . simp only [VR];refine ⟨zzm _,by simp,some a,cap,by simp,?_⟩;by_cases h0:len=0
      . exact .inl ⟨by simp [h0],by intro q;cases q⟩
      . obtain ⟨_,hs,_⟩:=kU (hr 0 (by omega)).1;obtain ⟨b,off,sp⟩:=a;have:sp=none:=hs rfl;subst this;refine .inr ⟨b,off,rfl,by simpa using hl,zkh λi x hx => ?_⟩;rw [List.map_map,List.getElem?_map] at hx;have hi:i<len:=by
          cases e:(List.range len)[i]? with
          | none=>rw [e] at hx;cases hx
          | some y=>have:=(List.getElem?_eq_some_iff.1 e).1;simpa using this
        rw [List.getElem?_range hi] at hx;have hx:=Option.some.inj hx;subst hx;obtain ⟨g1,g2,g3,g4,_,g6,g7⟩:=hr i (by omega);obtain ⟨_,_,h3⟩:=kU g1;exact ⟨_,h3,zri g2 g4 g6 λa' q c hc=>(g7 a' q).2 c hc⟩
    . obtain ⟨r,hr',rfl⟩:=List.mem_map.1 hm';obtain ⟨_,g2,g3,g4,g5,_⟩:=hr r (by have:=List.mem_range.1 hr';omega);exact ⟨by rw [List.length_take];omega,λn hn=>g5 n (List.mem_of_mem_take hn)⟩
theorem zho {r:Reach} {b0 base:Nat} {held:Bool} {w:World} {hl:mI w} {t ti tl tr:TypeId} {f0 f1:Field} {v:Value} {d:DataW H} {p:List MemPlace} (hs:P.underlying t=some (.struct #[f0,f1])) (hone:oneCellFields P #[f0,f1]=true) (hC:P.cellsOf t=2)
    (e0:f0.type=ti) (e1:f1.type=tl) (u0:P.underlying ti=some (.int .i64)) (u1:P.underlying tl=some (.slice tr)) (u2:P.underlying tr=some (.slice ti)) (c1:P.cellsOf tr=1) (c2:P.cellsOf ti=1)
    (hv:Value.okWide P w r b0 t v) (h:DataW.Trod enc P w base (λ_=>true) held t v d p) :
    ∃ (cells:Int) (lines:List (List Int)),VR (allE w hl) (.agg [I cells,uz lines]) v/\(Lit.int .i64 cells).wf=true/\lines.length<=maxLen/\∀ l∈lines,l.length<=maxLen/\∀ n∈l,(Lit.int .i64 n).wf=true:=by
  obtain ⟨v0,v1,y0,y1,n,rfl,_,_,h0,h1⟩:=open_agg2 hs hone hC hv h;rw [e0] at h0;rw [e1] at h1;obtain ⟨x,hx,_,hw⟩:=DataW.trod_int u0 h0;simp only [List.cons.injEq,and_true] at hx;subst hx;obtain ⟨ll,v',hv',g1,g2,g3⟩:=zkj u1 u2 u0 c1 c2 h1;simp only [List.cons.injEq,and_true] at hv';subst hv';refine ⟨x,ll,?_,hw,g2,g3⟩;simp only [VR];exact ⟨rfl,_,rfl,VRL.cons (by simp only [VR]) (VRL.cons g1 VRL.nil)⟩
end Go.Ev
namespace Go.Ev
open Go Go.RowKit Go.ChangeShapes Go.WideShapes Go.Deep Go.Joins
variable {H:Type} {enc:TypeId×Value->H} {P:Program}
theorem zcy {r:Reach} {b0 base:Nat} {held:Bool} {w:World} {hlw:mI w} {t ti tl tb:TypeId} {f0 f1:Field} {v:Value} {d:DataW H} {p:List MemPlace} (hs:P.underlying t=some (.struct #[f0,f1])) (hone:oneCellFields P #[f0,f1]=true) (hC:P.cellsOf t=2)
    (e0:f0.type=tl) (e1:f1.type=tb) (u0:P.underlying tl=some (.slice ti)) (u1:P.underlying ti=some (.int .i64)) (u2:P.underlying tb=some .bool) (c1:P.cellsOf ti=1)
    (hv:Value.okWide P w r b0 t v) (h:DataW.Trod enc P w base (λ_=>true) held t v d p) :
    ∃ (l:List Int) (b:Bool),VR (allE w hlw) (.agg [encI l,.bool b]) v/\l.length<=maxLen/\∀ n∈l,(Lit.int .i64 n).wf=true:=by
  obtain ⟨v0,v1,y0,y1,n,rfl,_,_,h0,h1⟩:=open_agg2 hs hone hC hv h;rw [e0] at h0;rw [e1] at h1;obtain ⟨x,hx,_⟩:=DataW.trod_bool u2 h1;simp only [List.cons.injEq,and_true] at hx;subst hx;obtain ⟨l,v',hv',g1,g2,g3⟩:=zbw u0 u1 c1 h0;simp only [List.cons.injEq,and_true] at hv';subst hv';refine ⟨l,x,?_,g2,g3⟩;simp only [VR];exact ⟨rfl,_,rfl,VRL.cons g1 (VRL.cons (by simp only [VR]) VRL.nil)⟩
end Go.Ev
/-
  For all arguments the law TopSpanKept returns true: the program's functions return what the reference returns, the results or the errors.
  Conditions: none but those of the given statement.
-/
namespace Go.Proofs.YtbghckepkajplabGreatDoor
open Go Go.Ev Go.ChangeShapes Go.WideShapes Go.ChangeAt Go.RowKit

theorem ownK:ownKnob Tryz.prog.godebug=none:=by kernel_rfl
theorem laidOut:laidOutB Tryz.prog=true:=by kernel_rfl
theorem zrj (os:Os) (args:Array Value):laidMetH Tryz.prog zdp ((World.doorLaid Tryz.prog 4000 os).forCall (λ_ _=>0) ⟨#[],args,[]⟩).memory :=
  laidMetH_of_parts3 (fuel:=8) (laidMet_of_run' 8 (by kernel_rfl) (by kernel_rfl)) (by kernel_rfl) (by kernel_rfl)

set_option maxRecDepth 100000 in
theorem law3_lifted (law:∀ (B:Nat) (c0:Int) (l0:List (List Int)) (g1:List Int) (b1:Bool) (l2:List Int),(Lit.int .i64 c0).wf=true->l0.length<=maxLen->(∀ l∈l0,l.length<=maxLen/\∀ n∈l,(Lit.int .i64 n).wf=true)->g1.length<=maxLen->(∀ n∈g1,(Lit.int .i64 n).wf=true)->l2.length<=maxLen->(∀ n∈l2,(Lit.int .i64 n).wf=true)->(CS Tryz.prog B).fn 3 (.of 3) [.agg [I c0,uz l0],.agg [Go.Ev.encI g1,.bool b1],Go.Ev.encI l2] .e .z m8=.ok True)
    (os:Os) (started:os.Started) (H:Type) (enc:TypeId×Value->H) :
    ReturnsInHanded {} Tryz.checked os 3 .any (λw args=>(Rows.topSpanKeptSpec.pre enc Tryz.prog Tryz.f3 [] false w args/\laidMetH Tryz.prog zdp w)/\sizedMet enc Tryz.prog Tryz.f3 (OpenSpec.ofChange Rows.topSpanKeptSpec) false w args)
      (Rows.topSpanKeptSpec.post enc Tryz.prog Tryz.f3 false true false false):=by
  refine returnsInHanded_of_change_and (C:=Tryz.checked) (X:=λw _=>laidMetH Tryz.prog zdp w) (λ_ _ _ hh h=>h.of_heap hh) ownK started (by kernel_rfl) Tryz.func3
    (ChangeSpec.witness_shaped (enc:=enc) (C:=Tryz.checked) (os:=os) (X:=λw _=>laidMetH Tryz.prog zdp w) false (World.doorLaid Tryz.prog 4000 os) #[.agg #[.int .i64 0,.slice none 0 0],.agg #[.slice none 0 0,.bool false],.slice none 0 0] 8 rfl (World.shaped_of_RefB (by kernel_rfl) (by kernel_rfl)) (by kernel_rfl) (by kernel_rfl) (by kernel_rfl) (zrj os _)) ?_
  intro W base args ds gs before hval0 hW _ _ hL _;have hval:∀ (j:Nat) t v,Tryz.f3.params[j]? = some t->args[j]? = some v->Value.okWide Tryz.prog W .any base t v:=hval0;have hW':=hW;obtain ⟨p,q,hA0,hV,rfl,hfz,hnd⟩:=hW;have hA:DataW.TrodAll enc Tryz.prog W 0 (λ_=>true) true Tryz.f3.params.toList args.toList ds p:=hA0;rw [Tryz.params3] at hA hval;obtain ⟨v0,v1,v2,d0,d1,d2,p0,p1,p2,rfl,rfl,rfl,h0,h1,h2⟩:=trodAll_three hA;obtain ⟨rfl,rfl⟩:=trodVars_none hV;obtain ⟨c0,l0,vr0,w0a,w0b,w0c⟩:=zho (hl:=zlt hL) Tryz.underlying24 (by kernel_rfl) (by kernel_rfl) rfl rfl Tryz.underlying3 Tryz.underlying22 Tryz.underlying25 (by kernel_rfl) (by kernel_rfl) (hval 0 24 v0 rfl rfl) h0;obtain ⟨g1,b1,vr1,w1a,w1b⟩:=zcy (hlw:=zlt hL) Tryz.underlying27 (by kernel_rfl) (by kernel_rfl) rfl rfl Tryz.underlying25 Tryz.underlying3 Tryz.underlying4 (by kernel_rfl) (hval 1 27 v1 rfl rfl) h1;obtain ⟨l2,vr2,w2a,w2b⟩:=zki (hl:=zlt hL) Tryz.underlying25 Tryz.underlying3 (by kernel_rfl) (hval 2 25 v2 rfl rfl) h2;refine (zno Tryz.func3 (by kernel_rfl) (by kernel_rfl) (hl:=zlt hL) (args:=[.agg [I c0,uz l0],.agg [Go.Ev.encI g1,.bool b1],Go.Ev.encI l2]) (VRL.cons vr0 (VRL.cons vr1 (VRL.cons vr2 VRL.nil))) (law _ c0 l0 g1 b1 l2 w0a w0b w0c w1a w1b w2a w2b)).mono λe W' ⟨he,hb⟩ => ?_;subst he
  exact ⟨_,rfl,znp laidOut (by
    rw [Tryz.params3];intro t ht;have h3:([24,27,25]:List TypeId).all (λt=>Tryz.prog.readableRec t&&decide (t<Tryz.prog.types.size))=true:=by kernel_rfl
    have:=List.all_eq_true.1 h3 t (by simpa using ht);simp only [Bool.and_eq_true,decide_eq_true_eq] at this;exact this) rfl (λds h=>by
    rw [Tryz.params3] at h
    match ds,h with
    | [_,_,_],_=>rfl) (tb:=4) (by kernel_rfl) Tryz.underlying4 hW' hb⟩

theorem fc3:joinedFacts Tryz.prog 3 Tryz.f3 Rows.topSpanKeptSpec Rows.topSpanKeptRow=true:=by
  unfold joinedFacts;have hp:Tryz.f3.params.all (Tryz.prog.readableRec ·)=true:=by rw [Tryz.params3];kernel_rfl
  simp only [Bool.and_eq_true];exact ⟨⟨⟨⟨⟨⟨⟨⟨⟨⟨⟨⟨⟨⟨⟨⟨⟨⟨⟨⟨⟨⟨⟨⟨⟨⟨⟨⟨⟨⟨⟨fc3_wf,zu3⟩,zu4⟩,hp⟩,fc3_tie⟩,by kernel_rfl⟩,zrb⟩,by kernel_rfl⟩,zrc⟩,fc3_inp⟩,fc3_unf⟩,fc3_rec⟩,fc3_named⟩,by kernel_rfl⟩,by kernel_rfl⟩,by kernel_rfl⟩,by kernel_rfl⟩,by kernel_rfl⟩,by kernel_rfl⟩,by kernel_rfl⟩,by kernel_rfl⟩,by kernel_rfl⟩,zu5⟩,by kernel_rfl⟩,zrd⟩,zzk⟩,zu0⟩,zu1⟩,by kernel_rfl⟩,by kernel_rfl⟩,by kernel_rfl⟩,by kernel_rfl⟩

theorem law3_row (law:∀ (B:Nat) (c0:Int) (l0:List (List Int)) (g1:List Int) (b1:Bool) (l2:List Int),(Lit.int .i64 c0).wf=true->l0.length<=maxLen->(∀ l∈l0,l.length<=maxLen/\∀ n∈l,(Lit.int .i64 n).wf=true)->g1.length<=maxLen->(∀ n∈g1,(Lit.int .i64 n).wf=true)->l2.length<=maxLen->(∀ n∈l2,(Lit.int .i64 n).wf=true)->(CS Tryz.prog B).fn 3 (.of 3) [.agg [I c0,uz l0],.agg [Go.Ev.encI g1,.bool b1],Go.Ev.encI l2] .e .z m8=.ok True):Rows.TopSpanKeptSaid :=
  OpenClaim.holds_of_wide 3 Tryz.f3 rfl rfl rfl rfl rfl rfl rfl ⟨rfl,rfl,rfl,rfl,rfl⟩ rfl rfl rfl rfl rfl (by kernel_rfl) Tryz.func3 fc3
    (of_decide_eq_true (by kernel_rfl)) (by unfold Func.isWrapper;first | (rw [if_pos (by decide +kernel)];kernel_rfl) | (rw [if_neg (by decide +kernel)];exact ⟨rfl,rfl⟩))
    (λos started H enc _=>law3_lifted law os started H enc)

theorem law3_card (law:∀ (B:Nat) (c0:Int) (l0:List (List Int)) (g1:List Int) (b1:Bool) (l2:List Int),(Lit.int .i64 c0).wf=true->l0.length<=maxLen->(∀ l∈l0,l.length<=maxLen/\∀ n∈l,(Lit.int .i64 n).wf=true)->g1.length<=maxLen->(∀ n∈g1,(Lit.int .i64 n).wf=true)->l2.length<=maxLen->(∀ n∈l2,(Lit.int .i64 n).wf=true)->(CS Tryz.prog B).fn 3 (.of 3) [.agg [I c0,uz l0],.agg [Go.Ev.encI g1,.bool b1],Go.Ev.encI l2] .e .z m8=.ok True):Rows.TopSpanKeptCardSaid :=
  Claim7.holds_tied_plain_at .later [] [.data,.data,.data] true (true, "a1b0eaec1afd78988894637db396427bd826e19b9063aad626341e567672ecd4") false
    (law3_row law) (λ_ h=>by cases h) fc3_wfT (λ_ h=>by cases h) topSpanKept_row_tie rfl ⟨rfl,rfl⟩ zu6 rfl
    (fun f fn hf hfn=>by
      obtain rfl:f=3:=Option.some.inj ((show Tryz.prog.funcNamed "talisman/talismantop.TopSpanKept" = some 3 by kernel_rfl).symm.trans hf) |>.symm;obtain rfl:fn=Tryz.f3:=(Option.some.inj (Tryz.func3.symm.trans hfn)).symm
      exact ⟨zre,λj t ht=>by
        rw [Tryz.params3] at ht;have hm:t∈([24,27,25]:List TypeId):=by simpa using Array.mem_of_getElem? ht
        have hall:(([24,27,25]:List TypeId).all λu => !Tryz.prog.wantsStandIn u)=true:=by kernel_rfl
        exact (show Tryz.prog.wantsStandIn t=false by simpa using List.all_eq_true.1 hall t hm)⟩)
    fc3_goes
end Go.Proofs.YtbghckepkajplabGreatDoor
/-
  The law of TopSpanKept.
-/
namespace Go.Proofs.YtbghckepkajplabGreatDoor
open Go Go.Ev
theorem topSpanKept_proved:Rows.TopSpanKeptCardSaid:=law3_card λB c0 l0 g1 b1 l2 _ _ _ _ _ h2 _=>by
  refine qdb (λ{B}=>zzn) _ _ _ _ ?_;rintro _ rfl _;exact if_pos rfl
end Go.Proofs.YtbghckepkajplabGreatDoor
